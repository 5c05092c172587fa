/- Ticks2: lemmas. No conditions. -/
import Derived.Test.YtfmfeplebgbpmaaGreatPipe4
namespace Go.Proofs.YtfmfeplebgbpmaaGreat
open Go.ChangeShapes Go.WideShapes Go.ChangeAt Go.RowKit Go.Deep
set_option linter.unusedVariables false
set_option linter.unusedSimpArgs false
set_option maxRecDepth 100000
abbrev bXZ:Ty:=.slice 5 (.int .u8)
abbrev vW:Ty:=.cMV bXZ (.cMV tI tI)
abbrev cE:=List Int×(Int×Int)
theorem bRQ {x:Int} {m:Nat} (hm:m<9223372036854775808):0<=aRQ .and .i64 x (m:Int)/\aRQ .and .i64 x (m:Int)<=m:=by
 unfold aRQ
 dsimp only
 have h1:(BitVec.ofInt IntKind.i64.bits (m:Int)).toNat=m:=by
  rw[BitVec.toNat_ofInt]
  show((m:Int) % ((2 ^ 64:Nat):Int)).toNat=m
  omega
 have h2:(BitVec.ofInt IntKind.i64.bits x &&& BitVec.ofInt IntKind.i64.bits (m:Int)).toNat<=m:=by
  rw[BitVec.toNat_and,h1]
  exact Nat.and_le_right
 rw[aBD (by show(-9223372036854775808:Int)<=_/\_<=(9223372036854775807:Int);omega)]
 omega
def hs (l:List Int):Nat->Int
 | 0=>10101+(l.length:Int)
 | k+1=>aRQ .and .i64 (hs l k * 131+l.getD k 0+7) 1073741823
theorem cL0 {l:List Int} (hl:l.length<=1048576):(k:Nat)->0<=hs l k/\hs l k<=1073741823
 | 0=>by unfold hs;omega
 | k+1=>by
  unfold hs
  exact bRQ (m:=1073741823) (by decide)
theorem cHG {w:World} {p:Option Addr} {n c:Nat} {l:List Int} (h:tC 1 (rd (.int .u8) w) w p n c l) (k:Nat) (hk:k<l.length) :
  ∃b off,p=some ⟨b,off,none⟩/\b<w.heap.size/\w.cell? ⟨b,off+k,none⟩=some (.int .u8 l[k])/\0<=l[k]/\l[k]<=255:=by
 obtain⟨b,off,hp,hb,cs,hl,hc,rfl,hw⟩:=h.2.2.2.2 k hk
 refine⟨b,off,hp,hb,?_,?_⟩
 ·have:=hc 0 (by simp)
  simpa using this
 ·have h2:IntKind.u8.min<=l[k]/\l[k]<=IntKind.u8.max:=by simpa [Lit.wf] using hw
  exact h2
theorem bTC (w:World) (p:Option Addr) (n c:Nat) (l:List Int) (h:tC 1 (rd (.int .u8) w) w p n c l) (hn:l.length<=1048576) :
  Calls Tryz.prog 92 #[.slice p n c] w fun e w'=>∃k:Nat,k=min l.length 4000/\e = .returned (.pointer (some ⟨w.heap.size,0,none⟩))/\w'=w.alloc (.cells #[.slice p l.length c,.int .i64 0,.int .i64 (hs l k)] 239):=by
 obtain rfl:=h.lens
 go_enter Tryz.func92,Tryz.ntmps92
 go_wp2
 go_loopw [3,4] (fun m i wr=>∃k:Nat,k<=l.length/\k<=4000/\i = .int .i64 k/\m = .int .i64 (hs l k)/\wr=w) (fun _ i _=>l.length - (intOf i).toNat)
 case atStart=>exact⟨0,by omega,by omega,rfl,rfl,rfl⟩
 case round =>
  obtain⟨k,hk,hk4,rfl,rfl,rfl⟩:=hrel
  have hb:=cL0 hn k
  by_cases hlt:k<l.length/\k<4000
  ·obtain⟨h1,h2⟩:=hlt
   obtain⟨b,off,rfl,hlb,e1,e2,e3⟩:=cHG h k h1
   have HS:Hid (hs l (k+1)=aRQ .and .i64 (hs l k * 131+l[k]+7) 1073741823):=Lib.hid (by rw[<-aP h1];rfl)
   obtain⟨x,hx⟩:∃x,l[k]=x:=⟨_,rfl⟩
   rw[hx] at e1 e2 e3 HS
   clear h hx
   generalize hs l k=y at hb HS⊢
   go_wp2
   go_roundw
   case rel=>exact⟨k+1,by omega,by omega,by go_num,by rw[HS.out];rfl,trivial⟩
   case measure=>simp[intOf];omega
  ·clear h
   go_wp2
   all_goals (go_ret;exact⟨k,by omega,rfl,rfl⟩)
def aXO (l:List Int):cE:=(l,0,hs l (min l.length 4000))
noncomputable def sI:Con:=⟨92,bXZ,vW,[.val ⟨false,bXZ,[]⟩],[⟨true,vW,[0,0,0]⟩],true,some 239,((fun x=>x.length<=1048576):List Int->Prop),((fun x=>aXO x):List Int->cE)⟩
theorem bK2:Con.Holds Tryz.prog sI:=by
 refine⟨fun x hp hx=>?_,⟨Tryz.f92,Tryz.func92,by kernel_rfl,by kernel_rfl⟩,fun X vs x ob ub hp hx hO hU hnd hbl Ew=>?_⟩
 ·have hb:=cL0 (l:=x) hp (min (List.length x) 4000)
  refine⟨hx,?_,?_⟩
  ·show(-9223372036854775808:Int)<=0/\(0:Int)<=9223372036854775807;omega
  ·show(-9223372036854775808:Int)<=hs x _/\hs x _<=(9223372036854775807:Int);omega
 ·change List Int at x
  change x.length<=1048576 at hp
  have e:gA (sI.ams.map (·.mv.t)) (SV.as (dI (sI.ams.map (·.mv.t))) ⟨sI.argTy,x⟩)=[⟨bXZ,x⟩]:=by
   have e:SV.as (dI (sI.ams.map (·.mv.t))) ⟨sI.argTy,x⟩=x:=SV.as_self _ _
   rw[e];rfl
  rw[e] at Ew
  obtain⟨v,vs',d,ds',o1,o2,u1,u2,rfl,hd,ho,hu,hv,hm,Ah,A7,Ep⟩:=Ew
  obtain⟨rfl,rfl⟩:=List.cons.inj hd
  rw[SV.as_self] at hm
  obtain⟨rfl,rfl,hr⟩:=bT1 rfl hm
  obtain⟨p,len,cap,c0,hsl⟩:=hr.rd (fun b hb=>hb.1)
  rw[c0] at hv hr
  have hv2:v = .slice p len cap:=hv
  subst hv2
  have hlen:len=x.length:=hsl.1
  subst hlen
  have hW:=bTC X.w0 p x.length cap x hsl hp
  subst Ah A7 Ep
  obtain rfl:ob=[]:=ho
  obtain rfl:ub=[]:=hu
  refine Calls.mono' hW ?_
  rintro e w' ⟨k,hk,rfl,rfl⟩
  subst hk
  refine⟨_,rfl,[.pointer (some ⟨X.w0.heap.size,0,none⟩)],[X.w0.heap.size],[],[],[],rfl,?_,?_,⟨rfl,rfl⟩,by simp,?_,by simp⟩
  ·have hB:=(Below.refl X.w0.heap.size X.w0).alloc (Nat.le_refl _) (.cells #[.slice p x.length cap,.int .i64 0,.int .i64 (hs x (min x.length 4000))] 239)
   exact⟨hB.os,hB.tape,hB.output,hB.size,fun b h1 _=>hB.block b h1⟩
  ·have e2:SV.as (dI (List.map (fun x=>x.t) (sI.rms++aBZ sI.ams))) ⟨sI.resTy,sI.fn x⟩=aXO x:=SV.as_self _ _
   rw[e2]
   have hb:=cL0 (l:=x) hp (min x.length 4000)
   refine⟨X.w0.heap.size,#[.slice p x.length cap,.int .i64 0,.int .i64 (hs x (min x.length 4000))],[],⟨vW,aXO x⟩,[],[],[],[],[],rfl,rfl,rfl,rfl,Go.heap_alloc_new _ _,?_,⟨rfl,rfl,rfl⟩⟩
   rw[SV.as_self]
   refine bNZ rfl ⟨[.slice p x.length cap],[.int .i64 0,.int .i64 (hs x (min x.length 4000))],rfl,?_,⟨[.int .i64 0],[.int .i64 (hs x (min x.length 4000))],rfl,⟨rfl,show(Lit.int .i64 0).wf=true by decide⟩,⟨rfl,?_⟩⟩⟩
   ·refine kS.mono (fun b hb=>?_) (fun b hb=>Below.heap_alloc _ _ _ hb.1) hr
    refine⟨Nat.lt_of_lt_of_le hb.1 (by simp),?_,hb.2.2.1,fun h=>by cases h⟩
    have:=hb.1
    simp;omega
   ·exact xX (show(-9223372036854775808:Int)<=hs x (min x.length 4000)/\hs x (min x.length 4000)<=(9223372036854775807:Int) by omega)
  ·intro b hb
   have hb2:b=X.w0.heap.size:=by simpa using hb
   subst hb2
   exact⟨by simp,.inl (Nat.le_refl _),fun hA=>by have:=X.hA _ hA;omega⟩
noncomputable section
set_option maxRecDepth 100000
theorem bWN (x:Int):0<=aRQ .and .i64 x 255/\aRQ .and .i64 x 255<=255:=bRQ (m:=255) (by decide)
theorem cM0 {α:Type} {l:List α} (h:l.length<=maxLen):l.length<=9223372036854775807:=by unfold maxLen at h;omega
theorem tmB {a n:Int} (ha:0<=a) (hn:0<n):0<=a.tmod n/\a.tmod n<n:=by
 rw[Int.tmod_eq_emod_of_nonneg ha]
 exact⟨Int.emod_nonneg _ (by omega),Int.emod_lt_of_pos _ hn⟩
theorem tdB {a p:Int} (h1:-600000<=a) (h2:a<=600000):-600000<=a.tdiv p/\a.tdiv p<=600000:=by
 have h:=Int.natAbs_tdiv a p
 have h3:=Nat.div_le_self a.natAbs p.natAbs
 have h4:a.natAbs.div p.natAbs=a.natAbs / p.natAbs:=rfl
 omega
theorem bXS {m:cC} (h:dD m=true) {k:Nat} (hk:k<m.length):1<=m[k].2.1/\m[k].2.1<=6/\1<=m[k].2.2.1/\m[k].2.2.1<=6:=by
 have:=((bO m).1 h).2.2 k hk
 obtain⟨⟨_,_,h1,h2,h3,h4,_⟩,_⟩:=(lO _).1 ((vO m hk).1 this).1
 exact⟨h1,h2,h3,h4⟩
theorem cK1 (m:cC):0<=kD m/\kD m<=6:=by
 unfold kD
 split
 ·rename_i h
  have hl:=(bO m).1 h
  have h0:0<m.length:=by omega
  have:=bXS h h0
  rw[aP h0]
  omega
 ·omega
theorem cGJ (m:cC):0<=eZ m/\eZ m<=6:=by
 unfold eZ
 split
 ·rename_i h
  have hl:=(bO m).1 h
  have h0:List.length m - 1<m.length:=by omega
  have:=bXS h h0
  rw[aP h0]
  omega
 ·omega
theorem cL8 {k i o:Int} (h1:1<=i) (h2:i<=6) (h3:1<=o) (h4:o<=6):0<=lJ (k,i,o,[])/\lJ (k,i,o,[])<=36:=by
 have:=bEP h1 h2 h3 h4
 unfold lJ
 dsimp only
 repeat' split
 all_goals omega
theorem cCG {k i o:Int} {P:List Int} (k1:1<=k) (k5:k<=5) (h1:1<=i) (h2:i<=6) (h3:1<=o) (h4:o<=6) (hk:k≠1->i=o) (hl:P.length=(lJ (k,i,o,[])).toNat) (ha:∀v∈P,nO v=true):opB (k,i,o,P)=true:=by
 have hs:=cL8 (k:=k) h1 h2 h3 h4
 refine(lO _).2 ⟨⟨k1,k5,h1,h2,h3,h4,hk,?_⟩,List.all_eq_true.2 ha⟩
 show(P.length:Int)=lJ (k,i,o,[])
 omega
def chB (l:List fP) (g:Int):Prop:=(∀i,i<l.length->bEF l i=true)/\(0<l.length->(l.getD (l.length - 1) zOp).2.2.1=g)
theorem cBH {l:List fP} {o:fP} {g:Int} (h:chB l g) (ho:opB o=true) (hi:o.2.1=g):chB (l++[o]) o.2.2.1:=by
 have e:∀j,j<l.length->(l++[o]).getD j zOp=l.getD j zOp:=fun j hj=>by
  rw[List.getD_eq_getElem?_getD,List.getD_eq_getElem?_getD,List.getElem?_append_left hj]
 have e2:(l++[o]).getD l.length zOp=o:=by
  rw[List.getD_eq_getElem?_getD,List.getElem?_append_right (Nat.le_refl _),Nat.sub_self];rfl
 have el:(l++[o]).length=l.length+1:=by rw[List.length_append];rfl
 refine⟨fun i hlt=>?_,fun _=>?_⟩
 ·rw[el] at hlt
  rcases Nat.lt_or_eq_of_le (Nat.le_of_lt_succ hlt) with h1|rfl
  ·have:=h.1 i h1
   unfold bEF at this⊢
   rw[e i h1,e (i - 1) (by omega)];exact this
  ·unfold bEF
   rw[e2,ho]
   by_cases h0:l.length=0
   ·rw[decide_eq_true h0];rfl
   ·rw[e (l.length - 1) (by omega),h.2 (by omega),decide_eq_true (show g=o.2.1 from hi.symm),Bool.or_true];rfl
 ·rw[el,Nat.add_sub_cancel,e2]
theorem bYE {v:List Int} {n:Int} (h1:1<=n) (h6:n<=6) (hl:v.length=n.toNat) (ha:∀x∈v,nO x=true):dX v n=true:=by
 unfold dX
 rw[(dH v).2 ⟨by omega,by omega,List.all_eq_true.2 ha⟩,decide_eq_true (show(v.length:Int)=n by omega)];rfl
theorem cL6 {m:cC} (h:dD m=true):1<=kD m/\1<=eZ m:=by
 have hl:=(bO m).1 h
 unfold kD eZ
 rw[if_pos h,if_pos h]
 have h0:=bXS h (show 0<m.length by omega)
 have h9:=bXS h (show m.length - 1<m.length by omega)
 rw[aP (show 0<m.length by omega),aP (show List.length m - 1<m.length by omega)]
 exact⟨h0.1,h9.2.2.1⟩
theorem okI {n:Int} (h1:-9223372036854775808<=n) (h2:n<=9223372036854775807):okD tI n:=⟨h1,h2⟩
theorem okL {e:TypeId} {l:List Int} (hl:l.length<=1000) (h:∀y∈l,-9223372036854775808<=y/\y<=9223372036854775807):okD (.slice e tI) l:=⟨by unfold maxLen;exact Nat.le_trans hl (by decide),h⟩
def aDE:Con:=⟨202,gO,aSH,[.box 239 ⟨true,gO,[]⟩],[⟨false,tI,[0]⟩],false,none,
 ((fun x=>0<=x.2.1):(cE)->Prop),
 ((fun _=>aK (.cMV tI (.cMV (.slice 5 (.int .u8)) aU))):(cE)->(Int×cE))⟩
def bG7:T:=mL (.arw .mul .i64) (fA aV aU 2) 6364136223846793005 <| mL (.arw .add .i64) aZ 1442695040888963407 <| vC (.shr .i64 .u64) (.int .u64) bM (.ci .u64 33) <| vC (.shr .i64 .u64) (.int .u64) bM (.ci .u64 45) <| lR (.bits .xor .i64) eG 4 <| mL (.bits .and .i64) fF 255 <| gL 5 jV (bS aV aU) <| gB (qE bP) 7 8 (bZ 5 jV aV (bS aV aU) (qE bP) <| aGX .u8 .i64 9 <| lR (.arw .add .i64) cQ 10 <| mL (.bits .and .i64) cO 255 <| bVQ (.arw .add .i64) (qE bP) <| uR (zZ aU) [fE,bS aV aU,eM,bM]) (oH (zZ aU) [cQ,bS aV aU,qE bP,bM])
theorem aSV:Rl aDE (fun x r=>0<=r.1/\r.1<=255/\0<=r.2.2.1:(cE)->(Int×cE)->Prop):=rk true ⟨[],[]⟩ bG7 aH fun(x:cE) hx hp=>by
 dsimp only [aDE] at hx hp⊢
 obtain⟨b,i,h⟩:=x
 change 0<=i at hp
 have hb:b.length<=9223372036854775807:=cM0 hx.1.1
 delta bG7;refine dR ?_
 (refine dQ ?_;try with_reducible exact True.intro)
 (repeat' first|intro _|(with_reducible apply And.intro))
 all_goals first|omega|exact(bWN _).1|exact(bWN _).2|(rw[aBD (by show(-9223372036854775808:Int)<=_/\_<=(9223372036854775807:Int);omega)];omega)
def aGC:(cE)->(Int×cE):=Classical.choose aSV
def aKU:Con:={ aDE with fn:=aGC }
theorem aSO:Con.Holds Tryz.prog aKU:=(Classical.choose_spec aSV).2
theorem aCA (x:cE) (hx:okD gO x) (hp:(fun x=>0<=x.2.1) x):okD aSH (aGC x)/\(fun x r=>0<=r.1/\r.1<=255/\0<=r.2.2.1:(cE)->(Int×cE)->Prop) x (aGC x):=Rl.q aSV hx hp
def jJ:Con:=⟨113,aSN,aSH,[.box 239 ⟨true,gO,[]⟩,.val ⟨false,tI,[]⟩],[⟨false,tI,[0]⟩],false,none,
 ((fun x=>0<=x.1.2.1):(cE×Int)->Prop),
 ((fun _=>aK (.cMV tI (.cMV (.slice 5 (.int .u8)) aU))):(cE×Int)->(Int×cE))⟩
def aZL:T:=aBJ .leq aEX aN 1 (wJ bP (fQ bP)) <| vH .leq aEX (fX 256) 2 (nC (fQ bP) <| fR aDA qH aEX <| jB tI bP dY (mQ 3)) <| eK 0 (fQ bP) 0 (mQ 3) <| eK 0 zG 0 (mQ 5) <| mL pY qH 16777216 <| mL pY tF 65536 <| mF jT tI tI 7 8 <| mL pY (kX 5) 256 <| lR jT cU 10 <| fR jT cO (kX 6) <| fR aDA fE aEX <| jB tI bP eM (mQ 6)
theorem aNN:Rl jJ (fun x r=>0<=r.1/\(0<x.2->r.1<x.2)/\(x.2<=0->r.1=0)/\0<=r.2.2.1:(cE×Int)->(Int×cE)->Prop):=rk false ⟨[],[]⟩ aZL (aC aSO aH) fun(x:cE×Int) hx hp=>by
 dsimp only [jJ] at hx hp⊢
 obtain⟨⟨b,i,h⟩,n⟩:=x
 change 0<=i at hp
 have q1:=aCA (b,i,h) hx.1 hp
 have q2:=aCA _ q1.1.2 q1.2.2.2
 have q3:=aCA _ q2.1.2 q2.2.2.2
 have q4:=aCA _ q3.1.2 q3.2.2.2
 replace q1:=q1.2
 replace q2:=q2.2
 replace q3:=q3.2
 replace q4:=q4.2
 dsimp only at q1 q2 q3 q4
 delta aZL aKU aDE;refine dR ?_
 (refine dQ ?_;try with_reducible exact True.intro)
 (repeat' first|intro _|(with_reducible apply And.intro))
 all_goals first|omega|exact(tmB (by omega) (by omega)).1|exact(tmB (by omega) (by omega)).2|trivial
def dV:(cE×Int)->(Int×cE):=Classical.choose aNN
def lP:Con:={ jJ with fn:=dV }
theorem mO:Con.Holds Tryz.prog lP:=(Classical.choose_spec aNN).2
theorem eE (x:cE×Int) (hx:okD aSN x) (hp:(fun x=>0<=x.1.2.1) x):okD aSH (dV x)/\(fun x r=>0<=r.1/\(0<x.2->r.1<x.2)/\(x.2<=0->r.1=0)/\0<=r.2.2.1:(cE×Int)->(Int×cE)->Prop) x (dV x):=Rl.q aNN hx hp
def aC8:Con:=⟨127,aSN,(.cMV .bool gO),[.box 239 ⟨true,gO,[]⟩,.val ⟨false,tI,[]⟩],[⟨false,.bool,[0]⟩],false,none,
 ((fun x=>0<=x.1.2.1):(cE×Int)->Prop),
 ((fun _=>aK (.cMV .bool (.cMV (.slice 5 (.int .u8)) aU))):(cE×Int)->(Bool×cE))⟩
def bH9:T:=hZ <| sS .eql (kX 1) aN <| jB .bool bP bM (mQ 1)
theorem aUI:Rl aC8 (fun x r=>0<=r.2.2.1:(cE×Int)->(Bool×cE)->Prop):=rk false ⟨[],[]⟩ bH9 (aC mO aH) fun(x:cE×Int) hx hp=>by
 dsimp only [aC8] at hx hp⊢
 have q1:=(eE x hx hp).2
 delta bH9 lP jJ;refine dR ?_
 exact⟨hp,fun _=>q1.2.2.2⟩
def aCG:(cE×Int)->(Bool×cE):=Classical.choose aUI
def aKQ:Con:={ aC8 with fn:=aCG }
theorem aTJ:Con.Holds Tryz.prog aKQ:=(Classical.choose_spec aUI).2
theorem aTA (x:cE×Int) (hx:okD aSN x) (hp:(fun x=>0<=x.1.2.1) x):okD (.cMV .bool gO) (aCG x)/\(fun x r=>0<=r.2.2.1:(cE×Int)->(Bool×cE)->Prop) x (aCG x):=Rl.q aUI hx hp
def rH:Con:=⟨129,(.cMV gO aA),aSH,[.box 239 ⟨true,gO,[]⟩,.val ⟨false,aA,[]⟩],[⟨false,tI,[0]⟩],false,none,
 ((fun x=>0<=x.1.2.1/\x.2≠[]):(cE×bX)->Prop),
 ((fun _=>aK (.cMV tI (.cMV (.slice 5 (.int .u8)) aU))):(cE×bX)->(Int×cE))⟩
def aS5:T:=cK (tO bP) <| dF 0 bP (bS bP aA) aZ <| jZ 3 (tO bP) (kX 2) <| jB tI bP eG cL9
theorem aIZ:Rl rH (fun x r=>r.1∈x.2/\0<=r.2.2.1:(cE×bX)->(Int×cE)->Prop):=rk false ⟨[],[]⟩ aS5 (aC mO aH) fun(x:cE×bX) hx hp=>by
 dsimp only [rH] at hx hp⊢
 obtain⟨c,l⟩:=x
 obtain⟨hp,hl⟩:0<=c.2.1/\l≠[]:=hp
 have hm:=cM0 (show List.length l<=maxLen from hx.2.1)
 have hl0:0<l.length:=List.length_pos_iff.2 hl
 have q1:=(eE (c,(l.length:Int)) ⟨hx.1,show(-9223372036854775808:Int)<=_/\_<=(9223372036854775807:Int) by omega⟩ hp).2
 dsimp only at q1
 delta aS5 lP jJ;refine dR ?_
 have hlt:((dV (c,(l.length:Int))).1:Int).toNat<l.length:=by omega
 refine fun _=>⟨hp,fun _=>⟨⟨q1.1,by omega⟩,fun _=>⟨?_,q1.2.2.2⟩⟩⟩
 rw[aP hlt]
 exact List.getElem_mem hlt
def tD:(cE×bX)->(Int×cE):=Classical.choose aIZ
def vP:Con:={ rH with fn:=tD }
theorem zQ:Con.Holds Tryz.prog vP:=(Classical.choose_spec aIZ).2
theorem zN (x:cE×bX) (hx:okD (.cMV gO aA) x) (hp:(fun x=>0<=x.1.2.1/\x.2≠[]) x):okD aSH (tD x)/\(fun x r=>r.1∈x.2/\0<=r.2.2.1:(cE×bX)->(Int×cE)->Prop) x (tD x):=Rl.q aIZ hx hp
def aJW:Con:=⟨339,gO,aSH,[.box 239 ⟨true,gO,[]⟩],[⟨false,tI,[0]⟩],false,none,
 ((fun x=>0<=x.2.1):(cE)->Prop),
 ((fun _=>aK (.cMV tI (.cMV (.slice 5 (.int .u8)) aU))):(cE)->(Int×cE))⟩
def bJI:T:=mU 0 bP bJ 12 <| nE (kX 1) aN 2 (vA (wN 3 6) (xO (xO aU)) [fX 2147483647,bDU,fX 2147483646,bF,aXF,aN] <| mT 1 bP (mQ 1) eG aD7) <| nE (kX 1) bF 3 (mU 0 bP (mQ 1) 4000 <| mL mY tF 2000 <| mL pY fF 997 <| jB tI bP cQ zG) <| iL (kX 1) 2 4 (mU 0 bP (mQ 1) 9 <| mL mY (kX 5) 4 <| jB tI bP cQ (mQ 5)) <| mU 0 bP (mQ 1) 17 <| mL mY (kX 5) 8 <| mL pY cQ 65536 <| vA (wN 3 5) (fM (xO aU)) [bF,bF,aA2,aMI,aP7] <| mT 1 bP (mQ 5) cM <| fR (.quo .i64) cY (kX 9) <| jB tI bP cI (mQ 9)
theorem aZ7:Rl aJW (fun x r=>nO r.1=true/\0<=r.2.2.1:(cE)->(Int×cE)->Prop):=rk false ⟨[],[(2989,3003,[8],[]),(2981,8005,[26],[])]⟩ bJI (aC mO (aC zQ aH)) fun(x:cE) hx hp=>by
 dsimp only [aJW] at hx hp⊢
 have q1:=eE (x,12) ⟨hx,okI (by omega) (by omega)⟩ hp
 delta bJI lP jJ vP rH;refine dR ?_
 refine dQ ?_
 refine⟨hp,fun _=>?_⟩
 generalize dV (x,12)=r at q1⊢;obtain⟨n1,c1⟩:=r;obtain⟨kq1,uq1⟩:=q1;replace kq1:okD vW c1:=kq1.2;dsimp only at uq1⊢
 refine⟨fun _ _=>⟨⟨uq1.2.2.2,fun h=>by cases h⟩,fun _=>?_⟩,fun _=>⟨fun _=>⟨uq1.2.2.2,fun _=>?_⟩,fun _=>⟨fun _=>⟨uq1.2.2.2,fun _=>?_⟩,fun _=>⟨uq1.2.2.2,fun _=>?_⟩⟩⟩⟩
 ·have b0:=(zN (c1,[2147483647,-2147483647,2147483646,1,-1,0]) ⟨kq1,okL (e:=3) (by show 6<=1000;omega) (by intro y hy;simp at hy;omega)⟩ ⟨uq1.2.2.2,by simp⟩).2
  generalize tD (c1,[2147483647,-2147483647,2147483646,1,-1,0])=r at b0⊢
  have:=b0.1
  simp only[List.mem_cons,List.mem_nil_iff,or_false] at this
  exact⟨(vM _).2 ⟨by omega,by omega⟩,b0.2⟩
 ·have a1:=(eE (c1,4000) ⟨kq1,okI (by omega) (by omega)⟩ uq1.2.2.2).2
  generalize dV (c1,4000)=r at a1⊢
  dsimp only at a1
  (repeat' first|intro _|(with_reducible apply And.intro))
  all_goals first|omega|exact(vM _).2 ⟨by omega,by omega⟩
 ·have a1:=(eE (c1,9) ⟨kq1,okI (by omega) (by omega)⟩ uq1.2.2.2).2
  generalize dV (c1,9)=r at a1⊢
  dsimp only at a1
  (repeat' first|intro _|(with_reducible apply And.intro))
  all_goals first|omega|exact(vM _).2 ⟨by omega,by omega⟩
 ·have q2:=eE (c1,17) ⟨kq1,okI (by omega) (by omega)⟩ uq1.2.2.2
  generalize dV (c1,17)=r at q2⊢;obtain⟨n2,c2⟩:=r;obtain⟨kq2,uq2⟩:=q2;replace kq2:okD vW c2:=kq2.2;dsimp only at uq2⊢
  refine⟨by omega,fun _=>⟨by omega,fun _ _=>⟨⟨uq2.2.2.2,fun h=>by cases h⟩,fun _=>?_⟩⟩⟩
  have b0:=(zN (c2,[1,1,2,4,3]) ⟨kq2,okL (e:=3) (by show 5<=1000;omega) (by intro y hy;simp at hy;omega)⟩ ⟨uq2.2.2.2,by simp⟩).2
  generalize tD (c2,[1,1,2,4,3])=r at b0⊢
  have:=b0.1
  simp only[List.mem_cons,List.mem_nil_iff,or_false] at this
  have t1:=tdB (a:=(n2 - 8) * 65536) (p:=r.1) (by omega) (by omega)
  (repeat' first|intro _|(with_reducible apply And.intro))
  all_goals first|omega|exact(vM _).2 ⟨by omega,by omega⟩|exact b0.2
def aX7:(cE)->(Int×cE):=Classical.choose aZ7
def aY8:Con:={ aJW with fn:=aX7 }
theorem bL2:Con.Holds Tryz.prog aY8:=(Classical.choose_spec aZ7).2
theorem bKJ (x:cE) (hx:okD gO x) (hp:(fun x=>0<=x.2.1) x):okD aSH (aX7 x)/\(fun x r=>nO r.1=true/\0<=r.2.2.1:(cE)->(Int×cE)->Prop) x (aX7 x):=Rl.q aZ7 hx hp
def aG5:Con:=⟨276,aSN,(.cMV aA gO),[.box 239 ⟨true,gO,[]⟩,.val ⟨false,tI,[]⟩],[⟨false,aA,[2]⟩],false,none,
 ((fun x=>0<=x.1.2.1/\x.2<=1000):(cE×Int)->Prop),
 ((fun _=>aK (.cMV aA (.cMV (.slice 5 (.int .u8)) aU))):(cE×Int)->(bX×cE))⟩
def bKX:T:=xF aGU aGU [aN,aB7 aV aU bP,gS bP 1 bP 0,xQ bP 2 bP,bA] <| xA tI tI (cB iW 1) aEX <| jL 2 (gQ 0 bP [cL iW 1 1,cL iW 2 1,cL iW 3 1] <| gD 3 tI qH <| lS 3 8 aA aA (fY iW 4 1) 4 <| gF (cB iW 1) 0 aGU [cQ,qV 1 3,qV 2 3,aCB 3 3,fF]) (oH aGH (uY (fY iW 4 1) (cL iW 1 1) iW 2 1 (cL iW 3 1)))
theorem aZ9:Rl aG5 (fun x r=>r.1.length=x.2.toNat/\(∀v∈r.1,nO v=true)/\0<=r.2.2.1:(cE×Int)->(bX×cE)->Prop):=rk false ⟨[(2991,1001,[.dr 7,.tm 6 0,.on 5,.bx 1 0,.bx 1 1,.bx 1 2,.sl 2])],[]⟩ bKX (aC bL2 aH) fun(x:cE×Int) hx hp=>by
 dsimp only [aG5] at hx hp⊢
 obtain⟨c,n⟩:=x
 obtain⟨hp,hn⟩:0<=c.2.1/\n<=1000:=hp
 delta bKX aY8 aJW;refine dR ?_
 refine⟨fun s=>∃k:Nat,k<=n.toNat/\s.1=(k:Int)/\List.length s.2.2.2.2=k/\(∀v∈s.2.2.2.2,nO v=true)/\@LE.le Int _ 0 s.2.2.1,fun s=>(n - s.1:Int).toNat,⟨0,Nat.zero_le _,rfl,rfl,fun v h=>by simp at h,hp⟩,fun s hs hI=>?_⟩
 obtain⟨j,b,i,h,l⟩:=s
 obtain⟨k,hk,e1,e2,e3,e4⟩:=hI
 change Int at j
 change j=(k:Int) at e1
 subst e1
 change List Int at l
 change l.length=k at e2
 change ∀v∈l,nO v=true at e3
 change 0<=(i:Int) at e4
 have q:=(bKJ (b,i,h) ⟨hs.2.1,hs.2.2.1,hs.2.2.2.1⟩ e4).2
 try dsimp only
 refine dQ ?_
 refine⟨fun hlt=>⟨e4,fun _ _=>⟨⟨by omega,by unfold maxLen;omega⟩,fun _=>⟨by omega,fun _=>⟨⟨k+1,by omega,pk1,by rw[e2],fun v hv=>?_,q.2⟩,by omega⟩⟩⟩⟩,fun hge=>⟨by omega,e3,e4⟩⟩
 rcases List.mem_append.1 hv with hv|hv
 ·exact e3 v hv
 ·rw[List.mem_singleton] at hv
  rw[hv];exact q.1
def aFX:(cE×Int)->(bX×cE):=Classical.choose aZ9
def aQT:Con:={ aG5 with fn:=aFX }
theorem aZB:Con.Holds Tryz.prog aQT:=(Classical.choose_spec aZ9).2
theorem aFZ (x:cE×Int) (hx:okD aSN x) (hp:(fun x=>0<=x.1.2.1/\x.2<=1000) x):okD (.cMV aA gO) (aFX x)/\(fun x r=>r.1.length=x.2.toNat/\(∀v∈r.1,nO v=true)/\0<=r.2.2.1:(cE×Int)->(bX×cE)->Prop) x (aFX x):=Rl.q aZ9 hx hp
def aR5:Con:=⟨277,gO,aSH,[.box 239 ⟨true,gO,[]⟩],[⟨false,tI,[0]⟩],false,none,
 ((fun x=>0<=x.2.1):(cE)->Prop),
 ((fun _=>aK (.cMV tI (.cMV (.slice 5 (.int .u8)) aU))):(cE)->(Int×cE))⟩
def bJ5:T:=mU 0 bP bJ 8 <| .ite (iT .bool 1) (vA (wN 3 4) (xO aU) [fX 2147483648,fX (-2147483648),fX 9223372036854775807,fX (-9223372036854775807)] <| mT 1 bP (mW (kT aV aU) 1) bM <| cF 3) <| aBK (mW (kT aV aU) 1) <| cF 2
theorem aXX:Rl aR5 (fun x r=>0<=r.2.2.1:(cE)->(Int×cE)->Prop):=rk false ⟨[],[(2992,3002,[6],[])]⟩ bJ5 (aC aTJ (aC zQ (aC bL2 aH))) fun(x:cE) hx hp=>by
 dsimp only [aR5] at hx hp⊢
 have q1:=aTA (x,8) ⟨hx,okI (by omega) (by omega)⟩ hp
 delta bJ5 aKQ aC8 vP rH aY8 aJW;refine dR ?_
 refine dQ ?_
 refine⟨hp,fun _=>?_⟩
 generalize aCG (x,8)=r at q1⊢;obtain⟨n1,c1⟩:=r;obtain⟨k1,u1⟩:=q1;replace k1:okD vW c1:=k1.2;dsimp only at u1⊢
 refine⟨fun _ _=>⟨⟨u1,fun h=>by cases h⟩,fun _=>?_⟩,fun _=>⟨u1,fun _=>?_⟩⟩
 ·exact(zN (c1,[2147483648,-2147483648,9223372036854775807,-9223372036854775807]) ⟨k1,okL (e:=3) (by show 4<=1000;omega) (by intro y hy;simp at hy;omega)⟩ ⟨u1,by simp⟩).2.2
 ·exact(bKJ c1 k1 u1).2.2
def aY3:(cE)->(Int×cE):=Classical.choose aXX
def bJU:Con:={ aR5 with fn:=aY3 }
theorem bZC:Con.Holds Tryz.prog bJU:=(Classical.choose_spec aXX).2
theorem cAE (x:cE) (hx:okD gO x) (hp:(fun x=>0<=x.2.1) x):okD aSH (aY3 x)/\(fun x r=>0<=r.2.2.1:(cE)->(Int×cE)->Prop) x (aY3 x):=Rl.q aXX hx hp
def aQU:Con:=⟨186,gO,(.cMV aA gO),[.box 239 ⟨true,gO,[]⟩],[⟨false,aA,[2]⟩],false,none,
 ((fun x=>0<=x.2.1):(cE)->Prop),
 ((fun _=>aK (.cMV aA (.cMV (.slice 5 (.int .u8)) aU))):(cE)->(bX×cE))⟩
def bKT:T:=mU 0 bP bJ 4 <| fR jT bF (kX 1) <| dF 1 bP (mQ 1) bM <| mU 0 bP (mW aGH 3) 16 <| nE tF aN 5 (aBK zG <| jZ 3 (iT aA 3) aN <| sZ 3 tI (aC2 aA) (xR (iT aA 3) (kX 6)) <| jB aA bP cM (mQ 6)) <| nE tF bF 6 (vA (wN 3 3) iK (bVO aN uJ 7) <| mT 3 bP zG cY <| dF 1 bP (mQ 8) (kX 8) <| cF 9) <| jB aA bP (iT aA 3) zG
theorem aXA:Rl aQU (fun x r=>r.1.length<=7/\0<=r.2.2.1:(cE)->(bX×cE)->Prop):=rk false ⟨[],[(2984,6007,[21],[])]⟩ bKT (aC mO (aC aZB (aC bZC (aC zQ aH)))) fun(x:cE) hx hp=>by
 dsimp only [aQU] at hx hp⊢
 have q1:=eE (x,4) ⟨hx,okI (by omega) (by omega)⟩ hp
 delta bKT lP jJ aQT aG5 bJU aR5 vP rH;refine dR ?_
 refine dQ ?_
 refine⟨hp,fun _=>?_⟩
 generalize dV (x,4)=r at q1⊢;obtain⟨n1,c1⟩:=r;obtain⟨kq1,uq1⟩:=q1;replace kq1:okD vW c1:=kq1.2;dsimp only at uq1⊢
 refine⟨by omega,fun _=>⟨⟨uq1.2.2.2,by omega⟩,fun _=>?_⟩⟩
 have q2:=aFZ (c1,1+n1) ⟨kq1,okI (by omega) (by omega)⟩ ⟨uq1.2.2.2,by show 1+n1<=1000;omega⟩
 generalize aFX (c1,1+n1)=r at q2⊢;obtain⟨l2,c2⟩:=r;obtain⟨kq2,uq2⟩:=q2;replace kq2:okD vW c2:=kq2.2;dsimp only at uq2⊢
 refine⟨uq2.2.2,fun _=>?_⟩
 have q3:=eE (c2,16) ⟨kq2,okI (by omega) (by omega)⟩ uq2.2.2
 generalize dV (c2,16)=r at q3⊢;obtain⟨n3,c3⟩:=r;obtain⟨kq3,uq3⟩:=q3;replace kq3:okD vW c3:=kq3.2;dsimp only at uq3⊢
 have hl2:List.length l2<=4:=by have:=uq2.1;omega
 refine⟨fun _=>⟨uq3.2.2.2,fun _=>?_⟩,fun _=>⟨fun _ _=>⟨⟨uq3.2.2.2,fun h=>by cases h⟩,fun _=>?_⟩,fun _=>⟨by omega,uq3.2.2.2⟩⟩⟩
 ·have q4:=(cAE c3 kq3 uq3.2.2.2).2
  (repeat' first|intro _|(with_reducible apply And.intro))
  all_goals first|omega|exact q4|(rw[List.length_set];omega)
 ·have q5:=zN (c3,[0,6,7]) ⟨kq3,okL (e:=3) (by show 3<=1000;omega) (by intro y hy;simp at hy;omega)⟩ ⟨uq3.2.2.2,by simp⟩
  generalize tD (c3,[0,6,7])=r at q5⊢;obtain⟨n5,c5⟩:=r;obtain⟨k5,u5⟩:=q5;dsimp only at u5⊢
  have m5:=u5.1
  simp only[List.mem_cons,List.mem_nil_iff,or_false] at m5
  refine⟨⟨u5.2,by omega⟩,fun _=>?_⟩
  have q6:=(aFZ (c5,n5) ⟨k5.2,k5.1⟩ ⟨u5.2,by show n5<=1000;omega⟩).2
  dsimp only at q6
  exact⟨by rw[q6.1];omega,q6.2.2⟩
def aZ3:(cE)->(bX×cE):=Classical.choose aXA
def bIX:Con:={ aQU with fn:=aZ3 }
theorem bZS:Con.Holds Tryz.prog bIX:=(Classical.choose_spec aXA).2
theorem bZB (x:cE) (hx:okD gO x) (hp:(fun x=>0<=x.2.1) x):okD (.cMV aA gO) (aZ3 x)/\(fun x r=>r.1.length<=7/\0<=r.2.2.1:(cE)->(bX×cE)->Prop) x (aZ3 x):=Rl.q aXA hx hp
def aWQ:Con:=⟨342,aSN,(.cMV bK gO),[.box 239 ⟨true,gO,[]⟩,.val ⟨false,tI,[]⟩],[⟨true,bK,[0,0,0,2]⟩],false,none,
 ((fun x=>0<=x.1.2.1/\1<=x.2/\x.2<=6):(cE×Int)->Prop),
 ((fun _=>aK (.cMV bK (.cMV (.slice 5 (.int .u8)) aU))):(cE×Int)->(fP×cE))⟩
def bRM:T:=mU 0 bP (fQ bP) 5 <| fR jT bF (kX 1) <| nE bM bF 3 (mU 0 bP (mQ 1) 3 <| fR jT bF tF <| gQ 1 bK [bM,aEX,fF,bA] <| dF 2 bP zG cQ <| aA7 bK bP bK [bM,aEX,fF,iT aA 7] (mW aGH 7)) <| gQ 1 bK [bM,aEX,aEX,bA] <| dF 2 bP (mQ 1) dY <| aA7 bK bP bK [bM,aEX,aEX,iT aA 5] (mW aGH 5)
theorem bG1:Rl aWQ (fun x r=>(opB r.1=true/\r.1.2.1=x.2)/\0<=r.2.2.1:(cE×Int)->(fP×cE)->Prop):=rk false ⟨[],[]⟩ bRM (aC mO (aC bEW (aC aZB aH))) fun(x:cE×Int) hx hp=>by
 dsimp only [aWQ] at hx hp⊢
 obtain⟨c,n⟩:=x
 obtain⟨hp,Ah,A7⟩:0<=c.2.1/\1<=n/\n<=6:=hp
 have q1:=eE (c,5) ⟨hx.1,okI (by omega) (by omega)⟩ hp
 delta bRM lP jJ aM5 aQT aG5;refine dR ?_
 refine dQ ?_
 refine⟨hp,fun _=>?_⟩
 generalize dV (c,5)=r at q1⊢;obtain⟨n1,c1⟩:=r;obtain⟨k1,u1⟩:=q1;replace k1:okD vW c1:=k1.2;dsimp only at u1⊢
 refine⟨by omega,fun _=>⟨fun h1=>⟨u1.2.2.2,fun _=>?_⟩,fun h1 hs=>?_⟩⟩
 ·have q2:=eE (c1,3) ⟨k1,okI (by omega) (by omega)⟩ u1.2.2.2
  generalize dV (c1,3)=r at q2⊢;obtain⟨n2,c2⟩:=r;obtain⟨k2,u2⟩:=q2;replace k2:okD vW c2:=k2.2;dsimp only at u2⊢
  have hz:=cL8 (k:=1+n1) (i:=n) (o:=1+n2) Ah A7 (by omega) (by omega)
  refine⟨by omega,fun _ hs=>⟨⟨u2.2.2.2,by omega⟩,fun _=>?_⟩⟩
  have q3:=(aFZ (c2,lJ (1+n1,n,1+n2,[])) ⟨k2,hs⟩ ⟨u2.2.2.2,by show lJ (1+n1,n,1+n2,[])<=1000;omega⟩).2
  exact⟨⟨cCG (by omega) (by omega) Ah A7 (by omega) (by omega) (by omega) q3.1 q3.2.1,trivial⟩,q3.2.2⟩
 ·have hz:=cL8 (k:=1+n1) (i:=n) (o:=n) Ah A7 Ah A7
  refine⟨⟨u1.2.2.2,by omega⟩,fun _=>?_⟩
  have q3:=(aFZ (c1,lJ (1+n1,n,n,[])) ⟨k1,hs⟩ ⟨u1.2.2.2,by show lJ (1+n1,n,n,[])<=1000;omega⟩).2
  exact⟨⟨cCG (by omega) (by omega) Ah A7 Ah A7 (fun _=>rfl) q3.1 q3.2.1,trivial⟩,q3.2.2⟩
def aVY:(cE×Int)->(fP×cE):=Classical.choose bG1
def bRW:Con:={ aWQ with fn:=aVY }
theorem cDB:Con.Holds Tryz.prog bRW:=(Classical.choose_spec bG1).2
theorem cAZ (x:cE×Int) (hx:okD aSN x) (hp:(fun x=>0<=x.1.2.1/\1<=x.2/\x.2<=6) x):okD (.cMV bK gO) (aVY x)/\(fun x r=>(opB r.1=true/\r.1.2.1=x.2)/\0<=r.2.2.1:(cE×Int)->(fP×cE)->Prop) x (aVY x):=Rl.q bG1 hx hp
def aHW:Con:=⟨292,gO,(.cMV aG gO),[.box 239 ⟨true,gO,[]⟩],[⟨true,aG,[2]⟩],false,none,
 ((fun x=>0<=x.2.1):(cE)->Prop),
 ((fun _=>aK (.cMV aG (.cMV (.slice 5 (.int .u8)) aU))):(cE)->(cC×cE))⟩
def bA3:T:=mU 0 bP bJ 3 <| fR jT bF (kX 1) <| mU 0 bP (mQ 1) 6 <| fR jT bF qH <| xF (fM aBI) (fM aBI) [dY,bM,qV 1 3,qV 2 3,aCB 3 3,aXQ] <| aD8 (cB aBI 5) aN 6 (dF 1 bP (oH bP [cL aBI 2 5,cL aBI 3 5,cL aBI 4 5]) (cL aBI 1 5) <| gD 243 bK (iT bK 7) <| eF (aIM 243 bK) aG aG (fY aBI 5 5) 8 <| aCH mY (cB aBI 5) 0 (oH (fM aBI) [cI,fK bK 2 bK aV aU 7,dZ (aGL bK) 7,rA (aGL bK) 7,dO (aGL bK) 3 7,cU])) (oH (aGL aG) (uY (fY aBI 5 5) (cL aBI 2 5) aBI 3 5 (cL aBI 4 5)))
theorem aOX:Rl aHW (fun x r=>(1<=r.1.length/\dD r.1=true)/\r.1.length<=6/\(∀o∈r.1,opB o=true)/\0<=r.2.2.1:(cE)->(cC×cE)->Prop):=rk false ⟨[(2989,1005,iZ 13 7++[.tm 5 0,.tm 4 0,.bx 1 0,.bx 1 1,.bx 1 2,.sl 6])],[(2978,3008,[],[7])]⟩ bA3 (aC mO (aC cDB aH)) fun(x:cE) hx hp=>by
 dsimp only [aHW] at hx hp⊢
 have q1:=eE (x,3) ⟨hx,okI (by omega) (by omega)⟩ hp
 delta bA3 lP jJ bRW aWQ;refine dR ?_
 refine dQ ?_
 refine⟨hp,fun _=>?_⟩
 generalize dV (x,3)=r at q1⊢;obtain⟨n1,c1⟩:=r;obtain⟨k1,u1⟩:=q1;replace k1:okD vW c1:=k1.2;dsimp only at u1⊢
 refine⟨by omega,fun _=>⟨u1.2.2.2,fun _=>?_⟩⟩
 have q2:=eE (c1,6) ⟨k1,okI (by omega) (by omega)⟩ u1.2.2.2
 generalize dV (c1,6)=r at q2⊢;obtain⟨n2,c2⟩:=r;obtain⟨k2,u2⟩:=q2;replace k2:okD vW c2:=k2.2;dsimp only at u2⊢
 refine⟨by omega,fun _=>⟨fun s=>@LE.le Int _ 0 s.1/\(List.length s.2.2.2.2.2:Int)+s.1=1+n2/\@LE.le Int _ 1 s.2.1/\@LE.le Int _ s.2.1 6/\((∀o∈s.2.2.2.2.2,opB o=true)/\chB s.2.2.2.2.2 s.2.1)/\@LE.le Int _ 0 s.2.2.2.1,fun s=>(s.1:Int).toNat,⟨by show 0<=1+n2;omega,by show(0:Int)+(1+n2)=1+n2;omega,by show 1<=1+n1;omega,by show 1+n1<=6;omega,⟨fun o h=>by simp at h,fun i h=>absurd h (Nat.not_lt_zero _),fun h=>absurd h (Nat.lt_irrefl _)⟩,u2.2.2.2⟩,fun s hs hI=>?_⟩⟩
 obtain⟨j,g,b,i,h,l⟩:=s
 obtain⟨e1,e2,e3,e4,⟨e5,e7⟩,e6⟩:=hI
 change Int at j
 change Int at g
 change List fP at l
 change 0<=j at e1
 change (l.length:Int)+j=1+n2 at e2
 change 1<=g at e3
 change g<=6 at e4
 change ∀o∈l,opB o=true at e5
 change chB l g at e7
 have q:=(cAZ ((b,i,h),g) ⟨⟨hs.2.2.1,hs.2.2.2.1,hs.2.2.2.2.1⟩,hs.2.1⟩ ⟨e6,e3,e4⟩).2
 try dsimp only
 refine⟨fun hlt=>⟨⟨e6,e3,e4⟩,fun _ _=>⟨⟨by omega,by unfold maxLen;omega⟩,fun _=>⟨by omega,fun _=>⟨⟨by omega,?_,?_,?_,⟨fun o ho=>?_,cBH e7 q.1.1 q.1.2⟩,q.2⟩,?_⟩⟩⟩⟩,fun hge=>?_⟩
 ·show(((l++[(aVY ((b,i,h),g)).fst]).length:Nat):Int)+(j - 1)=1+n2
  rw[List.length_append];simp;omega
 ·obtain⟨⟨_,_,_,_,j1,j2,_⟩,_⟩:=(lO _).1 q.1.1
  exact j1
 ·obtain⟨⟨_,_,_,_,j1,j2,_⟩,_⟩:=(lO _).1 q.1.1
  exact j2
 ·rcases List.mem_append.1 ho with ho|ho
  ·exact e5 o ho
  ·rw[List.mem_singleton] at ho
   rw[ho];exact q.1.1
 ·show(j - 1).toNat<j.toNat
  omega
 ·have hj:j<=0:=by simpa using hge
  exact⟨⟨by omega,(bO l).2 ⟨by omega,by omega,e7.1⟩⟩,by omega,e5,e6⟩
def aHQ:(cE)->(cC×cE):=Classical.choose aOX
def bBQ:Con:={ aHW with fn:=aHQ }
theorem bPX:Con.Holds Tryz.prog bBQ:=(Classical.choose_spec aOX).2
theorem bSR (x:cE) (hx:okD gO x) (hp:(fun x=>0<=x.2.1) x):okD (.cMV aG gO) (aHQ x)/\(fun x r=>(1<=r.1.length/\dD r.1=true)/\r.1.length<=6/\(∀o∈r.1,opB o=true)/\0<=r.2.2.1:(cE)->(cC×cE)->Prop) x (aHQ x):=Rl.q aOX hx hp
def aHV:Con:=⟨294,(.cMV gO aG),cDP,[.box 239 ⟨true,gO,[]⟩,.val ⟨true,aG,[]⟩],[⟨false,aO,[2]⟩],false,none,
 ((fun x=>0<=x.1.2.1):(cE×cC)->Prop),
 ((fun _=>aK (.cMV aO (.cMV (.slice 5 (.int .u8)) aU))):(cE×cC)->(iC×cE))⟩
def bAI:T:=mU 0 bP (bS bP aG) 4 <| fR jT bF (kX 1) <| xF (zZ aCK) (zZ aCK) [bM,qV 1 1,qV 2 1,aCB 3 1,mZ] <| aD8 (aIY aCK 3) aN 4 (wI (kE bP aG) <| dF 2 bP (oH bP [uI aCK 1 3,uI aCK 2 3,uI aCK 3 3]) fF <| .call 3 (kE bP aG) <| dF 2 bP (mW aGH 6) cY <| jM (rZ 138 aL) aA aA (iT aA 6) (iT aA 8) <| eF (aIM 138 aL) aO aO (aJ6 aCK 4 3) 9 <| aCH mY (aIY aCK 3) 0 (oH (zZ aCK) [cO,dZ aGH 8,rA aGH 8,dO aGH 3 8,cI])) (oH aQF [aJ6 aCK 4 3,uI aCK 1 3,uI aCK 2 3,uI aCK 3 3])
theorem aNS:Rl aHV (fun x r=>(1<=r.1.length/\(dD x.2=true->pD x.2 r.1=true))/\r.1.length<=4/\(∀p∈r.1,p.1.length<=6/\p.2.length<=6)/\0<=r.2.2.1:(cE×cC)->(iC×cE)->Prop):=rk false ⟨[(2991,1003,iZ 10 7++[.dr 1,.tm 6 0,.on 5,.bx 1 0,.bx 1 1,.bx 1 2,.sl 3])],[(2983,3005,[23,19],[])]⟩ bAI (aC mO (aC bQL (aC aZB (aC bJB aH)))) fun(x:cE×cC) hx hp=>by
 dsimp only [aHV] at hx hp⊢
 obtain⟨c,m⟩:=x
 have q1:=eE (c,4) ⟨hx.1,okI (by omega) (by omega)⟩ hp
 have ib:=cK1 m
 have ob:=cGJ m
 delta bAI lP jJ aWE aQT aG5 aQO;refine dR ?_
 refine dQ ?_
 refine⟨hp,fun _=>?_⟩
 generalize dV (c,4)=r at q1⊢;obtain⟨n1,c1⟩:=r;obtain⟨k1,u1⟩:=q1;replace k1:okD vW c1:=k1.2;dsimp only at u1⊢
 refine⟨by omega,fun _=>⟨fun s=>@LE.le Int _ 0 s.1/\(List.length s.2.2.2.2:Int)+s.1=1+n1/\((∀p∈s.2.2.2.2,List.length p.1<=6/\List.length p.2<=6)/\∀p∈s.2.2.2.2,dD m=true->wR m p=true)/\@LE.le Int _ 0 s.2.2.1,fun s=>(s.1:Int).toNat,⟨by show 0<=1+n1;omega,by show(0:Int)+(1+n1)=1+n1;omega,⟨fun o h=>(by simp at h),fun o h=>by simp at h⟩,u1.2.2.2⟩,fun s hs hI=>?_⟩⟩
 obtain⟨j,b,i,h,l⟩:=s
 obtain⟨e1,e2,⟨e5,e7⟩,e6⟩:=hI
 change Int at j
 change List bT at l
 change 0<=j at e1
 change (l.length:Int)+j=1+n1 at e2
 change ∀p∈l,List.length p.1<=6/\List.length p.2<=6 at e5
 change ∀p∈l,dD m=true->wR m p=true at e7
 try dsimp only
 refine⟨fun hlt hi=>⟨⟨e6,by omega⟩,fun _ ho=>?_⟩,fun hge=>?_⟩
 ·have q2:=aFZ ((b,i,h),kD m) ⟨⟨hs.2.1,hs.2.2.1,hs.2.2.2.1⟩,hi⟩ ⟨e6,by show kD m<=1000;omega⟩
  generalize aFX ((b,i,h),kD m)=r at q2⊢;obtain⟨v2,c2⟩:=r;obtain⟨k2,u2⟩:=q2;replace k2:okD vW c2:=k2.2;dsimp only at u2⊢
  refine⟨⟨u2.2.2,by omega⟩,fun _=>?_⟩
  have q3:=(aFZ (c2,eZ m) ⟨k2,ho⟩ ⟨u2.2.2,by show eZ m<=1000;omega⟩).2
  generalize aFX (c2,eZ m)=r at q3⊢;obtain⟨v3,c3⟩:=r;dsimp only at q3⊢
  refine fun _=>⟨⟨by omega,by unfold maxLen;omega⟩,fun _=>⟨by omega,fun _=>⟨⟨by omega,?_,⟨fun p hp=>?_,fun p hp hm=>?_⟩,q3.2.2⟩,?_⟩⟩⟩
  ·show(((l++[(v2,v3)]).length:Nat):Int)+(j - 1)=1+n1
   rw[List.length_append];simp;omega
  ·rcases List.mem_append.1 hp with hp|hp
   ·exact e5 p hp
   ·rw[List.mem_singleton] at hp
    subst hp
    exact⟨by show List.length v2<=6;rw[u2.1];omega,by show List.length v3<=6;rw[q3.1];omega⟩
  ·rcases List.mem_append.1 hp with hp|hp
   ·exact e7 p hp hm
   ·rw[List.mem_singleton] at hp
    subst hp
    have h1:=cL6 hm
    show(dX v2 (kD m)&&dX v3 (eZ m))=true
    rw[bYE h1.1 ib.2 u2.1 u2.2.1,bYE h1.2 ob.2 q3.1 q3.2.1];rfl
  ·show(j - 1).toNat<j.toNat
   omega
 ·have hj:j<=0:=by simpa using hge
  exact⟨⟨by omega,fun hm=>(aLB m l).2 ⟨hm,⟨by omega,by omega⟩,List.all_eq_true.2 fun p hp=>e7 p hp hm⟩⟩,by omega,e5,e6⟩
def aHR:(cE×cC)->(iC×cE):=Classical.choose aNS
def aZQ:Con:={ aHV with fn:=aHR }
theorem bS9:Con.Holds Tryz.prog aZQ:=(Classical.choose_spec aNS).2
theorem bR1 (x:cE×cC) (hx:okD (.cMV (.cMV (.slice 5 (.int .u8)) aU) aG) x) (hp:(fun x=>0<=x.1.2.1) x):okD (.cMV aO (.cMV (.slice 5 (.int .u8)) aU)) (aHR x)/\(fun x r=>(1<=r.1.length/\(dD x.2=true->pD x.2 r.1=true))/\r.1.length<=4/\(∀p∈r.1,p.1.length<=6/\p.2.length<=6)/\0<=r.2.2.1:(cE×cC)->(iC×cE)->Prop) x (aHR x):=Rl.q aNS hx hp
def bO1:Con:=⟨20,aNA,.bool,[.val ⟨false,aNA,[]⟩],[⟨false,.bool,[0]⟩],false,none,
 ((fun _=>True):(List Int)->Prop),
 ((fun x=>decide (1048576<x.length)):(List Int)->(Bool))⟩
def bXY:T:=gL 5 jV bJ <| sS .gtr aZ (fX 1048576) <| cF 2
theorem cGZ:Con.Holds Tryz.prog bO1:=tk ⟨[],[]⟩ bXY aH fun(x:List Int) hx hp=>by
 dsimp only [bO1] at hx hp⊢
 delta bXY;refine dR ?_
 refine dQ ?_
 intro _
 rw[decide_eq_decide];omega
def aTS (st s m:Int):List eP:=(if 0<s then [((1:Int),m)] else [])++([((2:Int),m)]++(if s<st - 1 then [((3:Int),m)] else []))
def bF4 (st s m:Int) (redo:Bool):List eP:=(if s<st - 1 then [((4:Int),m)] else [])++((if redo=true then [((5:Int),m)] else [])++([((6:Int),m)]++(if 0<s then [((7:Int),m)] else [])))
def uF (st s micro:Int):Bool:=decide (1<=st/\st<=4/\0<=s/\s<st/\1<=micro/\micro<=5)
theorem yD (st s micro:Int):uF st s micro=true↔1<=st/\st<=4/\0<=s/\s<st/\1<=micro/\micro<=5:=by unfold uF;rw[decide_eq_true_eq]
def aI8 (ds st s micro:Int):Int:=if uF st s micro=true then(if ds=2 then min micro (st - 1 - s) else micro) else 0
def bQ6 (st s:Int):Nat->List eP
 | 0=>[]
 | k+1=>bQ6 st s k++aTS st s k
def aKK (st s micro w:Int) (redo:Bool):Nat->List eP
 | 0=>bQ6 st s w.toNat
 | k+1=>aKK st s micro w redo k++((if(k:Int)+w<micro then aTS st s ((k:Int)+w) else [])++bF4 st s k redo)
def yS (ds st s micro:Int) (redo:Bool):List eP:=if(ds=1\/ds=2)/\uF st s micro=true then aKK st s micro (aI8 ds st s micro) redo micro.toNat++[((8:Int),(0:Int))] else []
theorem aM6 (st s m:Int):(aTS st s m).length<=3:=by unfold aTS;split<;>split<;>simp
theorem bIW (st s m:Int) (r:Bool):(bF4 st s m r).length<=4:=by unfold bF4;split<;>split<;>split<;>simp
theorem aXR (st s:Int):(k:Nat)->(bQ6 st s k).length<=3 * k
 | 0=>Nat.le_refl _
 | k+1=>by
  have h1:=aXR st s k
  have h2:=aM6 st s k
  unfold bQ6
  rw[List.length_append];omega
theorem aYO (st s micro w:Int) (r:Bool):(k:Nat)->(aKK st s micro w r k).length<=3 * w.toNat+7 * k
 | 0=>by have:=aXR st s w.toNat;unfold aKK;omega
 | k+1=>by
  have h1:=aYO st s micro w r k
  have h2:=aM6 st s ((k:Int)+w)
  have h3:=bIW st s k r
  unfold aKK
  rw[List.length_append,List.length_append]
  split
  ·omega
  ·simp only[List.length_nil];omega
theorem cKF {ds st s micro:Int} (h:uF st s micro=false):0=aI8 ds st s micro:=by unfold aI8;rw[if_neg (by rw[h];simp)]
theorem cL5 {ds st s micro:Int} (h:uF st s micro=true) (hd:ds=2):min micro (st - 1 - s)=aI8 ds st s micro:=by unfold aI8;rw[if_pos h,if_pos hd]
theorem cJJ {ds st s micro:Int} (h:uF st s micro=true) (hd:¬ds=2):micro=aI8 ds st s micro:=by unfold aI8;rw[if_pos h,if_neg hd]
theorem cAG {st s micro:Int} (h:¬(1<=st/\st<=4/\0<=s/\s<st/\1<=micro/\micro<=5)):uF st s micro=false:=Bool.eq_false_iff.2 fun h'=>h ((yD _ _ _).1 h')
theorem aR7 {st s micro:Int} (h:1<=st/\st<=4/\0<=s/\s<st/\1<=micro/\micro<=5):uF st s micro=true:=(yD _ _ _).2 h
theorem cKQ {ds st s micro:Int} {r:Bool} (h:¬((ds=1\/ds=2)/\uF st s micro=true)):[]=yS ds st s micro r:=by unfold yS;rw[if_neg h]
theorem cJU {ds st s micro:Int} {r:Bool} (h:(ds=1\/ds=2)/\uF st s micro=true):aKK st s micro (aI8 ds st s micro) r micro.toNat++[((8:Int),(0:Int))]=yS ds st s micro r:=by unfold yS;rw[if_pos h]
theorem cBF {ds st s micro:Int} (h:uF st s micro=true):0<=aI8 ds st s micro/\aI8 ds st s micro<=5:=by
 rw[yD] at h
 unfold aI8
 rw[if_pos (aR7 h)]
 split<;>omega
theorem cGI {st s micro w:Int} {r:Bool} {k:Nat} (h:((k:Int)+w<micro)):aKK st s micro w r k++aTS st s ((k:Int)+w)++bF4 st s k r=aKK st s micro w r (k+1):=by
 conv=>rhs;unfold aKK
 rw[if_pos h,List.append_assoc]
theorem cGE {st s micro w:Int} {r:Bool} {k:Nat} (h:¬((k:Int)+w<micro)):aKK st s micro w r k++bF4 st s k r=aKK st s micro w r (k+1):=by
 conv=>rhs;unfold aKK
 rw[if_neg h,List.nil_append]
def aU7:Con:=⟨225,(.cMV tI (.cMV tI aU)),tI,[.val ⟨false,tI,[]⟩,.val ⟨false,tI,[]⟩,.val ⟨false,tI,[]⟩,.val ⟨false,tI,[]⟩],[⟨false,tI,[0]⟩],false,none,
 ((fun _=>True):(Int×(Int×eP))->Prop),
 ((fun x=>aI8 x.1 x.2.1 x.2.2.1 x.2.2.2):(Int×(Int×eP))->(Int))⟩
def bE1:T:=mI 0 iK (aOH aU 1 0) bF 4 <| dL 1 2 aN <| lL (aOH aU 1 0) <| gQ 0 iK (kM (aOH aU 2 0) aN 3) <| dL 4 5 aN <| mI 0 iK (aYR aU 3 0) bF 5 <| dL 6 7 aN <| rX .eql (pZ aU 0) aA2 8 (lL (aOH aU 1 0) <| fR mY cU (aOH aU 2 0) <| lR bMF (aYR aU 3 0) 10 <| cF 11) (aYR aU 3 0)
theorem bVS:Con.Holds Tryz.prog aU7:=tk ⟨[],[]⟩ bE1 (aC lV aH) fun(x:Int×(Int×eP)) hx hp=>by
 dsimp only [aU7] at hx hp⊢
 delta bE1 kI;refine dR ?_;try with_reducible exact True.intro
 (repeat' first|intro _|(with_reducible apply And.intro))
 all_goals (try simp only[dzx] at *)
 all_goals first|omega|exact cKF (cAG (by omega))|exact cL5 (aR7 (by omega)) (by omega)|exact cJJ (aR7 (by omega)) (by omega)
def aP0:Con:=⟨226,(.cMV bI (.cMV tI aU)),bI,[.val ⟨false,bI,[2]⟩,.val ⟨false,tI,[]⟩,.val ⟨false,tI,[]⟩,.val ⟨false,tI,[]⟩],[⟨false,bI,[2]⟩],false,none,
 ((fun x=>List.length x.1<=1000000/\1<=x.2.1/\x.2.1<=4):((List eP)×(Int×eP))->Prop),
 ((fun x=>x.1++aTS x.2.1 x.2.2.1 x.2.2.2):((List eP)×(Int×eP))->(List eP))⟩
def bAB:T:=vH .gtr (rA aDD 0) aN 1 (xD bF (fG aDD 3) <| eF tK bI bI (bTT bI tI 0) 2 <| xD aA2 (fG aDD 3) <| eF tK bI bI eG 4 <| lL (qE aDD) <| gB (rA aDD 0) 6 7 (xD aP7 (fG aDD 3) <| mF tK bI bI 5 8 <| cF 9) fF) <| xD aA2 (fG aDD 3) <| eF tK bI bI (bTT bI tI 0) 2 <| lL (qE aDD) <| gB (rA aDD 0) 4 5 (xD aP7 (fG aDD 3) <| eF tK bI bI eG 6 <| cF 7) eG
theorem bQC:Con.Holds Tryz.prog aP0:=tk ⟨[],[]⟩ bAB aH fun(x:(List eP)×(Int×eP)) hx hp=>by
 dsimp only [aP0] at hx hp⊢
 have hp:List.length x.1<=1000000/\1<=x.2.1/\x.2.1<=4:=hp
 delta bAB;refine dR ?_;try with_reducible exact True.intro
 (repeat' first|intro _|(with_reducible apply And.intro))
 all_goals (try simp only[dzx] at *)
 all_goals first|omega|(unfold maxLen;omega)|skip
 all_goals (unfold aTS;(repeat' split)<;>first|omega|(simp;done))
def aU0:Con:=⟨227,(.cMV bI (.cMV tI (.cMV tI aB4))),bI,[.val ⟨false,bI,[2]⟩,.val ⟨false,tI,[]⟩,.val ⟨false,tI,[]⟩,.val ⟨false,tI,[]⟩,.val ⟨false,.bool,[]⟩],[⟨false,bI,[2]⟩],false,none,
 ((fun x=>List.length x.1<=1000000/\1<=x.2.1/\x.2.1<=4):((List eP)×(Int×(Int×(Int×Bool))))->Prop),
 ((fun x=>x.1++bF4 x.2.1 x.2.2.1 x.2.2.2.1 x.2.2.2.2):((List eP)×(Int×(Int×(Int×Bool))))->(List eP))⟩
def bDZ:T:=lL (qE tG) <| cX (rA tG 0) 1 2 (xD aMI (xV tG 3 0) <| eF tK bI bI (lU bI tI aJL 0) 3 <| .ite (fG tG 4) (xD aCV (xV tG 3 0) <| mF tK bI bI 4 5 <| xD uJ (xV tG 3 0) <| eF tK bI bI cQ 7 <| aD8 (rA tG 0) aN 9 (xD sV (xV tG 3 0) <| mF tK bI bI 8 10 <| cF 11) cM) <| xD uJ (xV tG 3 0) <| mF tK bI bI 4 5 <| aD8 (rA tG 0) aN 7 (xD sV (xV tG 3 0) <| eF tK bI bI cQ 8 <| cF 9) cQ) <| .ite (fG tG 4) (xD aCV (xV tG 3 0) <| eF tK bI bI (lU bI tI aJL 0) 3 <| xD uJ (xV tG 3 0) <| mF tK bI bI 4 5 <| aD8 (rA tG 0) aN 7 (xD sV (xV tG 3 0) <| eF tK bI bI cQ 8 <| cF 9) cQ) <| xD uJ (xV tG 3 0) <| eF tK bI bI (lU bI tI aJL 0) 3 <| aD8 (rA tG 0) aN 5 (xD sV (xV tG 3 0) <| mF tK bI bI 4 6 <| cF 7) dY
theorem bVP:Con.Holds Tryz.prog aU0:=tk ⟨[],[]⟩ bDZ aH fun(x:(List eP)×(Int×(Int×(Int×Bool)))) hx hp=>by
 dsimp only [aU0] at hx hp⊢
 have hp:List.length x.1<=1000000/\1<=x.2.1/\x.2.1<=4:=hp
 delta bDZ;refine dR ?_;try with_reducible exact True.intro
 (repeat' first|intro _|(with_reducible apply And.intro))
 all_goals (try simp only[dzx] at *)
 all_goals first|omega|(unfold maxLen;omega)|skip
 all_goals (unfold bF4;(repeat' split)<;>first|omega|contradiction|(simp;done)|(simp_all;done))
def bFZ:Con:=⟨126,(.cMV tI (.cMV tI (.cMV tI aB4))),bI,[.val ⟨false,tI,[]⟩,.val ⟨false,tI,[]⟩,.val ⟨false,tI,[]⟩,.val ⟨false,tI,[]⟩,.val ⟨false,.bool,[]⟩],[⟨false,bI,[2]⟩],false,none,
 ((fun _=>True):(Int×(Int×(Int×(Int×Bool))))->Prop),
 ((fun x=>yS x.1 x.2.1 x.2.2.1 x.2.2.2.1 x.2.2.2.2):(Int×(Int×(Int×(Int×Bool))))->(List eP))⟩
def bR4:T:=mI 0 iK (pZ aJL 0) bF 2 <| dL 1 2 aJO <| mI 0 iK aSR bF 4 <| dL 3 4 aJO <| lL aSR <| gQ 0 iK (kM aZH aN 5) <| dL 6 7 aJO <| mI 0 iK (aYV 3) bF 5 <| dL 8 9 aJO <| gQ 1 (xO aU) [pZ aJL 0,aSR,aZH,aYV 3] <| pX (fM bI) bI aJO <| mH bI 11 10 12 (gQ 2 aDD [eT bI 11,aSR,aZH,cB bI 11] <| eJ bI 11 0 bI dK eM) <| pX (fM bI) bI (eT bI 11) <| aEY tI tI (cB bI 13) (aYV 3) 14 (fR jT cI (cB bI 13) <| aEY tI tI fC (aYV 3) 16 (fR jT cI (cB bI 13) <| gQ 2 aDD [eT bI 13,aSR,aZH,iR] <| gQ 3 tG [nJ,aSR,aZH,cB bI 13,aYR aJL 4 0] <| eJ bI 13 0 bI qJ kA) <| gQ 3 tG [eT bI 13,aSR,aZH,cB bI 13,aYR aJL 4 0] <| eJ bI 13 0 bI nJ iR) <| xD (fX 8) aN <| eF tK bI bI (eT bI 13) 15 <| cF 16
theorem cEJ:Con.Holds Tryz.prog bFZ:=tk ⟨[(2984,16011,iZ 41 37++iZ 35 15++[.dr 0,.tm 13 0,.on 11,.sl 1]),(2974,32013,iZ 44 42++[.dr 13,.tm 14 0,.sl 1])],[]⟩ bR4 (aC lV (aC bVS (aC bQC (aC bVP aH)))) fun(x:Int×(Int×(Int×(Int×Bool)))) hx hp=>by
  dsimp only [bFZ] at hx hp⊢
  obtain⟨ds,st,s,micro,r⟩:=x
  delta bR4 kI aU7 aP0 aU0;refine dR ?_;try with_reducible exact True.intro
  (repeat' first|intro _|(with_reducible apply And.intro))
  all_goals (try simp only[dzx] at *)
  all_goals first|omega|exact cKQ (fun h=>by rw[yD] at h;omega)|skip
  all_goals have hP:uF st s micro=true:=by first|assumption|exact aR7 (by omega)
  all_goals have hd:ds=1\/ds=2:=by omega
  all_goals have hb:=(yD _ _ _).1 hP
  all_goals have hw:=cBF (ds:=ds) hP
  all_goals have hfin:=cJU (r:=r) ⟨hd,hP⟩
  all_goals generalize aI8 ds st s micro=W at *
  all_goals refine⟨fun q=>∃k:Nat,(k:Int)<=W/\q=((k:Int),bQ6 st s k),fun q=>W.toNat - (q.1:Int).toNat,⟨0,by omega,rfl⟩,fun q _ hI=>?_⟩
  all_goals obtain⟨k,hk,rfl⟩:=hI
  all_goals dsimp only
  all_goals have l1:=aXR st s k
  all_goals have l2:=aM6 st s k
  all_goals refine⟨fun hlt=>?_,fun hge=>?_⟩
  all_goals first
    | (have h0:(k:Int)<W:=hlt
       (repeat' first|intro _|(with_reducible apply And.intro))
       all_goals first|omega|(unfold maxLen;omega)|exact⟨k+1,by omega,rfl⟩)
    | skip
  all_goals have L6:k=W.toNat:=by omega
  all_goals refine⟨fun q=>∃j:Nat,(j:Int)<=micro/\q=((j:Int),aKK st s micro W r j),fun q=>micro.toNat - (q.1:Int).toNat,⟨0,by omega,by rw[L6];rfl⟩,fun q _ hI=>?_⟩
  all_goals obtain⟨j,hj,rfl⟩:=hI
  all_goals dsimp only
  all_goals try rw[show W+(j:Int)=(j:Int)+W from Int.add_comm _ _]
  all_goals have l3:=aYO st s micro W r j
  all_goals have l4:=aM6 st s ((j:Int)+W)
  all_goals have l5:=bIW st s j r
  all_goals (repeat' first|intro _|(with_reducible apply And.intro))
  all_goals first
    | omega
    | (unfold maxLen;omega)
    | exact⟨j+1,by omega,by rw[<-cGI (by omega)];rfl⟩
    | exact⟨j+1,by omega,by rw[<-cGE (by omega)];rfl⟩
    | (have C5:j=micro.toNat:=by omega
       rw[C5]
       exact hfin)
def cutAt (c:List Int) (n:Nat) (i:Nat):Bool:=decide (1<=c.getD i 0/\c.getD i 0<=(n:Int) - 1/\(i=0\/c.getD (i - 1) 0<c.getD i 0))
theorem aR4 (c:List Int) (n:Nat) {i:Nat} (h:i<c.length):cutAt c n i=true↔1<=c[i]/\c[i]<=(n:Int) - 1/\(i=0\/(c[i - 1]'(by omega))<c[i]):=by
 unfold cutAt
 rw[aP h,aP (show i - 1<c.length by omega),decide_eq_true_eq]
def zO (m:List fP) (c:List Int):Bool:=dD m&&(List.range c.length).all (cutAt c m.length)
theorem aK3 (m:List fP) (c:List Int):zO m c=true↔dD m=true/\∀i,i<c.length->cutAt c m.length i=true:=by
 unfold zO;simp only[Bool.and_eq_true,List.all_eq_true,List.mem_range]
theorem cGC {m:List fP} {c:List Int} {i:Nat} (hi:i<c.length) (h:¬cutAt c m.length i=true):false=zO m c:=by
 refine(Bool.eq_false_iff.2 fun h'=>?_).symm
 rw[aK3] at h'
 exact h (h'.2 i hi)
def cN (m:List fP) (c:List Int):Int:=if zO m c=true then(c.length:Int)+1 else 0
def aS6 (c:dE):Prop:=aJJ c.1/\List.length c.2.1<=1000000000/\List.length c.2.2.2.1<=1000000000/\List.length c.2.2.2.2.1<=1000000000/\List.length c.2.2.2.2.2<=1000000000
theorem aZC (ds st s micro:Int) (r:Bool):(yS ds st s micro r).length<=60:=by
 unfold yS
 split
 ·rename_i h
  have h1:=aYO st s micro (aI8 ds st s micro) r micro.toNat
  have h2:=cBF (ds:=ds) h.2
  have h3:=(yD _ _ _).1 h.2
  rw[List.length_append,List.length_singleton]
  omega
 ·simp
def aGE:Con:=⟨121,(.cMV aG aA),.bool,[.val ⟨true,aG,[]⟩,.val ⟨false,aA,[]⟩],[⟨false,.bool,[0]⟩],false,none,
 ((fun x=>aJJ x.1/\List.length x.2<=1000000000):(cC×bX)->Prop),
 ((fun x=>zO x.1 x.2):(cC×bX)->(Bool))⟩
def bGO:T:=jY 3 tI (tO aG) <| cX aZ 2 3 (cH 3 tI aA (tO aG) 1 <| iE (bS aG aA) <| lL fF <| gQ 0 iK (kM dY bF 6) <| dU 7 8 <| vH .gtr aZ aN 9 (kK aZ 3 tI aA (tO aG) 1 <| cH 3 tI aA (tO aG) 10 <| aBJ .leq cO fE 13 aX <| uZ aZ 0 dK) <| uZ aZ 0 cI) <| uS 1 aG aA aD7
theorem aUM:Con.Holds Tryz.prog aGE:=tk ⟨[(2993,1001,[.dr 0,.tm 5 0])],[]⟩ bGO (aC lV (aC uW aH)) fun(x:cC×bX) hx hp=>by
 dsimp only [aGE] at hx hp⊢
 obtain⟨m,c⟩:=x
 obtain⟨⟨As,hm2⟩,hc⟩:aJJ m/\List.length c<=1000000000:=hp
 delta bGO kI rE;refine dR ?_
 refine⟨fun s=>∃k:Nat,k<=c.length/\s=(k:Int)/\∀i,i<k->cutAt c m.length i=true,fun s=>c.length - (s:Int).toNat,⟨0,by omega,rfl,by omega⟩,fun s _ hI=>?_⟩
 obtain⟨k,hk,rfl,ha⟩:=hI
 refine dQ ?_
 intro _
 constructor
 ·intro hlt
  have hk':k<c.length:=by omega
  rw[aP hk',aP (show k - 1<c.length by omega)]
  have e:=aR4 c m.length hk'
  (repeat' first|intro _|(with_reducible apply And.intro))
  all_goals first|omega|(refine cGC hk' fun h=>?_;rw[e] at h;omega)|skip
  all_goals refine⟨k+1,by omega,rfl,fun i hi=>?_⟩
  all_goals rcases Nat.lt_or_eq_of_le (Nat.le_of_lt_succ hi) with h|rfl
  all_goals first|exact ha i h|exact e.2 ⟨by omega,by omega,by omega⟩
 ·intro hge
  have:k=c.length:=by omega
  subst this
  rw[Bool.eq_iff_iff,aK3]
  exact⟨fun h=>⟨h,ha⟩,fun h=>h.1⟩
def aM4:Con:=⟨123,bR,tI,[.val ⟨true,bR,[]⟩],[⟨false,tI,[0]⟩],false,none,
 ((fun x=>aJJ x.1/\List.length x.2.1<=1000000000):(dE)->Prop),
 ((fun x=>cN x.1 x.2.1):(dE)->(Int))⟩
def aVS:T:=mT 0 aG (lU aG aA (pH mG aL) 0) (qE bR) <| dL 1 2 aN <| cK (qE bR) <| jW eG aD7
theorem bM9:Con.Holds Tryz.prog aM4:=tk ⟨[],[]⟩ aVS (aC aUM aH) fun(x:dE) hx hp=>by
 dsimp only [aM4] at hx hp⊢
 obtain⟨m,c,r⟩:=x
 have hq:aJJ m/\List.length c<=1000000000:=hp
 have hc:=hq.2
 delta aVS aGE;refine dR ?_
 refine⟨hq,fun hb=>?_,fun hb _=>?_⟩
 all_goals simp only[dzx] at hb
 ·unfold cN;rw[if_neg (by rw[hb];simp)]
 ·refine⟨by omega,fun _=>?_⟩
  unfold cN;rw[if_pos hb]
end
end Go.Proofs.YtfmfeplebgbpmaaGreat
