/- Lin2: lemmas. No conditions. -/
import Derived.Test.YtlhaoiaieiladaaGreatCe
namespace Go.Proofs.YtlhaoiaieiladaaGreat
open Go.ChangeShapes Go.WideShapes Go.ChangeAt Go.RowKit Go.Deep
set_option linter.unusedVariables false
set_option linter.unusedSimpArgs false
set_option maxRecDepth 100000
abbrev bPR:Ty:=.slice 5 (.int .u8)
abbrev aES:Ty:=.cD0 bPR (.cD0 tI tI)
abbrev aW:=List Int × (Int × Int)
theorem bI6 {x:Int} {m:Nat} (hm:m<9223372036854775808):0<=aNX .and .i64 x (m:Int)/\aNX .and .i64 x (m:Int)<=m:=by
 unfold aNX
 dsimp only
 have h1:(BitVec.ofInt IntKind.i64.bits (m:Int)).toNat=m:=by
  rw[BitVec.toNat_ofInt]
  show ((m:Int) % ((2 ^ 64:Nat):Int)).toNat=m
  omega
 have h2:(BitVec.ofInt IntKind.i64.bits x &&& BitVec.ofInt IntKind.i64.bits (m:Int)).toNat<=m:=by
  rw[BitVec.toNat_and,h1]
  exact Nat.and_le_right
 rw[aI9 (by show (-9223372036854775808:Int)<=_/\_<=(9223372036854775807:Int);omega)]
 omega
def hs (l:List Int):Nat->Int
 | 0=>10101+(l.length:Int)
 | k+1=>aNX .and .i64 (hs l k * 131+l.getD k 0+7) 1073741823
theorem cAR {l:List Int} (hl:l.length<=1048576):(k:Nat)->0<=hs l k/\hs l k<=1073741823
 | 0=>by unfold hs;omega
 | k+1=>by
  unfold hs
  exact bI6 (m:=1073741823) (by decide)
theorem bYP {w:World} {p:Option Addr} {n c:Nat} {l:List Int} (h:jT 1 (rd (.int .u8) w) w p n c l) (k:Nat) (hk:k<l.length) :
  ∃ b off,p=some ⟨b,off,none⟩/\b<w.heap.size/\w.cell? ⟨b,off+k,none⟩=some (.int .u8 l[k])/\0<=l[k]/\l[k]<=255:=by
 obtain ⟨b,off,hp,hb,cs,hl,hc,rfl,hw⟩:=h.2.2.2.2 k hk
 refine ⟨b,off,hp,hb,?_,?_⟩
 ·have:=hc 0 (by simp)
  simpa using this
 ·have h2:IntKind.u8.min<=l[k]/\l[k]<=IntKind.u8.max:=by simpa [Lit.wf] using hw
  exact h2
theorem bMN (w:World) (p:Option Addr) (n c:Nat) (l:List Int) (h:jT 1 (rd (.int .u8) w) w p n c l) (hn:l.length<=1048576) :
  Calls Tryz.prog 47 #[.slice p n c] w fun e w'=>∃ k:Nat,k=min l.length 4000/\e = .returned (.pointer (some ⟨w.heap.size,0,none⟩))/\w'=w.alloc (.cells #[.slice p l.length c,.int .i64 0,.int .i64 (hs l k)] 119):=by
 obtain rfl:=h.lens
 go_enter Tryz.func47,Tryz.ntmps47
 go_wp2
 go_loopw [3,4] (fun m i wr=>∃ k:Nat,k<=l.length/\k<=4000/\i = .int .i64 k/\m = .int .i64 (hs l k)/\wr=w) (fun _ i _=>l.length - (intOf i).toNat)
 case atStart=>exact ⟨0,by omega,by omega,rfl,rfl,rfl⟩
 case round =>
  obtain ⟨k,hk,hk4,rfl,rfl,rfl⟩:=hrel
  have hb:=cAR hn k
  by_cases hlt:k<l.length/\k<4000
  ·obtain ⟨h1,h2⟩:=hlt
   obtain ⟨b,off,rfl,hlb,e1,e2,e3⟩:=bYP h k h1
   have HS:Hid (hs l (k+1)=aNX .and .i64 (hs l k * 131+l[k]+7) 1073741823):=Lib.hid (by rw[<- aO h1];rfl)
   obtain ⟨x,hx⟩:∃ x,l[k]=x:=⟨_,rfl⟩
   rw[hx] at e1 e2 e3 HS
   clear h hx
   generalize hs l k=y at hb HS ⊢
   go_wp2
   go_roundw
   case rel=>exact ⟨k+1,by omega,by omega,by go_num,by rw[HS.out];rfl,trivial⟩
   case measure=>simp[intOf];omega
  ·clear h
   go_wp2
   all_goals (go_ret;exact ⟨k,by omega,rfl,rfl⟩)
def aWT (l:List Int):aW:=(l,0,hs l (min l.length 4000))
noncomputable def qG:Con:=⟨47,bPR,aES,[.val ⟨false,bPR,[]⟩],[⟨true,aES,[0,0,0]⟩],true,some 119,((fun x=>x.length<=1048576):List Int->Prop),((fun x=>aWT x):List Int->aW)⟩
theorem bR0:Con.Holds Tryz.prog qG:=by
 refine ⟨fun x hp hx=>?_,⟨Tryz.f47,Tryz.func47,by kernel_rfl,by kernel_rfl⟩,fun X vs x ob ub hp hx hO hU hnd hbl ham=>?_⟩
 ·have hb:=cAR (l:=x) hp (min (List.length x) 4000)
  refine ⟨hx,?_,?_⟩
  ·show (-9223372036854775808:Int)<=0/\(0:Int)<=9223372036854775807;omega
  ·show (-9223372036854775808:Int)<=hs x _/\hs x _<=(9223372036854775807:Int);omega
 ·change List Int at x
  change x.length<=1048576 at hp
  have e:fW (qG.ams.map (·.mv.t)) (SV.as (cV (qG.ams.map (·.mv.t))) ⟨qG.argTy,x⟩)=[⟨bPR,x⟩]:=by
   have e:SV.as (cV (qG.ams.map (·.mv.t))) ⟨qG.argTy,x⟩=x:=SV.as_self _ _
   rw[e];rfl
  rw[e] at ham
  obtain ⟨v,vs',d,ds',o1,o2,u1,u2,rfl,hd,ho,hu,hv,hm,hn1,hn2,hn3⟩:=ham
  obtain ⟨rfl,rfl⟩:=List.cons.inj hd
  rw[SV.as_self] at hm
  obtain ⟨rfl,rfl,hr⟩:=aWL rfl hm
  obtain ⟨p,len,cap,c0,hsl⟩:=hr.rd (fun b hb=>hb.1)
  rw[c0] at hv hr
  have hv2:v = .slice p len cap:=hv
  subst hv2
  have hlen:len=x.length:=hsl.1
  subst hlen
  have hW:=bMN X.w0 p x.length cap x hsl hp
  subst hn1 hn2 hn3
  obtain rfl:ob=[]:=ho
  obtain rfl:ub=[]:=hu
  refine Calls.mono' hW ?_
  rintro e w' ⟨k,hk,rfl,rfl⟩
  subst hk
  refine ⟨_,rfl,[.pointer (some ⟨X.w0.heap.size,0,none⟩)],[X.w0.heap.size],[],[],[],rfl,?_,?_,⟨rfl,rfl⟩,by simp,?_,by simp⟩
  ·have hB:=(Below.refl X.w0.heap.size X.w0).alloc (Nat.le_refl _) (.cells #[.slice p x.length cap,.int .i64 0,.int .i64 (hs x (min x.length 4000))] 119)
   exact ⟨hB.os,hB.tape,hB.output,hB.size,fun b h1 _=>hB.block b h1⟩
  ·have e2:SV.as (cV (List.map (fun x=>x.t) (qG.rms++yT qG.ams))) ⟨qG.resTy,qG.fn x⟩=aWT x:=SV.as_self _ _
   rw[e2]
   have hb:=cAR (l:=x) hp (min x.length 4000)
   refine ⟨X.w0.heap.size,#[.slice p x.length cap,.int .i64 0,.int .i64 (hs x (min x.length 4000))],[],⟨aES,aWT x⟩,[],[],[],[],[],rfl,rfl,rfl,rfl,Go.heap_alloc_new _ _,?_,⟨rfl,rfl,rfl⟩⟩
   rw[SV.as_self]
   refine bBB rfl ⟨[.slice p x.length cap],[.int .i64 0,.int .i64 (hs x (min x.length 4000))],rfl,?_,⟨[.int .i64 0],[.int .i64 (hs x (min x.length 4000))],rfl,⟨rfl,show (Lit.int .i64 0).wf=true by decide⟩,⟨rfl,?_⟩⟩⟩
   ·refine kE.mono (fun b hb=>?_) (fun b hb=>Below.heap_alloc _ _ _ hb.1) hr
    refine ⟨Nat.lt_of_lt_of_le hb.1 (by simp),?_,hb.2.2.1,fun h=>by cases h⟩
    have:=hb.1
    simp;omega
   ·exact uZ (show (-9223372036854775808:Int)<=hs x (min x.length 4000)/\hs x (min x.length 4000)<=(9223372036854775807:Int) by omega)
  ·intro b hb
   have hb2:b=X.w0.heap.size:=by simpa using hb
   subst hb2
   exact ⟨by simp,.inl (Nat.le_refl _),fun hA=>by have:=X.hA _ hA;omega⟩
noncomputable def aX7 (P:Nat->Prop):Nat->Nat
 | 0=>0
 | n+1=>@ite _ (P (n+1)) (Classical.propDecidable _) (n+1) (aX7 P n)
theorem bG5 (P:Nat->Prop):(n:Nat)->aX7 P n<=n
 | 0=>Nat.le_refl _
 | n+1=>by
  unfold aX7;split
  ·exact Nat.le_refl _
  ·exact Nat.le_succ_of_le (bG5 P n)
theorem bOX (P:Nat->Prop):(n k:Nat)->k<=n->P k->k<=aX7 P n
 | 0,k,h,_=>h
 | n+1,k,h,hp=>by
  unfold aX7;split
  ·exact h
  ·rename_i hn
   rcases Nat.lt_or_eq_of_le h with h'|rfl
   ·exact bOX P n k (Nat.le_of_lt_succ h') hp
   ·exact absurd hp hn
theorem bQR (P : Nat -> Prop) : (n k : Nat) -> k <= n -> P k -> P (aX7 P n)
  | 0, k, h, hp => by have : k = 0 := by omega
                      subst this; exact hp
  | n + 1, k, h, hp => by
    unfold aX7; split
    · assumption
    · rename_i hn
      rcases Nat.lt_or_eq_of_le h with h' | rfl
      · exact bQR P n k (Nat.le_of_lt_succ h') hp
      · exact absurd hp hn
theorem xL {α:Type} {ok:α->Prop} {s0:α} {B:(α->Prop)->(α->Nat)->α->Prop} (F:Nat->α) (G:Nat->Prop) (n:Nat) (h0:s0=F 0) (g0:G 0)
  (hs:∀ (I:α->Prop) (μ:α->Nat) (k:Nat),k<=n->G k->ok (F k)->(∀ y,k<n->G (k+1)->y=F (k+1)->I y/\μ y<μ (F k))->B I μ (F k)) :
  ∃ (I:α->Prop) (μ:α->Nat),I s0/\∀ x,ok x->I x->B I μ x:=by
 refine ⟨fun x=>∃ k,k<=n/\(x=F k/\G k),fun x=>n - aX7 (fun k=>x=F k/\G k) n,⟨0,Nat.zero_le _,h0,g0⟩,fun x hok hI=>?_⟩
 obtain ⟨j,hj,hx⟩:=hI
 have e:=bQR (fun k=>x=F k/\G k) n j hj hx
 have l:=bG5 (fun k=>x=F k/\G k) n
 generalize hk:aX7 (fun k=>x=F k/\G k) n=k at e l
 obtain ⟨e1,e2⟩:=e
 subst e1
 refine hs _ _ k l e2 hok fun y hkn hg hy=>⟨⟨k+1,hkn,hy,hg⟩,?_⟩
 have h1:=bOX (fun k=>y=F k/\G k) n (k+1) hkn ⟨hy,hg⟩
 have h2:=bG5 (fun k=>y=F k/\G k) n
 show n - aX7 (fun k=>y=F k/\G k) n<n - aX7 (fun k'=>F k=F k'/\G k') n
 rw[hk]
 omega
theorem fN {α:Type} {ok:α->Prop} {s0:α} {B:(α->Prop)->(α->Nat)->α->Prop} (F:Nat->α) (n:Nat) (h0:s0=F 0)
  (hs:∀ (I:α->Prop) (μ:α->Nat) (k:Nat),k<=n->ok (F k)->(∀ y,k<n->y=F (k+1)->I y/\μ y<μ (F k))->B I μ (F k)) :
  ∃ (I:α->Prop) (μ:α->Nat),I s0/\∀ x,ok x->I x->B I μ x :=
 xL F (fun _=>True) n h0 trivial fun I μ k hk _ hok go=>hs I μ k hk hok fun y h1 h2=>go y h1 trivial h2
theorem pk {α:Type} {k:Nat} {a b:α} (h:a=b):((k:Int)+1,a)=(((k+1:Nat):Int),b):=by subst h;exact Prod.ext (by show (k:Int)+1=((k+1:Nat):Int);omega) rfl
theorem pk1 {k:Nat}:(k:Int)+1=((k+1:Nat):Int):=by omega
noncomputable section
set_option maxRecDepth 100000
theorem qS (x:Int):-2147483647<=lD x/\lD x<=2147483647:=by unfold lD;omega
def mK (x:Int):Bool:=decide (lD x=x)
theorem aBA (x:Int):mK x=true↔-2147483647<=x/\x<=2147483647:=by unfold mK lD;rw[decide_eq_true_eq];omega
theorem xX {α:Type} (F:α->Bool) (l:List α) {k:Nat} (h:k<l.length):(l.take (k+1)).all F=((l.take k).all F&&F l[k]):=by
 rw[List.take_succ_eq_append_getElem h,List.all_append];simp
theorem aFN {α:Type} {F:α->Bool} {l:List α} {k:Nat} (h:k<l.length) (hb:F l[k]=false):l.all F=false:=by
 rw[List.all_eq_false]
 exact ⟨l[k],List.getElem_mem h,by simp[hb]⟩
def aAF:Con:=⟨140,tI,tI,[.val ⟨false,tI,[]⟩],[⟨false,tI,[0]⟩],false,none,
 ((fun _=>True):(Int)->Prop),
 ((fun x=>lD x):(Int)->(Int))⟩
def bCQ:T:=gT aG7 0 (-2147483647) <| iS aI0 aX 2147483647 <| cM 2
theorem aH0:Con.Holds Tryz.prog aAF:=tk ⟨[],[]⟩ bCQ aL fun (x:Int) hx hp=>by
 dsimp only [aAF] at hx hp ⊢
 delta bCQ;refine gH ?_
 exact fun _ _=>rfl
def oW:Con:=⟨84,tI,.bool,[.val ⟨false,tI,[]⟩],[⟨false,.bool,[0]⟩],false,none,
 ((fun _=>True):(Int)->Prop),
 ((fun x=>mK x):(Int)->(Bool))⟩
def bEC:T:=sB .geq cX (-2147483647) <| gV 1 <| sB .leq cX 2147483647 <| cM 2
theorem aMF:Con.Holds Tryz.prog oW:=tk ⟨[],[]⟩ bEC aL fun (x:Int) hx hp=>by
 dsimp only [oW] at hx hp ⊢
 delta bEC;refine gH ?_
 show (decide (x ≥ -2147483647)=true->decide (x<=2147483647)=decide (lD x=x))/\(decide (x ≥ -2147483647)=false->false=decide (lD x=x))
 unfold lD
 constructor
 ·intro h;simp at h ⊢;omega
 ·intro h;simp at h ⊢;omega
def aEI:Con:=⟨139,tI,aC2,[.val ⟨false,tI,[]⟩],[⟨false,tI,[0]⟩,⟨false,.bool,[0]⟩],false,none,
 ((fun _=>True):(Int)->Prop),
 ((fun x=>aTL x):(Int)->(Int × Bool))⟩
def bAF:T:=dE 0 0 <| bM3 1 cX 2 <| .ret (rB .bool aX qN)
theorem aOZ:Con.Holds Tryz.prog aEI:=tk ⟨[],[]⟩ bAF (aD aH0 (aD aMF aL)) fun (x:Int) hx hp=>by
 dsimp only [aEI] at hx hp ⊢
 delta bAF aAF oW;refine gH ?_
 intro _
 show (lD x,!decide (lD x=x))=aTL x
 unfold aTL
 simp[eq_comm]
def aAV:Con:=⟨144,aQ,aC2,[.val ⟨false,tI,[]⟩,.val ⟨false,tI,[]⟩],[⟨false,tI,[0]⟩,⟨false,.bool,[0]⟩],false,none,
 ((fun _=>True):(Int × Int)->Prop),
 ((fun x=>gI x.1 x.2):(Int × Int)->(Int × Bool))⟩
def aXJ:T:=lC (lV 0) <| lC (gJ 0) <| eM cC aX 2 <| yA 1 3 4
theorem aIY:Con.Holds Tryz.prog aAV:=tk ⟨[],[]⟩ aXJ (aD aH0 (aD aOZ aL)) fun (x:Int × Int) hx hp=>by
 dsimp only [aAV] at hx hp ⊢
 delta aXJ aAF aEI;refine gH ?_
 intro _ _
 have h1:=qS x.1
 have h2:=qS x.2
 exact ⟨by omega,fun _ _=>rfl⟩
def mS:Con:=⟨115,aA,aA,[.val ⟨false,aA,[]⟩],[⟨false,aA,[2]⟩],false,none,
 ((fun x=>List.length x<=1000000000):(List Int)->Prop),
 ((fun x=>x):(List Int)->(List Int))⟩
def aQS:T:=kB 3 8 aA aA aT 0 <| cM 1
theorem pN:Con.Holds Tryz.prog mS:=tk ⟨[],[]⟩ aQS aL fun (x:List Int) hx hp=>by
 dsimp only [mS] at hx hp ⊢
 have hp:List.length x<=1000000000:=hp
 delta aQS;refine gH ?_
 simp only[List.length_nil,Nat.zero_add,List.nil_append]
 exact ⟨by unfold maxLen;omega,fun _=>by first|rfl|trivial⟩
def wJ:Con:=⟨131,aJ,aJ,[.val ⟨false,aJ,[]⟩],[⟨false,aJ,[2]⟩],false,none,
 ((fun x=>List.length x<=1000000000/\∀ y∈x,List.length y<=1000000000):(dG)->Prop),
 ((fun x=>x):(dG)->(dG))⟩
def aRC:T:=iN 117 aA cX aY (gM aJ jF) <| nR aJ 2 1 3 (cR 117 aA aJ cX aJ 2 <| yK 0 gD (kA 117 aA) 5 <| dM (tH 117 aA) aJ aJ (jY 2) 6 <| fE aJ 2 1 0 aJ 8 7) (jY 2)
theorem aCG:Con.Holds Tryz.prog wJ:=tk ⟨[(2991,1002,[.dr 6,.dr 0,.tm 9 0,.on 3,.sl 1])],[(2981,3005,[16],[])]⟩ aRC (aD pN aL) fun (x:dG) hx hp=>by
 dsimp only [wJ] at hx hp ⊢
 obtain ⟨hp1,hp2⟩:List.length x<=1000000000/\∀ y∈x,List.length y<=1000000000:=hp
 delta aRC mS;refine gH ?_
 intro _
 refine ⟨fun s=>∃ k:Nat,k<=x.length/\s=((k:Int),x.take k),fun s=>x.length - (s.1:Int).toNat,⟨0,Nat.zero_le _,by simp⟩,fun s hs hI=>?_⟩
 obtain ⟨k,hk,rfl⟩:=hI
 dsimp only
 refine iC ?_
 constructor
 ·intro hlt
  have hk':k<x.length:=by omega
  rw[aO hk']
  have hm:=hp2 _ (List.getElem_mem hk')
  have hl:(x.take k).length=k:=List.length_take_of_le hk
  (repeat' first|intro _|(with_reducible apply And.intro))
  all_goals first|omega|(unfold maxLen;omega)|(exact ⟨k+1,by omega,by rw[mE hk'];rfl⟩)
 ·intro hge
  have:k=x.length:=by omega
  subst this
  show x.take x.length=x
  simp
end
noncomputable section
set_option maxRecDepth 100000
def aAU (a b:List Int):List Int:=List.zipWith (fun x y=>(gI x y).1) a b
def bBP (a b:List Int):Bool:=(a.zip b).any fun p=>(gI p.1 p.2).2
def eV (a b:List (List Int)):List (List Int):=List.zipWith aAU a b
def qM (a b:List (List Int)):Bool:=(a.zip b).any fun p=>bBP p.1 p.2
def qP (a b:dV):dV:=(eV a.1 b.1,((gI a.2.1 b.2.1).1,a.2.2 || b.2.2 || qM a.1 b.1 || (gI a.2.1 b.2.1).2))
theorem cBW {α β γ:Type} (f:α->β->γ) (a:List α) (b:List β):(List.zipWith f a b).length=min a.length b.length:=List.length_zipWith
theorem bQB {α β γ:Type} (f:α->β->γ) (a:List α) (b:List β) {k:Nat} (h1:k<a.length) (h2:k<b.length):(List.zipWith f a b).take k++[f a[k] b[k]]=(List.zipWith f a b).take (k+1):=by
 have h:k<(List.zipWith f a b).length:=by rw[cBW];omega
 rw[List.take_succ_eq_append_getElem h,List.getElem_zipWith]
theorem bOB {α β:Type} (F:α × β->Bool) (a:List α) (b:List β) {k:Nat} (h1:k<a.length) (h2:k<b.length):((a.zip b).take (k+1)).any F=(((a.zip b).take k).any F || F (a[k],b[k])):=by
 have h:k<(a.zip b).length:=by rw[List.length_zip];omega
 rw[List.take_succ_eq_append_getElem h,List.any_append]
 simp
theorem bX6 {α β:Type} (a:List α) (b:List β) {k:Nat} (h:min a.length b.length<=k):(a.zip b).take k=a.zip b:=List.take_of_length_le (by rw[List.length_zip];exact h)
def yM (g:dV):Prop:=g.1.length<=1000000000/\∀ r∈g.1,r.length<=1000000000
theorem aCL {α:Type} {l:List α} {k:Nat} (h:l.length<=k):l.take k=l:=List.take_of_length_le h
theorem nB (a b:List (List Int)):(eV a b).length=min a.length b.length:=List.length_zipWith
theorem aBG (a b:List Int):(aAU a b).length=min a.length b.length:=List.length_zipWith
theorem aTK (a b:List Int) {k:Nat} (h1:k<a.length) (h2:k<b.length):(aAU a b).take k++[(gI a[k] b[k]).1]=(aAU a b).take (k+1):=bQB _ a b h1 h2
theorem aCC (a b:List (List Int)) {k:Nat} (h1:k<a.length) (h2:k<b.length):(eV a b).take k++[aAU a[k] b[k]]=(eV a b).take (k+1):=bQB _ a b h1 h2
def aFS (a b:List Int) (k:Nat):Bool:=((a.zip b).take k).any fun p=>(gI p.1 p.2).2
def wY (a b:List (List Int)) (k:Nat):Bool:=((a.zip b).take k).any fun p=>bBP p.1 p.2
theorem aZG (a b:List Int) {k:Nat} (h1:k<a.length) (h2:k<b.length):aFS a b (k+1)=(aFS a b k || (gI a[k] b[k]).2):=bOB _ a b h1 h2
theorem bB9 (a b:List (List Int)) {k:Nat} (h1:k<a.length) (h2:k<b.length):wY a b (k+1)=(wY a b k || bBP a[k] b[k]):=bOB _ a b h1 h2
theorem bDU (a b:List Int) {k:Nat} (h:min a.length b.length<=k):aFS a b k=bBP a b:=by unfold aFS bBP;rw[bX6 a b h]
theorem bDN (a b:List (List Int)) {k:Nat} (h:min a.length b.length<=k):wY a b k=qM a b:=by unfold wY qM;rw[bX6 a b h]
def aGN:Con:=⟨212,aG,aG,[.val ⟨true,aG,[]⟩],[⟨true,aG,[2,0,0]⟩],false,none,
 ((fun x=>yM x):(dV)->Prop),
 ((fun x=>x):(dV)->(dV))⟩
def aNM:T:=lC (pX aJ tI 0) <| .ret (.cD2 aJ tY aX (eH aG 0))
theorem bBS:Con.Holds Tryz.prog aGN:=tk ⟨[],[]⟩ aNM (aD aCG aL) fun (x:dV) hx hp=>by
 dsimp only [aGN] at hx hp ⊢
 have hp:yM x:=hp
 delta aNM wJ;refine gH ?_
 exact ⟨hp,fun _=>by first|rfl|trivial⟩
def aCK:Con:=⟨90,(.cD0 aG aG),aG,[.val ⟨true,aG,[]⟩,.val ⟨true,aG,[]⟩],[⟨true,aG,[2,0,0]⟩],false,none,
 ((fun x=>yM x.1/\yM x.2):(dV × dV)->Prop),
 ((fun x=>qP x.1 x.2):(dV × dV)->(dV))⟩
def aRB:T:=.ite (kG aG 2 aG aG) (dX aY (gM aJ jF) 117 aA (iM aJ tY aG aG 0) <| sT aJ 1 2 3 (bT 117 aA (mW aG aG 0) <| sT aJ 1 4 5 (.loop bF (gM aA aT) <| cR 117 aA aJ (iM aJ tY aG aG 0) aJ 1 <| cN lN <| sT aA 6 8 9 (cR 117 aA aJ (mW aG aG 0) aJ 1 <| cN gN <| sT aA 6 11 12 (cR 117 aA aJ (iM aJ tY aG aG 0) aJ 1 <| cR 3 tI aA jC aA 6 <| cR 117 aA aJ (mW aG aG 0) aJ 1 <| cR 3 tI aA iL aA 6 <| nV 0 (zR tI 14 16) 3 tI (cS 17) <| kB 3 8 aA aA (kD 6) 18 <| fE aA 6 1 0 aA 20 19) <| oP 117 aA (kD 6) <| dM (tH 117 aA) aJ aJ (jY 1) 13 <| fE aJ 1 1 1 aJ 15 14) <| oP 117 aA (kD 6) <| dM (tH 117 aA) aJ aJ (jY 1) 10 <| fE aJ 1 1 1 aJ 12 11) <| cI 0 tI (fK aG 1 aG aG) (aE5 aG aG 0) <| fA aG (jY 1) (cS 6) bK) <| cI 0 tI (fK aG 1 aG aG) (aE5 aG aG 0) <| fA aG (jY 1) (cS 4) bK) <| dX pI (cO pI aM jF (gK aG aG 3)) 117 aA (iM aJ tY aG aG 0) <| eM bM (pX tI aJ 1) 2 <| cG 3 (bT 117 aA (mW aG aG 0) <| eM bM (pX tI aJ 1) 4 <| cG 5 (.loop (aBV aA) (cO (aBV aA) aM aT (dD pI 1)) <| dP 117 aA aJ (iM aJ tY aG aG 0) (pX tI aJ 1) <| cN lN <| eM bM (lI tI 6) 8 <| cG 9 (dP 117 aA aJ (mW aG aG 0) (pX tI aJ 1) <| cN gN <| eM bM (lI tI 6) 11 <| cG 12 (dP 117 aA aJ (iM aJ tY aG aG 0) (pX tI aJ 1) <| dP 3 tI aA jC (lI tI 6) <| dP 117 aA aJ (mW aG aG 0) (pX tI aJ 1) <| dP 3 tI aA iL (lI tI 6) <| nV 0 (zR tI 14 16) 3 tI (cS 17) <| kB 3 8 aA aA (cQ (aBV aA) 6) 18 <| .ite (dD (aBV aA) 6) (aA9 (lI tI 6) 1 0 (aBV aA) [sG,pK,bK]) <| aA9 (lI tI 6) 1 0 (aBV aA) [sG,pK,kP tI 1 17]) <| oP 117 aA (cQ (aBV aA) 6) <| dM (tH 117 aA) aJ aJ (cQ pI 1) 13 <| aA9 (pX tI aJ 1) 1 1 pI [iL,gW,dD (aBV aA) 6]) <| oP 117 aA (cQ (aBV aA) 6) <| dM (tH 117 aA) aJ aJ (cQ pI 1) 10 <| aA9 (pX tI aJ 1) 1 1 pI [kO,iX,dD (aBV aA) 6]) <| cI 0 tI (fK aG 1 aG aG) (aE5 aG aG 0) <| .ite (dD pI 1) (fA aG (cQ pI 1) (cS 6) bK) <| .ret (.cD2 aJ tY (cQ pI 1) fB)) <| cI 0 tI (fK aG 1 aG aG) (aE5 aG aG 0) <| .ite (dD pI 1) (fA aG (cQ pI 1) (cS 4) bK) <| .ret (.cD2 aJ tY (cQ pI 1) gD)
theorem aS7:Con.Holds Tryz.prog aCK:=tk ⟨[(2991,3001,oS 19 13++[.dr 0,.dr 1,.tm 6 0,.sl 7]),(2977,15006,[.tm 8 0,.sl 10]),(2991,2001,oS 19 13++[.dr 0,.dr 1,.tm 6 0,.sl 7,.bx 5 2]),(2977,14006,[.tm 8 0,.sl 10,.bx 5 2])],[(2971,47013,[],[10]),(2971,23010,[],[10]),(2971,46013,[],[10]),(2971,22010,[],[10])]⟩ aRB (aD aIY aL) fun (x:dV × dV) hx hp=>by
 dsimp only [aCK] at hx hp ⊢
 obtain ⟨⟨a,la,sa⟩,⟨b,lb,sb⟩⟩:=x
 obtain ⟨⟨ha,ha'⟩,⟨hb,hb'⟩⟩:yM (a,la,sa)/\yM (b,lb,sb):=hp
 dsimp only at ha ha' hb hb'
 delta aRB aAV;refine gH ?_
 constructor
 ·intro hsat
  refine ⟨fun s=>∃ k:Nat,k<=a.length/\k<=b.length/\s=((k:Int),(eV a b).take k),fun s=>a.length - (s.1:Int).toNat,⟨0,by omega,by omega,by simp⟩,fun s _ hI=>?_⟩
  obtain ⟨k,hk1,hk2,rfl⟩:=hI
  dsimp only
  refine iC ?_
  have fin:a.length<=k\/b.length<=k->∀ r:Int × Bool,r=gI la lb->((eV a b).take k,(r.1,true))=qP (a,la,sa) (b,lb,sb):=fun h r hr=>by
   rw[hr,aCL (by rw[nB];omega)]
   unfold qP
   dsimp only at hsat ⊢
   rw[hsat]
   simp
  (repeat' first|intro _|(with_reducible apply And.intro))
  rotate_left
  ·exact fin (by omega) _ rfl
  ·exact fin (by omega) _ rfl
  have h1:k<a.length:=by omega
  have h2:k<b.length:=by omega
  simp only[aO h1,aO h2]
  have mA:=ha' _ (List.getElem_mem h1)
  have mB:=hb' _ (List.getElem_mem h2)
  have e0:=aCC a b h1 h2
  generalize a[k]=A at *
  generalize b[k]=B at *
  refine ⟨fun s=>∃ j:Nat,j<=A.length/\j<=B.length/\s=((j:Int),(aAU A B).take j),fun s=>A.length - (s.1:Int).toNat,⟨0,by omega,by omega,by simp⟩,fun s _ hI=>?_⟩
  obtain ⟨j,hj1,hj2,rfl⟩:=hI
  dsimp only
  refine iC ?_
  have hl:List.length ((aAU A B).take j)=j:=by rw[List.length_take,aBG];omega
  have hl2:List.length ((eV a b).take k)=k:=by rw[List.length_take,nB];omega
  have out:A.length<=j\/B.length<=j->(eV a b).take k++[(aAU A B).take j]=(eV a b).take (k+1):=fun h=>by
   rw[aCL (l:=aAU A B) (by rw[aBG];omega)];exact e0
  (repeat' first|intro _|(with_reducible apply And.intro))
  all_goals first|omega|(unfold maxLen;omega)|(exact ⟨j+1,by omega,by omega,by rw[aO (show j<A.length by omega),aO (show j<B.length by omega),aTK A B (by omega) (by omega)];rfl⟩)|(exact ⟨k+1,by omega,by omega,by rw[out (by omega)];rfl⟩)
 ·intro hsat
  refine ⟨fun s=>∃ k:Nat,k<=a.length/\k<=b.length/\s=((k:Int),(eV a b).take k,sb || wY a b k),fun s=>a.length - (s.1:Int).toNat,⟨0,by omega,by omega,by simp[wY]⟩,fun s _ hI=>?_⟩
  obtain ⟨k,hk1,hk2,rfl⟩:=hI
  dsimp only
  refine iC ?_
  have fin:a.length<=k\/b.length<=k->∀ r:Int × Bool,r=gI la lb->((eV a b).take k,(r.1,(sb || wY a b k) || r.2))=qP (a,la,sa) (b,lb,sb):=fun h r hr=>by
   rw[hr,aCL (by rw[nB];omega),bDN a b (by omega)]
   unfold qP
   dsimp only at hsat ⊢
   rw[hsat]
   simp
  (repeat' first|intro _|(with_reducible apply And.intro))
  rotate_left
  ·rw[show (sb || wY a b k)=true by assumption] at fin;exact fin (by omega) _ rfl
  ·rw[show (sb || wY a b k)=false by assumption] at fin;exact fin (by omega) _ rfl
  ·rw[show (sb || wY a b k)=true by assumption] at fin;exact fin (by omega) _ rfl
  ·rw[show (sb || wY a b k)=false by assumption] at fin;exact fin (by omega) _ rfl
  have h1:k<a.length:=by omega
  have h2:k<b.length:=by omega
  simp only[aO h1,aO h2]
  have mA:=ha' _ (List.getElem_mem h1)
  have mB:=hb' _ (List.getElem_mem h2)
  have e0:=aCC a b h1 h2
  have e1:(sb || wY a b (k+1))=((sb || wY a b k) || bBP a[k] b[k]):=by rw[bB9 a b h1 h2,Bool.or_assoc]
  clear fin
  generalize (sb || wY a b k)=f0 at *
  generalize a[k]=A at *
  generalize b[k]=B at *
  refine ⟨fun s=>∃ j:Nat,j<=A.length/\j<=B.length/\s=((j:Int),(aAU A B).take j,f0 || aFS A B j),fun s=>A.length - (s.1:Int).toNat,⟨0,by omega,by omega,by simp[aFS]⟩,fun s _ hI=>?_⟩
  obtain ⟨j,hj1,hj2,rfl⟩:=hI
  dsimp only
  refine iC ?_
  have hl:List.length ((aAU A B).take j)=j:=by rw[List.length_take,aBG];omega
  have hl2:List.length ((eV a b).take k)=k:=by rw[List.length_take,nB];omega
  have out:A.length<=j\/B.length<=j->((eV a b).take k++[(aAU A B).take j],f0 || aFS A B j)=((eV a b).take (k+1),sb || wY a b (k+1)):=fun h=>by
   rw[aCL (l:=aAU A B) (by rw[aBG];omega),e0,e1,bDU A B (by omega)]
  (repeat' first|intro _|(with_reducible apply And.intro))
  all_goals first|omega|(unfold maxLen;omega)|skip
  all_goals first|(exact ⟨k+1,by omega,by omega,by rw[<- out (by omega)];rfl⟩)|(refine ⟨j+1,by omega,by omega,?_⟩)
  all_goals rw[aO (show j<A.length by omega),aO (show j<B.length by omega),aTK A B (by omega) (by omega),aZG A B (by omega) (by omega),<- Bool.or_assoc]
  ·rw[show (f0 || aFS A B j)=true by assumption];rfl
  ·rw[show (f0 || aFS A B j)=false by assumption];rfl
def aCV:Con:=⟨156,tI,aC2,[.val ⟨false,tI,[]⟩],[⟨false,tI,[0]⟩,⟨false,.bool,[0]⟩],false,none,
 ((fun _=>True):(Int)->Prop),
 ((fun x=>aTL x):(Int)->(Int × Bool))⟩
def bC4:T:=dY cX 2147483647 <| cE 1 (rB .bool (dR 2147483647) bK) <| gT bM 0 (-2147483647) <| cE 2 (rB .bool (dR (-2147483647)) bK) <| aDR .bool 0 cL
theorem aN3:Con.Holds Tryz.prog aCV:=tk ⟨[],[]⟩ bC4 aL fun (x:Int) hx hp=>by
 dsimp only [aCV] at hx hp ⊢
 delta bC4;refine gH ?_
 unfold aTL lD
 refine iC ?_
 refine ⟨fun h=>?_,fun h=>⟨fun h2=>?_,fun h2=>?_⟩⟩
 ·have:min (max x (-2147483647)) 2147483647=2147483647:=by omega
  rw[this];simp;omega
 ·have:min (max x (-2147483647)) 2147483647 = -2147483647:=by omega
  rw[this];simp;omega
 ·have:min (max x (-2147483647)) 2147483647=x:=by omega
  rw[this];simp
def aGY:Con:=⟨158,tI,tI,[.val ⟨false,tI,[]⟩],[⟨false,tI,[0]⟩],false,none,
 ((fun _=>True):(Int)->Prop),
 ((fun x=>lD x):(Int)->(Int))⟩
def bLH:T:=dE 0 0 <| .ret (cS 1)
theorem aQF:Con.Holds Tryz.prog aGY:=tk ⟨[],[]⟩ bLH (aD aN3 aL) fun (x:Int) hx hp=>by
 dsimp only [aGY] at hx hp ⊢
 delta bLH aCV;refine gH ?_
 exact fun _=>rfl
def yI:Con:=⟨151,aQ,aC2,[.val ⟨false,tI,[]⟩,.val ⟨false,tI,[]⟩],[⟨false,tI,[0]⟩,⟨false,.bool,[0]⟩],false,none,
 ((fun _=>True):(Int × Int)->Prop),
 ((fun x=>gI x.1 x.2):(Int × Int)->(Int × Bool))⟩
def bAA:T:=lC (lV 0) <| lC (gJ 0) <| eM cC aX 2 <| yA 1 3 4
theorem aDA:Con.Holds Tryz.prog yI:=tk ⟨[],[]⟩ bAA (aD aQF (aD aN3 aL)) fun (x:Int × Int) hx hp=>by
 dsimp only [yI] at hx hp ⊢
 delta bAA aGY aCV;refine gH ?_
 intro _ _
 have h1:=qS x.1
 have h2:=qS x.2
 exact ⟨by omega,fun _ _=>rfl⟩
def aEY:Con:=⟨113,aJ,aJ,[.val ⟨false,aJ,[]⟩],[⟨false,aJ,[2]⟩],false,none,
 ((fun x=>List.length x<=1000000000/\∀ y∈x,List.length y<=1000000000):(dG)->Prop),
 ((fun x=>x):(dG)->(dG))⟩
def aTY:T:=dX aY (gM aJ jF) 117 aA cX <| nR aJ 1 2 3 (cR 117 aA aJ cX aJ 1 <| kB 3 8 aA aA aT 4 <| oP 117 aA iR <| dM (tH 117 aA) aJ aJ (jY 1) 6 <| fE aJ 1 1 0 aJ 8 7) (jY 1)
theorem aU7:Con.Holds Tryz.prog aEY:=tk ⟨[(2991,1001,[.dr 5,.tm 4 0,.on 3,.sl 1])],[(2983,3004,[19],[])]⟩ aTY aL fun (x:dG) hx hp=>by
 dsimp only [aEY] at hx hp ⊢
 obtain ⟨hp1,hp2⟩:List.length x<=1000000000/\∀ y∈x,List.length y<=1000000000:=hp
 delta aTY;refine gH ?_
 refine ⟨fun s=>∃ k:Nat,k<=x.length/\s=((k:Int),x.take k),fun s=>x.length - (s.1:Int).toNat,⟨0,Nat.zero_le _,by simp⟩,fun s hs hI=>?_⟩
 obtain ⟨k,hk,rfl⟩:=hI
 dsimp only
 refine iC ?_
 intro _
 constructor
 ·intro hlt
  have hk':k<x.length:=by omega
  rw[aO hk']
  have hm:=hp2 _ (List.getElem_mem hk')
  have hl:(x.take k).length=k:=List.length_take_of_le hk
  (repeat' first|intro _|(with_reducible apply And.intro))
  all_goals first|omega|(unfold maxLen;omega)|(exact ⟨k+1,by omega,by rw[mE hk'];rfl⟩)
 ·intro hge
  have:k=x.length:=by omega
  subst this
  show x.take x.length=x
  simp
def aSM:Con:=⟨150,aF,yP,[.val ⟨false,aA,[]⟩,.val ⟨false,aA,[]⟩],[⟨false,aA,[2]⟩,⟨false,.bool,[0]⟩],false,none,
 ((fun x=>List.length x.1<=1000000000/\List.length x.2<=1000000000):(bA)->Prop),
 ((fun x=>(aAU x.1 x.2,bBP x.1 x.2)):(bA)->(cK × Bool))⟩
def bEE:T:=dX cB (cO cB aM cL aT) 3 tI kW <| kR bM (jX aA 1) 2 3 (cN pD <| kR bM (jX aA 1) 4 5 (iV 3 tI aA kW aA 1 <| iV 3 tI aA pD aA 1 <| nV 0 (zR tI 6 7) 3 tI (cS 8) <| kB 3 8 aA aA (lU 1) 9 <| sJ cB 1 (gZ aA 1 1 0 cB (eE iX bK 10)) <| gZ aA 1 1 0 cB (eE iX (kP tI 1 8) 10)) (sI aA (lU 1) cB 1)) (sI aA (lU 1) cB 1)
theorem bRS:Con.Holds Tryz.prog aSM:=tk ⟨[(2989,1001,[.dr 11,.tm 8 0,.tm 7 0,.on 6,.sl 1])],[]⟩ bEE (aD aDA aL) fun (x:bA) hx hp=>by
 dsimp only [aSM] at hx hp ⊢
 obtain ⟨A,B⟩:=x
 obtain ⟨mA,mB⟩:List.length A<=1000000000/\List.length B<=1000000000:=hp
 delta bEE yI;refine gH ?_
 refine ⟨fun s=>∃ j:Nat,j<=A.length/\j<=B.length/\s=((j:Int),aFS A B j,(aAU A B).take j),fun s=>A.length - (s.1:Int).toNat,⟨0,by omega,by omega,by simp[aFS]⟩,fun s _ hI=>?_⟩
 obtain ⟨j,hj1,hj2,rfl⟩:=hI
 dsimp only
 refine iC ?_
 have hl:List.length ((aAU A B).take j)=j:=by rw[List.length_take,aBG];omega
 have out:A.length<=j\/B.length<=j->((aAU A B).take j,aFS A B j)=(aAU A B,bBP A B):=fun h=>by
  rw[aCL (l:=aAU A B) (by rw[aBG];omega),bDU A B (by omega)]
 (repeat' first|intro _|(with_reducible apply And.intro))
 all_goals first|omega|(unfold maxLen;omega)|(exact out (by omega))|(refine ⟨j+1,by omega,by omega,?_⟩)
 all_goals rw[aO (show j<A.length by omega),aO (show j<B.length by omega),aTK A B (by omega) (by omega),aZG A B (by omega) (by omega)]
 ·rw[show aFS A B j=true by assumption];rfl
 ·rw[show aFS A B j=false by assumption];rfl
def kY:Con:=⟨62,(.cD0 tI aQ),.bool,[.val ⟨false,tI,[]⟩,.val ⟨false,tI,[]⟩,.val ⟨false,tI,[]⟩],[⟨false,.bool,[0]⟩],false,none,
 ((fun _=>True):(Int × eZ)->Prop),
 ((fun x=>decide (x.2.1<=x.1)&&decide (x.1<=x.2.2)):(Int × eZ)->(Bool))⟩
def bIP:T:=bX aLE (bO aQ 0) (cJ aQ 1 0) <| gV 1 <| bX (vW .leq) (bO aQ 0) (fQ aQ 2 0) <| cM 2
theorem mC:Con.Holds Tryz.prog kY:=tk ⟨[],[]⟩ bIP aL fun (x:Int × eZ) hx hp=>by
 dsimp only [kY] at hx hp ⊢
 delta bIP;refine gH ?_
 refine iC ?_
 constructor
 ·intro h;simp[h]
 ·intro h
  have:¬ x.2.1<=x.1:=by omega
  simp[this]
def aCM:Con:=⟨97,(.cD0 aG aG),aG,[.val ⟨true,aG,[]⟩,.val ⟨true,aG,[]⟩],[⟨true,aG,[2,0,0]⟩],false,none,
 ((fun x=>yM x.1/\yM x.2):(dV × dV)->Prop),
 ((fun x=>qP x.1 x.2):(dV × dV)->(dV))⟩
def aQ7:T:=.ite (kG aG 2 aG aG) (dX aY (gM aJ jF) 117 aA (iM aJ tY aG aG 0) <| sT aJ 1 2 3 (bT 117 aA (mW aG aG 0) <| sT aJ 1 4 5 (cR 117 aA aJ (iM aJ tY aG aG 0) aJ 1 <| cR 117 aA aJ (mW aG aG 0) aJ 1 <| nV 0 (.cD2 aA aA fB lN) 117 aA (iY 8) <| dM (tH 117 aA) aJ aJ (jY 1) 9 <| fE aJ 1 1 0 aJ 11 10) <| cI 1 tI (fK aG 1 aG aG) (aE5 aG aG 0) <| fA aG (jY 1) (cS 6) bK) <| cI 1 tI (fK aG 1 aG aG) (aE5 aG aG 0) <| fA aG (jY 1) (cS 4) bK) <| dX pI (cO pI aM jF (gK aG aG 3)) 117 aA (iM aJ tY aG aG 0) <| eM bM (pX tI aJ 1) 2 <| cG 3 (bT 117 aA (mW aG aG 0) <| eM bM (pX tI aJ 1) 4 <| cG 5 (dP 117 aA aJ (iM aJ tY aG aG 0) (pX tI aJ 1) <| dP 117 aA aJ (mW aG aG 0) (pX tI aJ 1) <| nV 0 (.cD2 aA aA fB lN) 117 aA (iY 8) <| dM (tH 117 aA) aJ aJ (cQ pI 1) 9 <| .ite (dD pI 1) (aA9 (pX tI aJ 1) 1 0 pI [iX,gN,bK]) <| aA9 (pX tI aJ 1) 1 0 pI [iX,gN,kP aA 1 8]) <| cI 1 tI (fK aG 1 aG aG) (aE5 aG aG 0) <| .ite (dD pI 1) (fA aG (cQ pI 1) (cS 6) bK) <| .ret (.cD2 aJ tY (cQ pI 1) fB)) <| cI 1 tI (fK aG 1 aG aG) (aE5 aG aG 0) <| .ite (dD pI 1) (fA aG (cQ pI 1) (cS 4) bK) <| .ret (.cD2 aJ tY (cQ pI 1) gD)
theorem aRS:Con.Holds Tryz.prog aCM:=tk ⟨[(2991,3001,oS 17 11++[.dr 0,.dr 1,.tm 6 0,.sl 7]),(2991,2001,oS 17 11++[.dr 0,.dr 1,.tm 6 0,.sl 7,.bx 5 2])],[(2980,15009,[],[8]),(2980,14009,[],[8])]⟩ aQ7 (aD bRS (aD aDA aL)) fun (x:dV × dV) hx hp=>by
 dsimp only [aCM] at hx hp ⊢
 obtain ⟨⟨a,la,sa⟩,⟨b,lb,sb⟩⟩:=x
 obtain ⟨⟨ha,ha'⟩,⟨hb,hb'⟩⟩:yM (a,la,sa)/\yM (b,lb,sb):=hp
 dsimp only at ha ha' hb hb'
 delta aQ7 aSM yI;refine gH ?_
 constructor
 ·intro hsat
  refine ⟨fun s=>∃ k:Nat,k<=a.length/\k<=b.length/\s=((k:Int),(eV a b).take k),fun s=>a.length - (s.1:Int).toNat,⟨0,by omega,by omega,by simp⟩,fun s _ hI=>?_⟩
  obtain ⟨k,hk1,hk2,rfl⟩:=hI
  dsimp only
  refine iC ?_
  have fin:a.length<=k\/b.length<=k->∀ r:Int × Bool,r=gI la lb->((eV a b).take k,(r.1,true))=qP (a,la,sa) (b,lb,sb):=fun h r hr=>by
   rw[hr,aCL (by rw[nB];omega)]
   unfold qP
   dsimp only at hsat ⊢
   rw[hsat]
   simp
  have hl2:List.length ((eV a b).take k)=k:=by rw[List.length_take,nB];omega
  (repeat' first|intro _|(with_reducible apply And.intro))
  all_goals first|omega|(unfold maxLen;omega)|(exact fin (by omega) _ rfl)|skip
  all_goals have h1:k<a.length:=by omega
  all_goals have h2:k<b.length:=by omega
  all_goals simp only[aO h1,aO h2]
  all_goals first|(exact ha' _ (List.getElem_mem h1))|(exact hb' _ (List.getElem_mem h2))|(exact ⟨k+1,by omega,by omega,by rw[aCC a b h1 h2];rfl⟩)
 ·intro hsat
  refine ⟨fun s=>∃ k:Nat,k<=a.length/\k<=b.length/\s=((k:Int),(eV a b).take k,sb || wY a b k),fun s=>a.length - (s.1:Int).toNat,⟨0,by omega,by omega,by simp[wY]⟩,fun s _ hI=>?_⟩
  obtain ⟨k,hk1,hk2,rfl⟩:=hI
  dsimp only
  refine iC ?_
  have fin:a.length<=k\/b.length<=k->∀ r:Int × Bool,r=gI la lb->((eV a b).take k,(r.1,(sb || wY a b k) || r.2))=qP (a,la,sa) (b,lb,sb):=fun h r hr=>by
   rw[hr,aCL (by rw[nB];omega),bDN a b (by omega)]
   unfold qP
   dsimp only at hsat ⊢
   rw[hsat]
   simp
  have hl2:List.length ((eV a b).take k)=k:=by rw[List.length_take,nB];omega
  (repeat' first|intro _|(with_reducible apply And.intro))
  all_goals first|omega|(unfold maxLen;omega)|skip
  all_goals first|(rw[show (sb || wY a b k)=true by assumption] at fin;exact fin (by omega) _ rfl)|(rw[show (sb || wY a b k)=false by assumption] at fin;exact fin (by omega) _ rfl)|skip
  all_goals have h1:k<a.length:=by omega
  all_goals have h2:k<b.length:=by omega
  all_goals simp only[aO h1,aO h2]
  all_goals first|(exact ha' _ (List.getElem_mem h1))|(exact hb' _ (List.getElem_mem h2))|(refine ⟨k+1,by omega,by omega,?_⟩)
  all_goals rw[aCC a b h1 h2,bB9 a b h1 h2,<- Bool.or_assoc]
  ·rw[show (sb || wY a b k)=true by assumption];rfl
  ·rw[show (sb || wY a b k)=false by assumption];rfl
end
noncomputable section
set_option maxRecDepth 100000
def sV (v:List Int):Bool:=decide (1<=v.length)&&(decide (v.length<=6)&&v.all mK)
theorem eC (v:List Int):sV v=true↔1<=v.length/\v.length<=6/\v.all mK=true:=by unfold sV;simp only[Bool.and_eq_true,decide_eq_true_eq]
def lM (o:dU):Int:=if o.2.1<1\/6<o.2.1\/o.2.2.1<1\/6<o.2.2.1 then 0 else if o.1=1\/o.1=5 then o.2.1 * o.2.2.1 else if o.1=2 then o.2.1 else if o.1=4 then 1 else 0
def opB (o:dU):Bool:=decide (1<=o.1/\o.1<=5/\1<=o.2.1/\o.2.1<=6/\1<=o.2.2.1/\o.2.2.1<=6/\(o.1≠1->o.2.1=o.2.2.1)/\(o.2.2.2.length:Int)=lM o)&&o.2.2.2.all mK
theorem lQ (o:dU):opB o=true↔(1<=o.1/\o.1<=5/\1<=o.2.1/\o.2.1<=6/\1<=o.2.2.1/\o.2.2.1<=6/\(o.1≠1->o.2.1=o.2.2.1)/\(o.2.2.2.length:Int)=lM o)/\o.2.2.2.all mK=true:=by
 unfold opB;simp only[Bool.and_eq_true,decide_eq_true_eq]
theorem cAH {m n:Nat}:((m:Int)=(n:Int))↔m=n:=by omega
def nO:dU:=(0,0,0,[])
def aVF (m:List dU) (i:Nat):Bool:=opB (m.getD i nO)&&(decide (i=0) || decide ((m.getD (i - 1) nO).2.2.1=(m.getD i nO).2.1))
theorem uY (m:List dU) {i:Nat} (h:i<m.length):aVF m i=true↔opB m[i]=true/\(i=0\/(m[i - 1]'(by omega)).2.2.1=m[i].2.1):=by
 unfold aVF
 rw[aO h,aO (show i - 1<m.length by omega)]
 simp only[Bool.and_eq_true,Bool.or_eq_true,decide_eq_true_eq]
def bY (m:List dU):Bool:=decide (1<=m.length)&&(decide (m.length<=8)&&(List.range m.length).all (aVF m))
theorem bR (m:List dU):bY m=true↔1<=m.length/\m.length<=8/\∀ i,i<m.length->aVF m i=true:=by
 unfold bY;simp only[Bool.and_eq_true,decide_eq_true_eq,List.all_eq_true,List.mem_range]
theorem aX0 {m:List dU} {i:Nat} (h:i<m.length) (hb:¬ aVF m i=true):false=bY m:=by
 refine (Bool.eq_false_iff.2 ?_).symm
 rw[ne_eq,bR]
 exact fun hh=>hb (hh.2.2 i h)
theorem bKW {o:dU} (h:o.2.1<1\/6<o.2.1\/o.2.2.1<1\/6<o.2.2.1\/(o.1≠1/\o.1≠5/\o.1≠2/\o.1≠4)):0=lM o:=by
 unfold lM
 split
 ·rfl
 ·rw[if_neg (by omega),if_neg (by omega),if_neg (by omega)]
theorem bI5 {o:dU} (h:1<=o.2.1/\o.2.1<=6/\1<=o.2.2.1/\o.2.2.1<=6/\(o.1=1\/o.1=5)):o.2.1 * o.2.2.1=lM o:=by
 unfold lM;rw[if_neg (by omega),if_pos (by omega)]
theorem bIN {o:dU} (h:1<=o.2.1/\o.2.1<=6/\1<=o.2.2.1/\o.2.2.1<=6/\o.1=2):o.2.1=lM o:=by
 unfold lM;rw[if_neg (by omega),if_neg (by omega),if_pos (by omega)]
theorem bAO {o:dU} (h:1<=o.2.1/\o.2.1<=6/\1<=o.2.2.1/\o.2.2.1<=6/\o.1=4):1=lM o:=by
 unfold lM;rw[if_neg (by omega),if_neg (by omega),if_neg (by omega),if_pos (by omega)]
theorem bCH {a b:Int} (h1:1<=a) (h2:a<=6) (h3:1<=b) (h4:b<=6):0<=a * b/\a * b<=36 :=
 ⟨Int.mul_nonneg (by omega) (by omega),Int.le_trans (Int.mul_le_mul h2 h4 (by omega) (by omega)) (by omega)⟩
def aDB:Con:=⟨192,aA,.bool,[.val ⟨false,aA,[]⟩],[⟨false,.bool,[0]⟩],false,none,
 ((fun _=>True):(List Int)->Prop),
 ((fun x=>List.all x mK):(List Int)->(Bool))⟩
def bAY:T:=iN 3 tI cX tI aM <| tE 2 1 3 (bN 3 tI aA cX 2 <| jE 0 gD 5 6 <| kF iZ 1 0 lN) bK
theorem aOW:Con.Holds Tryz.prog aDB:=tk ⟨[(2993,1002,[.dr 0,.tm 7 0])],[]⟩ bAY (aD aMF aL) fun (x:List Int) hx hp=>by
 dsimp only [aDB] at hx hp ⊢
 have hp:List.length x<=9223372036854775807:=hx.1
 delta bAY oW;refine gH ?_
 intro _
 refine ⟨fun s=>∃ k:Nat,k<=x.length/\s=(k:Int)/\(x.take k).all mK=true,fun s=>x.length - (s:Int).toNat,⟨0,by omega,rfl,rfl⟩,fun s _ hI=>?_⟩
 obtain ⟨k,hk,rfl,ha⟩:=hI
 refine iC ?_
 constructor
 ·intro hlt
  have hk':k<x.length:=by omega
  rw[aO hk']
  have e:=xX mK x hk'
  (repeat' first|intro _|(with_reducible apply And.intro))
  all_goals first|omega|skip
  ·exact (aFN hk' (by assumption)).symm
  ·exact ⟨k+1,by omega,rfl,by rw[e,ha];simpa using ‹mK _=true›⟩
 ·intro hge
  have:k=x.length:=by omega
  subst this
  rw[List.take_length] at ha
  exact ha.symm
def aP6:Con:=⟨191,bQ,tI,[.val ⟨true,bQ,[]⟩],[⟨false,tI,[0]⟩],false,none,
 ((fun _=>True):(dU)->Prop),
 ((fun x=>lM x):(dU)->(Int))⟩
def aXR:T:=iS bM wZ 1 <| cE 1 aM <| dY wZ 6 <| cE 2 aM <| iS bM (tK 0) 1 <| cE 3 aM <| dY (tK 0) 6 <| cE 4 aM <| lW (lK bF 0) 1 5 (tL qR wZ 0 <| cM 6) <| lW (lK bF 0) 5 6 (tL qR wZ 0 <| cM 7) <| oR (lK bF 0) 2 <| cE 7 wZ <| oR (lK bF 0) 4 <| cE 8 gF <| .ret aM
theorem bNN:Con.Holds Tryz.prog aP6:=tk ⟨[],[]⟩ aXR aL fun (x:dU) hx hp=>by
 dsimp only [aP6] at hx hp ⊢
 delta aXR;refine gH ?_;try with_reducible exact True.intro
 (repeat' first|intro _|(with_reducible apply And.intro))
 all_goals simp only[wC] at *
 all_goals first|omega|(have:=bCH (a:=x.2.1) (b:=x.2.2.1) (by omega) (by omega) (by omega) (by omega);omega)|exact bKW (by omega)|exact bI5 (by omega)|exact bIN (by omega)|exact bAO (by omega)
def aLN:Con:=⟨138,bQ,.bool,[.val ⟨true,bQ,[]⟩],[⟨false,.bool,[0]⟩],false,none,
 ((fun _=>True):(dU)->Prop),
 ((fun x=>opB x):(dU)->(Bool))⟩
def bL6:T:=iS bM (lK bF 0) 1 <| eQ 1 <| dY (lK bF 0) 5 <| eQ 2 <| iS bM wZ 1 <| eQ 3 <| dY wZ 6 <| eQ 4 <| iS bM (tK 0) 1 <| eQ 5 <| dY (tK 0) 6 <| eQ 6 <| wA (lK bF 0) 1 <| cG 7 (tL eW wZ 0 <| eQ 8 <| cN (dH bQ 0) <| dE 0 0 <| kC vU 9 10 <| gV 11 <| .call 1 (dH bQ 0) <| cM 12) <| cN (dH bQ 0) <| dE 0 0 <| kC vU 8 9 <| gV 10 <| .call 1 (dH bQ 0) <| cM 11
theorem aX5:Con.Holds Tryz.prog aLN:=tk ⟨[],[]⟩ bL6 (aD bNN (aD aOW aL)) fun (x:dU) hx hp=>by
 dsimp only [aLN] at hx hp ⊢
 have hp:List.length x.2.2.2<=9223372036854775807:=hx.2.2.2.1
 delta bL6 aP6 aDB;refine gH ?_;try with_reducible exact True.intro
 (repeat' first|intro _|(with_reducible apply And.intro))
 all_goals simp only[wC] at *
 all_goals first|assumption|(first|(refine (Bool.eq_false_iff.2 ?_).symm;rw[ne_eq,lQ];intro hh;omega)|(refine (lQ.2 ?_).symm;omega))|(rw[Bool.eq_iff_iff,lQ];exact ⟨fun h=>⟨by omega,h⟩,fun h=>h.2⟩)
def gB:Con:=⟨83,aB,.bool,[.val ⟨true,aB,[]⟩],[⟨false,.bool,[0]⟩],false,none,
 ((fun _=>True):(aS)->Prop),
 ((fun x=>bY x):(aS)->(Bool))⟩
def aTZ:T:=bT 98 bQ cX <| iS bM aX 1 <| eQ 2 <| bT 98 bQ cX <| dY qN 8 <| eQ 4 <| iN 98 bQ cX tI aM <| tE 6 5 7 (bN 98 bQ aB cX 6 <| jE 0 gP 9 10 <| dY fB 0 <| cG 11 (gT fJ 6 1 <| bN 98 bQ aB cX 12 <| bX eW (tK 13) (rM 8) <| eQ 14 <| kF fB 1 0 iL) <| kF fB 1 0 kO) bK
theorem oL:Con.Holds Tryz.prog gB:=tk ⟨[(2988,4006,oS 15 5++[.dr 0,.tm 18 0])],[]⟩ aTZ (aD aX5 aL) fun (x:aS) hx hp=>by
 dsimp only [gB] at hx hp ⊢
 obtain ⟨hp1,hp2⟩:List.length x<=9223372036854775807/\∀ o∈(x:List dU),List.length o.2.2.2<=9223372036854775807:=⟨hx.1,fun o ho=>(hx.2 o ho).2.2.2.1⟩
 delta aTZ aLN;refine gH ?_;try with_reducible exact True.intro
 (repeat' first|intro _|(with_reducible apply And.intro))
 all_goals simp only[wC] at *
 ·(first|(refine (Bool.eq_false_iff.2 ?_).symm;rw[ne_eq,bR];intro hh;omega)|(refine (bR.2 ?_).symm;omega))
 ·(first|(refine (Bool.eq_false_iff.2 ?_).symm;rw[ne_eq,bR];intro hh;omega)|(refine (bR.2 ?_).symm;omega))
 refine ⟨fun s=>∃ k:Nat,k<=x.length/\s=(k:Int)/\∀ i,i<k->aVF x i=true,fun s=>x.length - (s:Int).toNat,⟨0,by omega,rfl,by omega⟩,fun s _ hI=>?_⟩
 obtain ⟨k,hk,rfl,ha⟩:=hI
 refine iC ?_
 constructor
 ·intro hlt
  have hk':k<x.length:=by omega
  rw[aO hk',aO (show k - 1<x.length by omega)]
  have e:=uY x hk'
  have hm:=hp2 _ (List.getElem_mem hk')
  (repeat' first|intro _|(with_reducible apply And.intro))
  all_goals first|omega|exact hm|skip
  all_goals first|(refine aX0 hk' fun h=>?_;rw[e] at h;obtain ⟨h1,h2⟩:=h;first|(simp_all;done)|omega)|skip
  all_goals refine ⟨k+1,by omega,rfl,fun i hi=>?_⟩
  all_goals rcases Nat.lt_or_eq_of_le (Nat.le_of_lt_succ hi) with h|rfl
  all_goals first|exact ha i h|(refine e.2 ⟨by assumption,?_⟩;first|exact .inl (by omega)|exact .inr (by assumption)|exact .inr (by omega))
 ·intro hge
  have:k=x.length:=by omega
  subst this
  refine ((bR x).2 ⟨?_,?_,ha⟩).symm <;> omega
def aAN:Con:=⟨99,tI,.bool,[.val ⟨false,tI,[]⟩],[⟨false,.bool,[0]⟩],false,none,
 ((fun _=>True):(Int)->Prop),
 ((fun x=>mK x):(Int)->(Bool))⟩
def bDD:T:=lY 0 aEO (iO cX (dR (-2147483647)) 2147483647) <| cM 1
theorem aHJ:Con.Holds Tryz.prog aAN:=tk ⟨[],[]⟩ bDD (aD mC aL) fun (x:Int) hx hp=>by
 dsimp only [aAN] at hx hp ⊢
 delta bDD kY;refine gH ?_
 rw[Bool.eq_iff_iff,aBA]
 (refine iC ?_;try with_reducible exact True.intro)
def lH:Con:=⟨93,aA,.bool,[.val ⟨false,aA,[]⟩],[⟨false,.bool,[0]⟩],false,none,
 ((fun _=>True):(List Int)->Prop),
 ((fun x=>sV x):(List Int)->(Bool))⟩
def bDS:T:=dX tI aM 3 tI cX <| eM bM aX 2 <| cG 3 (bN 3 tI aA cX 1 <| jE 0 gD 5 6 <| kF aX 1 0 lN) <| cN cX <| lY 1 aEO (iO gD gF 6) <| cM 5
theorem mZ:Con.Holds Tryz.prog lH:=tk ⟨[(2993,1001,[.tm 3 0])],[]⟩ bDS (aD aHJ (aD mC aL)) fun (x:List Int) hx hp=>by
 dsimp only [lH] at hx hp ⊢
 have hp:List.length x<=9223372036854775807:=hx.1
 delta bDS aAN kY;refine gH ?_
 refine ⟨fun s=>∃ k:Nat,k<=x.length/\s=(k:Int)/\(x.take k).all mK=true,fun s=>x.length - (s:Int).toNat,⟨0,by omega,rfl,rfl⟩,fun s _ hI=>?_⟩
 obtain ⟨k,hk,rfl,ha⟩:=hI
 refine iC ?_
 intro _
 constructor
 ·intro hlt
  have hk':k<x.length:=by omega
  rw[aO hk']
  have e:=xX mK x hk'
  (repeat' first|intro _|(with_reducible apply And.intro))
  all_goals first|omega|skip
  ·have:=aFN hk' (by assumption)
   unfold sV
   rw[this]
   simp
  ·exact ⟨k+1,by omega,rfl,by rw[e,ha];simpa using ‹mK _=true›⟩
 ·intro hge
  have:k=x.length:=by omega
  subst this
  rw[List.take_length] at ha
  intro _
  rw[Bool.eq_iff_iff,eC,ha]
  simp only[wC,and_true]
  omega
def aAQ:Con:=⟨201,aF,.bool,[.val ⟨false,aA,[]⟩,.val ⟨false,aA,[]⟩],[⟨false,.bool,[0]⟩],false,none,
 ((fun _=>True):(bA)->Prop),
 ((fun x=>sV x.1&&(sV x.2&&decide ((x.1:List Int).length=(x.2:List Int).length))):(bA)->(Bool))⟩
def aWJ:T:=gG 0 aA aA 0 <| gV 1 <| lC pD <| gV 2 <| cN kW <| cN pD <| kC vU 3 4 <| cM 5
theorem aJ2:Con.Holds Tryz.prog aAQ:=tk ⟨[],[]⟩ aWJ (aD mZ aL) fun (x:bA) hx hp=>by
 dsimp only [aAQ] at hx hp ⊢
 delta aWJ lH;refine gH ?_
 cases sV x.1 <;> cases sV x.2 <;> simp only[reduceCtorEq,true_implies,false_implies,and_true,true_and,Bool.true_and,Bool.false_and,Bool.and_false,implies_true]
 intro _ _
 rw[Bool.eq_iff_iff,beq_iff_eq,decide_eq_true_eq]
 exact cAH
def aA8:Con:=⟨198,bQ,tI,[.val ⟨true,bQ,[]⟩],[⟨false,tI,[0]⟩],false,none,
 ((fun _=>True):(dU)->Prop),
 ((fun x=>lM x):(dU)->(Int))⟩
def aZ0:T:=kS 0 aQ (iO wZ gF 6) 1 2 aM <| kS 0 aQ (iO (tK 0) gF 6) 3 4 aM <| lW (lK bF 0) 1 5 (tL qR wZ 0 <| cM 6) <| lW (lK bF 0) 5 6 (tL qR wZ 0 <| cM 7) <| oR (lK bF 0) 2 <| cE 7 wZ <| oR (lK bF 0) 4 <| cE 8 gF <| .ret aM
theorem aY6:Con.Holds Tryz.prog aA8:=tk ⟨[],[]⟩ aZ0 (aD mC aL) fun (x:dU) hx hp=>by
 dsimp only [aA8] at hx hp ⊢
 delta aZ0 kY;refine gH ?_;try with_reducible exact True.intro
 (repeat' first|intro _|(with_reducible apply And.intro))
 all_goals simp only[wC] at *
 all_goals first|omega|(have:=bCH (a:=x.2.1) (b:=x.2.2.1) (by omega) (by omega) (by omega) (by omega);omega)|exact bKW (by omega)|exact bI5 (by omega)|exact bIN (by omega)|exact bAO (by omega)
def aL2:Con:=⟨149,bQ,.bool,[.val ⟨true,bQ,[]⟩],[⟨false,.bool,[0]⟩],false,none,
 ((fun _=>True):(dU)->Prop),
 ((fun x=>opB x):(dU)->(Bool))⟩
def bJQ:T:=kS 0 aQ (iO (lK bF 0) gF 5) 1 2 cL <| kS 0 aQ (iO wZ gF 6) 3 4 cL <| kS 0 aQ (iO (tK 0) gF 6) 5 6 cL <| wA (lK bF 0) 1 <| cG 7 (tL eW wZ 0 <| eQ 8 <| cN (dH bQ 0) <| dE 1 0 <| tM eW 9 10 11 <| dX tI aM 3 tI (dH bQ 0) <| tE 12 13 14 (bN 3 tI aA (dH bQ 0) 12 <| jE 2 iL 16 17 <| kF kO 1 0 uA) bK) <| cN (dH bQ 0) <| dE 1 0 <| tM eW 8 9 10 <| dX tI aM 3 tI (dH bQ 0) <| tE 11 12 13 (bN 3 tI aA (dH bQ 0) 11 <| jE 2 gW 15 16 <| kF iX 1 0 mV) bK
theorem bAW:Con.Holds Tryz.prog aL2:=tk ⟨[(2988,72012,oS 39 28++[.dr 26,.dr 27]++oS 25 4++[.dr 0,.tm 3 0]),(2988,32011,oS 39 28++[.dr 26,.dr 27]++oS 25 4++[.dr 0,.tm 3 0])],[]⟩ bJQ (aD mC (aD aY6 (aD aHJ aL))) fun (x:dU) hx hp=>by
  dsimp only [aL2] at hx hp ⊢
  have hp:List.length x.2.2.2<=9223372036854775807:=hx.2.2.2.1
  delta bJQ kY aA8 aAN;refine gH ?_;try with_reducible exact True.intro
  (repeat' first|intro _|(with_reducible apply And.intro))
  all_goals simp only[wC] at *
  all_goals first|assumption|(first|(refine (Bool.eq_false_iff.2 ?_).symm;rw[ne_eq,lQ];intro hh;omega)|(refine (lQ.2 ?_).symm;omega))|skip
  all_goals refine ⟨fun s=>∃ k:Nat,k<=x.2.2.2.length/\s=(k:Int)/\(x.2.2.2.take k).all mK=true,fun s=>x.2.2.2.length - (s:Int).toNat,⟨0,by omega,rfl,rfl⟩,fun s _ hI=>?_⟩
  all_goals obtain ⟨k,hk,rfl,ha⟩:=hI
  all_goals (refine iC ?_;try with_reducible exact True.intro)
  all_goals intro _
  all_goals have hin:k<x.2.2.2.length->x.2.2.2.getD k 0=x.2.2.2.getD k (0:Int):=fun _=>rfl
  all_goals constructor
  all_goals intro hlt
  all_goals first
    | (have hk':k<x.2.2.2.length:=by omega
       rw[aO hk']
       have e:=xX mK x.2.2.2 hk'
       refine ⟨by omega,fun _=>⟨fun hf=>?_,fun hf=>⟨by omega,fun _=>⟨⟨k+1,by omega,rfl,by rw[e,ha,hf];rfl⟩,by omega⟩⟩⟩⟩
       have hb:=aFN hk' hf
       refine (Bool.eq_false_iff.2 fun h=>?_).symm
       rw[lQ] at h
       rw[hb] at h
       exact Bool.noConfusion h.2)
    | (have:k=x.2.2.2.length:=by omega
       subst this
       rw[List.take_length] at ha
       exact ((lQ x).2 ⟨by omega,ha⟩).symm)
def oG:Con:=⟨92,aB,.bool,[.val ⟨true,aB,[]⟩],[⟨false,.bool,[0]⟩],false,none,
 ((fun _=>True):(aS)->Prop),
 ((fun x=>bY x):(aS)->(Bool))⟩
def aVB:T:=dX tI aM 98 bQ cX <| eM bM aX 2 <| cG 3 (bN 98 bQ aB cX 1 <| jE 0 gD 5 6 <| dY aX 0 <| cG 7 (iA aX 1 <| bN 98 bQ aB cX 1 <| bN 98 bQ aB cX 8 <| tL eW (rM 9) 10 <| eQ 11 <| kF aX 1 0 kO) <| kF aX 1 0 gP) <| bT 98 bQ cX <| lY 1 aEO (iO gD gF 8) <| cM 5
theorem rH:Con.Holds Tryz.prog oG:=tk ⟨[(2993,1001,[.dr 0,.tm 3 0])],[]⟩ aVB (aD bAW (aD mC aL)) fun (x:aS) hx hp=>by
 dsimp only [oG] at hx hp ⊢
 obtain ⟨hp1,hp2⟩:List.length x<=9223372036854775807/\∀ o∈(x:List dU),List.length o.2.2.2<=9223372036854775807:=⟨hx.1,fun o ho=>(hx.2 o ho).2.2.2.1⟩
 delta aVB aL2 kY;refine gH ?_
 refine ⟨fun s=>∃ k:Nat,k<=x.length/\s=(k:Int)/\∀ i,i<k->aVF x i=true,fun s=>x.length - (s:Int).toNat,⟨0,by omega,rfl,by omega⟩,fun s _ hI=>?_⟩
 obtain ⟨k,hk,rfl,ha⟩:=hI
 refine iC ?_
 intro _
 constructor
 ·intro hlt
  have hk':k<x.length:=by omega
  rw[aO hk',aO (show k - 1<x.length by omega)]
  have e:=uY x hk'
  have hm:=hp2 _ (List.getElem_mem hk')
  (repeat' first|intro _|(with_reducible apply And.intro))
  all_goals first|omega|exact hm|skip
  all_goals first|(refine aX0 hk' fun h=>?_;rw[e] at h;obtain ⟨h1,h2⟩:=h;first|(simp_all;done)|omega)|skip
  all_goals refine ⟨k+1,by omega,rfl,fun i hi=>?_⟩
  all_goals rcases Nat.lt_or_eq_of_le (Nat.le_of_lt_succ hi) with h|rfl
  all_goals first|exact ha i h|(refine e.2 ⟨by assumption,?_⟩;first|exact .inl (by omega)|exact .inr (by assumption)|exact .inr (by omega))
 ·intro hge
  have:k=x.length:=by omega
  subst this
  intro _
  rw[Bool.eq_iff_iff,bR]
  refine iC ?_
  constructor
  ·intro h;exact ⟨by omega,by omega,ha⟩
  ·intro h;omega
end
set_option maxRecDepth 100000
def kJ (m:List dU):List (List Int):=m.map fun o=>List.replicate o.2.2.2.length 0
def yQ (m:List dU):dV:=if bY m=true then (kJ m,0,false) else ([],0,false)
def aR1 (m:List dU) (g:List (List Int)) (i:Nat):Bool:=decide ((g.getD i []).length=(m.getD i nO).2.2.2.length)
def aIM (m:List dU) (g:List (List Int)):Bool:=decide (g.length=m.length)&&(List.range m.length).all (aR1 m g)
theorem xN (m:List dU) (g:List (List Int)):aIM m g=true↔g.length=m.length/\∀ i,i<m.length->aR1 m g i=true:=by
 unfold aIM;simp only[Bool.and_eq_true,decide_eq_true_eq,List.all_eq_true,List.mem_range]
theorem aCT (m:List dU) (g:List (List Int)) {i:Nat} (h:i<m.length) (h':i<g.length):aR1 m g i=true↔g[i].length=m[i].2.2.2.length:=by
 unfold aR1
 rw[aO h,aO h',decide_eq_true_eq]
theorem bJ1 {m:List dU} {g:List (List Int)} {i:Nat} (h:i<m.length) (hb:¬ aR1 m g i=true):aIM m g=false:=by
 refine Bool.eq_false_iff.2 ?_
 rw[ne_eq,xN]
 exact fun hh=>hb (hh.2 i h)
def sQ (m:List dU):Prop:=List.length m<=1000000000/\∀ o∈m,List.length o.2.2.2<=1000000000
theorem aOB (m:List dU) {k:Nat} (h:k<m.length):(kJ m).take k++[List.replicate m[k].2.2.2.length 0]=(kJ m).take (k+1):=by
 have h':k<(kJ m).length:=by unfold kJ;rw[List.length_map];exact h
 have e:(kJ m)[k]'h'=List.replicate m[k].2.2.2.length 0:=List.getElem_map ..
 rw[List.take_succ_eq_append_getElem h',e]
theorem rE (m:List dU):(kJ m).length=m.length:=List.length_map _
noncomputable def lP:Con:=⟨85,(.cD0 aB aJ),.bool,[.val ⟨true,aB,[]⟩,.val ⟨false,aJ,[]⟩],[⟨false,.bool,[0]⟩],false,none,
 ((fun _=>True):(aS × dG)->Prop),
 ((fun x=>aIM x.1 x.2):(aS × dG)->(Bool))⟩
def aRX:T:=bT 117 aA (kV aJ 1) <| bT 98 bQ (dT aB aJ) <| eM eW aX 2 <| eQ 3 <| iN 98 bQ (dT aB aJ) tI aM <| tE 5 4 6 (bN 98 bQ aB (dT aB aJ) 5 <| kZ (kV aJ 1) 5 <| cN gP <| cN (dH bQ 7) <| tM eW 9 10 11 <| kF iR 1 0 kO) bK
theorem aQN:Con.Holds Tryz.prog lP:=tk ⟨[(2988,2005,oS 13 7++[.dr 2,.dr 0,.tm 16 0])],[]⟩ aRX aL fun (x:aS × dG) hx hp=>by
 dsimp only [lP] at hx hp ⊢
 obtain ⟨m,g⟩:=x
 have hm1:m.length<=9223372036854775807:=hx.1.1
 delta aRX;refine gH ?_;try with_reducible exact True.intro
 (repeat' first|intro _|(with_reducible apply And.intro))
 all_goals simp only[wC] at *
 ·exact (Bool.eq_false_iff.2 fun h=>by rw[xN] at h;omega).symm
 refine ⟨fun s=>∃ k:Nat,k<=m.length/\s=(k:Int)/\∀ i,i<k->aR1 m g i=true,fun s=>m.length - (s:Int).toNat,⟨0,by omega,rfl,by omega⟩,fun s _ hI=>?_⟩
 obtain ⟨k,hk,rfl,ha⟩:=hI
 refine iC ?_
 constructor
 ·intro hlt
  have hk':k<m.length:=by omega
  have hk2:k<g.length:=by omega
  rw[aO hk',aO hk2]
  have e:=aCT m g hk' hk2
  refine ⟨by omega,fun _=>⟨by omega,fun _ _ _=>⟨fun h=>(bJ1 hk' fun h2=>?_).symm,fun h=>⟨by omega,fun _=>⟨⟨k+1,by omega,rfl,fun i hi=>?_⟩,by omega⟩⟩⟩⟩⟩
  ·have:=e.1 h2;omega
  ·rcases Nat.lt_or_eq_of_le (Nat.le_of_lt_succ hi) with h'|rfl
   ·exact ha i h'
   ·exact e.2 (by omega)
 ·intro hge
  have:k=m.length:=by omega
  subst this
  exact ((xN m g).2 ⟨by omega,ha⟩).symm
noncomputable def aB3:Con:=⟨89,aB,aG,[.val ⟨true,aB,[]⟩],[⟨true,aG,[2,0,0]⟩],false,none,
 ((fun x=>sQ x):(aS)->Prop),
 ((fun x=>yQ x):(aS)->(dV))⟩
def aNN:T:=dC 0 cX 1 2 (cO aG jF aM cL) <| iN 98 bQ cX aY (gM aJ jF) <| nR aJ 4 3 5 (cR 98 bQ aB cX aJ 4 <| cN (dH bQ 6) <| .cD1 (.rep 3 tI 8) lN <| oP 117 aA gP <| dM (tH 117 aA) aJ aJ (jY 4) 9 <| fE aJ 4 1 0 aJ 11 10) (cO aG (jY 4) aM cL)
theorem aNJ:Con.Holds Tryz.prog aB3:=tk ⟨[(2986,2004,[.dr 11,.dr 10]++oS 8 6++[.dr 1,.dr 0,.tm 14 0,.sl 6])],[(2976,6007,[23],[])]⟩ aNN (aD oL aL) fun (x:aS) hx hp=>by
 dsimp only [aB3] at hx hp ⊢
 have hq:sQ x:=hp
 obtain ⟨hp1,hp2⟩:sQ x:=hp
 delta aNN gB;refine gH ?_
 refine ⟨fun hb=>?_,fun hb _=>?_⟩
 all_goals simp only[wC] at hb
 ·unfold yQ;rw[hb];rfl
 refine ⟨fun s=>∃ k:Nat,k<=x.length/\s=((k:Int),(kJ x).take k),fun s=>x.length - (s.1:Int).toNat,⟨0,by omega,by simp⟩,fun s _ hI=>?_⟩
 obtain ⟨k,hk,rfl⟩:=hI
 dsimp only
 have hl:List.length ((kJ x).take k)=k:=by rw[List.length_take,rE];omega
 simp only[wC,hl]
 constructor
 ·intro hlt
  have hk':k<x.length:=by omega
  rw[aO hk']
  have hm:=hp2 _ (List.getElem_mem hk')
  have e:=aOB x hk'
  (repeat' first|intro _|(with_reducible apply And.intro))
  all_goals first|omega|(unfold maxLen;omega)|(exact ⟨k+1,by omega,by rw[<- e];rfl⟩)
 ·intro hge
  have:k=x.length:=by omega
  subst this
  unfold yQ
  rw[if_pos hb,aCL (by rw[rE];omega)]
noncomputable def aAW:Con:=⟨96,aB,aG,[.val ⟨true,aB,[]⟩],[⟨true,aG,[2,0,0]⟩],false,none,
 ((fun x=>sQ x):(aS)->Prop),
 ((fun x=>yQ x):(aS)->(dV))⟩
def aNT:T:=dX aY (gM aJ jF) 98 bQ cX <| nR aJ 1 2 3 (dE 0 0 <| fY 4 (cR 98 bQ aB cX aJ 1 <| cN (dH bQ 5) <| .cD1 (.rep 3 tI 8) fB <| oP 117 aA lN <| dM (tH 117 aA) aJ aJ (jY 1) 8 <| fE aJ 1 1 0 aJ 10 9) (cO aG (jY 1) aM cL)) (cO aG (jY 1) aM cL)
theorem aO7:Con.Holds Tryz.prog aAW:=tk ⟨[(2991,1001,[.dr 5,.dr 0,.tm 4 0,.sl 6])],[(2983,7005,[26],[])]⟩ aNT (aD rH aL) fun (x:aS) hx hp=>by
 dsimp only [aAW] at hx hp ⊢
 have hq:sQ x:=hp
 obtain ⟨hp1,hp2⟩:sQ x:=hp
 delta aNT oG;refine gH ?_
 refine ⟨fun s=>∃ k:Nat,k<=x.length/\(k=0\/bY x=true)/\s=((k:Int),(kJ x).take k),fun s=>x.length - (s.1:Int).toNat,⟨0,by omega,.inl rfl,by simp⟩,fun s _ hI=>?_⟩
 obtain ⟨k,hk,hz,rfl⟩:=hI
 dsimp only
 have hl:List.length ((kJ x).take k)=k:=by rw[List.length_take,rE];omega
 simp only[wC,hl]
 intro _
 have fin:k=x.length\/bY x=false->((kJ x).take k,(0:Int),false)=yQ x:=fun h=>by
  unfold yQ
  cases hb:bY x
  ·have:k=0:=hz.elim id fun h=>by rw[hb] at h;cases h
   subst this
   rfl
  ·have:k=x.length:=h.elim id fun h=>by rw[hb] at h;cases h
   rw[if_pos rfl,aCL (by rw[rE];omega)]
 constructor
 ·intro hlt
  have hk':k<x.length:=by omega
  rw[aO hk']
  have hm:=hp2 _ (List.getElem_mem hk')
  have e:=aOB x hk'
  (repeat' first|intro _|(with_reducible apply And.intro))
  all_goals first|omega|(unfold maxLen;omega)|exact hm|exact hp2 _ ‹_›|(exact ⟨k+1,by omega,.inr (by assumption),by rw[<- e];rfl⟩)|exact fin (.inr (by assumption))
 ·intro hge
  exact fin (.inl (by omega))
noncomputable section
set_option maxRecDepth 100000
def eqB {α:Type} (a b:α):Bool:=@decide (a=b) (Classical.propDecidable _)
theorem aF6 {α:Type} {a b:α}:eqB a b=true↔a=b:=by unfold eqB;rw[@decide_eq_true_eq]
theorem bO0 {α:Type} {a b:α}:eqB a b=false↔¬ a=b:=by rw[<- aF6 (a:=a) (b:=b),Bool.not_eq_true]
theorem eqF {α:Type} {a b:α} (h:¬ a=b):false=eqB a b:=(bO0.2 h).symm
theorem eqT {α:Type} {a b:α} (h:a=b):true=eqB a b:=(aF6.2 h).symm
theorem bHZ {α:Type} {a b:List α} {d:α} (hl:a.length=b.length) (h:∀ i,i<a.length->a.getD i d=b.getD i d):a=b:=by
 refine List.ext_getElem hl fun i h1 h2=>?_
 have:=h i h1
 rwa [aO h1,aO h2] at this
theorem cAF {x y:Bool}:(aJL .bool x y != true)=true↔¬ x=y:=by cases x <;> cases y <;> simp[aJL]
theorem cAJ {x y:Bool}:(aJL .bool x y != true)=false↔x=y:=by cases x <;> cases y <;> simp[aJL]
theorem cBJ {x y:Bool}:(aJL .bool x y != false)=eqB x y:=by
 rw[Bool.eq_iff_iff,aF6];cases x <;> cases y <;> simp[aJL]
theorem aI7 {x y:Int}:(x != y)=true↔¬ x=y:=by rw[bne_iff_ne]
theorem aIR {x y:Int}:(x != y)=false↔x=y:=by rw[bne_eq_false_iff_eq]
theorem cB5 {b:Bool}:(!b)=true↔b=false:=by cases b <;> simp
theorem cBI {b:Bool}:(!b)=false↔b=true:=by cases b <;> simp
def aJT:Con:=⟨102,aF,.bool,[.val ⟨false,aA,[]⟩,.val ⟨false,aA,[]⟩],[⟨false,.bool,[0]⟩],false,none,
 ((fun _=>True):(bA)->Prop),
 ((fun x=>eqB x.1 x.2):(bA)->(Bool))⟩
def aV2:T:=cN kW <| cN pD <| eM eW aX 2 <| eQ 3 <| dX tI aM 3 tI kW <| tE 4 5 6 (bN 3 tI aA kW 4 <| bN 3 tI aA pD 4 <| tM eW 7 8 9 <| kF gD 1 0 gN) bK
theorem bID:Con.Holds Tryz.prog aJT:=tk ⟨[(2988,2004,oS 10 6++[.tm 5 0])],[]⟩ aV2 aL fun (x:bA) hx hp=>by
 dsimp only [aJT] at hx hp ⊢
 obtain ⟨a,b⟩:=x
 have hm:a.length<=9223372036854775807:=by have:a.length<=maxLen:=hx.1.1;unfold maxLen at this;omega
 delta aV2;refine gH ?_
 simp only[aI7,aIR,cAH]
 refine fun _ _=>⟨fun h=>eqF fun e=>h (by rw[e]),fun hl=>?_⟩
 refine ⟨fun s=>∃ k:Nat,k<=a.length/\s=(k:Int)/\∀ i,i<k->a.getD i (aK tI)=b.getD i (aK tI),fun s=>a.length - (s:Int).toNat,⟨0,by omega,rfl,by omega⟩,fun s _ hI=>?_⟩
 obtain ⟨k,hk,rfl,ha⟩:=hI
 refine iC ?_
 intro _
 constructor
 ·intro hlt
  (repeat' first|intro _|(with_reducible apply And.intro))
  all_goals first|omega|(exact eqF fun e=>‹¬ _=_› (by rw[e]))|skip
  refine ⟨k+1,by omega,rfl,fun i hi=>?_⟩
  rcases Nat.lt_or_eq_of_le (Nat.le_of_lt_succ hi) with h|rfl
  ·exact ha i h
  ·assumption
 ·intro hge
  exact eqT (bHZ hl fun i hi=>ha i (by omega))
def aPS:Con:=⟨60,(.cD0 bQ bQ),.bool,[.val ⟨true,bQ,[]⟩,.val ⟨true,bQ,[]⟩],[⟨false,.bool,[0]⟩],false,none,
 ((fun _=>True):(dU × dU)->Prop),
 ((fun x=>eqB x.1 x.2):(dU × dU)->(Bool))⟩
def aWS:T:=bX vU (iM tI bL bQ bQ 0) (mW bQ bQ 0) <| gV 1 <| bX vU (fK bQ 1 bQ bQ) (aE5 bQ bQ 0) <| gV 2 <| bX vU (fK bQ 2 bQ bQ) (aAM (.cD0 bQ bQ) 3 0) <| gV 3 <| eI 0 aA (kG bQ 3 bQ bQ) (jQ bQ 4) <| cM 4
theorem bM9:Con.Holds Tryz.prog aPS:=tk ⟨[],[]⟩ aWS (aD bID aL) fun (x:dU × dU) hx hp=>by
 dsimp only [aPS] at hx hp ⊢
 obtain ⟨a,b⟩:=x
 delta aWS aJT;refine gH ?_
 have e:(a=b)↔(a.1=b.1/\a.2.1=b.2.1/\a.2.2.1=b.2.2.1/\a.2.2.2=b.2.2.2):=by simp[Prod.ext_iff]
 simp only[cBJ,beq_iff_eq,beq_eq_false_iff_ne,aF6,bO0,ne_eq]
 (repeat' first|intro _|(with_reducible apply And.intro))
 all_goals first|(refine eqF ?_;rw[e];simp_all;done)|(rw[Bool.eq_iff_iff,aF6,aF6,e];simp_all;done)
def yR:Con:=⟨184,aC,aB,[.val ⟨true,aC,[]⟩],[⟨true,aB,[0]⟩],true,none,
 ((fun _=>True):(bH)->Prop),
 ((fun x=>x.2.2.1):(bH)->(aS))⟩
def aUX:T:=.ret uK
theorem aF5:Con.Holds Tryz.prog yR:=tk ⟨[],[]⟩ aUX aL fun (x:bH) hx hp=>by
 dsimp only [yR] at hx hp ⊢
 delta aUX;refine gH ?_;try with_reducible exact True.intro
end
noncomputable section
set_option maxRecDepth 100000
def jP (m:List dU):Int:=if bY m=true then (m.getD 0 nO).2.1 else 0
def eN (m:List dU):Int:=if bY m=true then (m.getD (m.length - 1) nO).2.2.1 else 0
def dJ (v:List Int) (n:Int):Bool:=sV v&&decide ((v.length:Int)=n)
theorem cP (v:List Int) (n:Int):dJ v n=true↔sV v=true/\(v.length:Int)=n:=by unfold dJ;rw[Bool.and_eq_true,decide_eq_true_eq]
def oM (v:List Int) (n:Int):Bool:=decide (v.length=0) || dJ v n
theorem bRM (v:List Int) (n:Int):oM v n=true↔v.length=0\/dJ v n=true:=by unfold oM;rw[Bool.or_eq_true,decide_eq_true_eq]
def kQ (m:List dU) (i:Nat):Int:=if i<m.length then (m.getD i nO).2.1 else (m.getD (m.length - 1) nO).2.2.1
theorem aV3 {m:List dU} (h:bY m=true) {k:Nat} (hk:k<m.length):kQ m (k+1)=(m.getD k nO).2.2.1:=by
 unfold kQ
 split
 ·rename_i h1
  have h2:=((bR m).1 h).2.2 (k+1) h1
  rw[uY m h1] at h2
  rcases h2.2 with h3|h3
  ·omega
  ·rw[aO h1,aO hk]
   exact h3.symm
 ·have:m.length - 1=k:=by omega
  rw[this]
def aBW (m:List dU) (r:List (List Int)) (n:Nat):Bool:=(List.range n).all fun i=>dJ (r.getD i []) (kQ m i)
theorem tD (m:List dU) (r:List (List Int)) (n:Nat):aBW m r n=true↔∀ i,i<n->dJ (r.getD i []) (kQ m i)=true:=by unfold aBW;simp only[List.all_eq_true,List.mem_range]
def aJG (m:List dU) (redo:Bool):Nat:=if redo=true then 1 else m.length+1
def tZ (m:List dU) (redo:Bool) (x:Int × List (List Int)):Bool:=decide (x.2.length=aJG m redo)&&aBW m x.2 (aJG m redo)
theorem aDE (m:List dU) (redo:Bool) (x:Int × List (List Int)):tZ m redo x=true↔x.2.length=aJG m redo/\∀ i,i<aJG m redo->dJ (x.2.getD i []) (kQ m i)=true:=by unfold tZ;rw[Bool.and_eq_true,decide_eq_true_eq,tD]
def jA (s:bH):Bool:=bY s.2.2.1&&(decide (0<=s.1/\s.1<=(s.2.1.length:Int))&&(aIM s.2.2.1 s.2.2.2.2.2.2.2.2.2.2.2.1&&(s.2.2.2.2.2.1.all (tZ s.2.2.1 s.2.2.2.2.1) &&
 (oM s.2.2.2.2.2.2.2.1 (jP s.2.2.1)&&(oM s.2.2.2.2.2.2.2.2.2.2.1 (jP s.2.2.1)&&(oM s.2.2.2.2.2.2.2.2.1 (eN s.2.2.1)&&oM s.2.2.2.2.2.2.2.2.2.1 (eN s.2.2.1)))))))
theorem dB (s:bH):jA s=true↔bY s.2.2.1=true/\(0<=s.1/\s.1<=(s.2.1.length:Int))/\aIM s.2.2.1 s.2.2.2.2.2.2.2.2.2.2.2.1=true/\s.2.2.2.2.2.1.all (tZ s.2.2.1 s.2.2.2.2.1)=true /\
 oM s.2.2.2.2.2.2.2.1 (jP s.2.2.1)=true/\oM s.2.2.2.2.2.2.2.2.2.2.1 (jP s.2.2.1)=true/\oM s.2.2.2.2.2.2.2.2.1 (eN s.2.2.1)=true/\oM s.2.2.2.2.2.2.2.2.2.1 (eN s.2.2.1)=true:=by
 unfold jA;simp only[Bool.and_eq_true,decide_eq_true_eq]
theorem aJX {v:List Int} {n:Int} (h:sV v=false):false=dJ v n:=by unfold dJ;rw[h];rfl
theorem bUX {v:List Int} {n:Int} (h:sV v=true):((v.length:Int)==n)=dJ v n:=by unfold dJ;rw[h,Bool.true_and];rfl
theorem aT3 {s:bH} {k:Nat} (hk:k<s.2.2.2.2.2.1.length) (h:¬ tZ s.2.2.1 s.2.2.2.2.1 (s.2.2.2.2.2.1.getD k (aK aY))=true):false=jA s:=by
 refine (Bool.eq_false_iff.2 fun hh=>?_).symm
 have h4:=((dB s).1 hh).2.2.2.1
 rw[List.all_eq_true] at h4
 exact h (h4 _ (by rw[aO hk];exact List.getElem_mem hk))
theorem bD9 {s:bH} (h:∀ i,i<s.2.2.2.2.2.1.length->tZ s.2.2.1 s.2.2.2.2.1 (s.2.2.2.2.2.1.getD i (aK aY))=true):s.2.2.2.2.2.1.all (tZ s.2.2.1 s.2.2.2.2.1)=true:=by
 rw[List.all_eq_true]
 intro x hx
 obtain ⟨i,hi,rfl⟩:=List.getElem_of_mem hx
 have:=h i hi
 rwa [aO hi] at this
theorem aSD {m:List dU} {redo:Bool} {x:qZ} {n:Nat} (hn:n=aJG m redo):tZ m redo x=true↔x.2.length=n/\aBW m x.2 n=true:=by
 unfold tZ;rw[Bool.and_eq_true,decide_eq_true_eq,hn]
theorem bJN {s:bH} (h1:bY s.2.2.1=true) (h2:0<=s.1/\s.1<=(s.2.1.length:Int)) (h3:aIM s.2.2.1 s.2.2.2.2.2.2.2.2.2.2.2.1=true) (h4:s.2.2.2.2.2.1.all (tZ s.2.2.1 s.2.2.2.2.1)=true) :
  jA s=(oM s.2.2.2.2.2.2.2.1 (jP s.2.2.1)&&(oM s.2.2.2.2.2.2.2.2.2.2.1 (jP s.2.2.1)&&(oM s.2.2.2.2.2.2.2.2.1 (eN s.2.2.1)&&oM s.2.2.2.2.2.2.2.2.2.1 (eN s.2.2.1)))):=by
 unfold jA;rw[h1,h3,h4];simp[h2]
theorem zL {s:bH} (h:bY s.2.2.1=false\/s.1<0\/(s.2.1.length:Int)<s.1\/aIM s.2.2.1 s.2.2.2.2.2.2.2.2.2.2.2.1=false\/oM s.2.2.2.2.2.2.2.1 (jP s.2.2.1)=false\/oM s.2.2.2.2.2.2.2.2.2.2.1 (jP s.2.2.1)=false\/oM s.2.2.2.2.2.2.2.2.1 (eN s.2.2.1)=false):false=jA s:=by
 refine (Bool.eq_false_iff.2 fun hh=>?_).symm
 obtain ⟨h1,h2,h3,h4,h5,h6,h7,h8⟩:=(dB s).1 hh
 rcases h with h|h|h|h|h|h|h
 ·rw[h] at h1;cases h1
 ·omega
 ·omega
 ·rw[h] at h3;cases h3
 ·rw[h] at h5;cases h5
 ·rw[h] at h6;cases h6
 ·rw[h] at h7;cases h7
def wI:Con:=⟨193,aA,.bool,[.val ⟨false,aA,[]⟩],[⟨false,.bool,[0]⟩],false,none,
 ((fun _=>True):(List Int)->Prop),
 ((fun x=>sV x):(List Int)->(Bool))⟩
def bE9:T:=cN cX <| sB .geq aX 1 <| gV 2 <| cN cX <| sB .leq qN 6 <| gV 4 <| yA 0 0 5
theorem aAS:Con.Holds Tryz.prog wI:=tk ⟨[],[]⟩ bE9 (aD aOW aL) fun (x:List Int) hx hp=>by
 dsimp only [wI] at hx hp ⊢
 delta bE9 aDB;refine gH ?_;try with_reducible exact True.intro
 (repeat' first|intro _|(with_reducible apply And.intro))
 all_goals simp only[wC] at *
 all_goals first|(first|(refine (Bool.eq_false_iff.2 ?_).symm;rw[ne_eq,eC];intro hh;omega)|(refine (eC.2 ?_).symm;omega))|(rw[Bool.eq_iff_iff,eC];exact ⟨fun h=>⟨by omega,by omega,h⟩,fun h=>h.2.2⟩)
def qC:Con:=⟨141,(.cD0 aA tI),.bool,[.val ⟨false,aA,[]⟩,.val ⟨false,tI,[]⟩],[⟨false,.bool,[0]⟩],false,none,
 ((fun _=>True):(cK × Int)->Prop),
 ((fun x=>dJ x.1 x.2):(cK × Int)->(Bool))⟩
def bDV:T:=gG 0 aA tI 0 <| gV 1 <| cN (pC aA) <| bX vU iZ (iD aA 1 0) <| cM 3
theorem rY:Con.Holds Tryz.prog qC:=tk ⟨[],[]⟩ bDV (aD aAS aL) fun (x:cK × Int) hx hp=>by
 dsimp only [qC] at hx hp ⊢
 delta bDV wI;refine gH ?_
 exact ⟨fun h _=>bUX h,fun h=>aJX h⟩
def aH1:Con:=⟨142,aB,tI,[.val ⟨true,aB,[]⟩],[⟨false,tI,[0]⟩],false,none,
 ((fun _=>True):(aS)->Prop),
 ((fun x=>jP x):(aS)->(Int))⟩
def bL0:T:=dC 0 cX 1 2 aM <| dP 98 bQ aB cX aM <| .ret (rM 3)
theorem aQL:Con.Holds Tryz.prog aH1:=tk ⟨[],[]⟩ bL0 (aD oL aL) fun (x:aS) hx hp=>by
 dsimp only [aH1] at hx hp ⊢
 delta bL0 gB;refine gH ?_
 refine ⟨fun h=>?_,fun h=>?_⟩
 all_goals simp only[wC] at h
 ·unfold jP;rw[h];rfl
 ·have:=(bR x).1 h
  refine ⟨by omega,fun _=>?_⟩
  unfold jP;rw[if_pos h];rfl
def aCS:Con:=⟨143,aB,tI,[.val ⟨true,aB,[]⟩],[⟨false,tI,[0]⟩],false,none,
 ((fun _=>True):(aS)->Prop),
 ((fun x=>eN x):(aS)->(Int))⟩
def bDB:T:=dC 0 cX 1 2 aM <| kI 98 bQ cX fJ 3 1 <| bN 98 bQ aB cX 4 <| .ret (tK 5)
theorem aME:Con.Holds Tryz.prog aCS:=tk ⟨[],[]⟩ bDB (aD oL aL) fun (x:aS) hx hp=>by
 dsimp only [aCS] at hx hp ⊢
 delta bDB gB;refine gH ?_
 refine ⟨fun h=>?_,fun h=>?_⟩
 all_goals simp only[wC] at h
 ·unfold eN;rw[h];rfl
 ·have:=(bR x).1 h
  refine fun _=>⟨by omega,fun _=>⟨by omega,fun _=>?_⟩⟩
  unfold eN;rw[if_pos h,aHU];rfl
def aLB:Con:=⟨213,(.cD0 aA tI),.bool,[.val ⟨false,aA,[]⟩,.val ⟨false,tI,[]⟩],[⟨false,.bool,[0]⟩],false,none,
 ((fun _=>True):(cK × Int)->Prop),
 ((fun x=>oM x.1 x.2):(cK × Int)->(Bool))⟩
def aUH:T:=cN (pC aA) <| oR aX 0 <| cE 2 bK <| yA 0 0 3
theorem bI3:Con.Holds Tryz.prog aLB:=tk ⟨[],[]⟩ aUH (aD rY aL) fun (x:cK × Int) hx hp=>by
 dsimp only [aLB] at hx hp ⊢
 delta aUH qC;refine gH ?_
 intro _
 refine iC ?_
 refine ⟨fun h=>?_,fun h=>?_⟩
 ·unfold oM;rw[decide_eq_true (by omega)];rfl
 ·unfold oM;rw[decide_eq_false (by omega)];rfl
def aL4:Con:=⟨230,(.cD0 aA tI),.bool,[.val ⟨false,aA,[]⟩,.val ⟨false,tI,[]⟩],[⟨false,.bool,[0]⟩],false,none,
 ((fun _=>True):(cK × Int)->Prop),
 ((fun x=>oM x.1 x.2):(cK × Int)->(Bool))⟩
def aV0:T:=cN (pC aA) <| oR aX 0 <| cE 2 bK <| gG 0 aA tI 0 <| gV 3 <| cN (pC aA) <| bX vU gD (iD aA 1 0) <| cM 5
theorem bIU:Con.Holds Tryz.prog aL4:=tk ⟨[],[]⟩ aV0 (aD mZ aL) fun (x:cK × Int) hx hp=>by
 dsimp only [aL4] at hx hp ⊢
 delta aV0 lH;refine gH ?_
 intro _
 refine iC ?_
 refine ⟨fun h=>?_,fun h=>⟨fun h2 _=>?_,fun h2=>?_⟩⟩
 ·unfold oM;rw[decide_eq_true (by omega)];rfl
 ·unfold oM;rw[decide_eq_false (by omega),Bool.false_or];exact bUX h2
 ·unfold oM;rw[decide_eq_false (by omega),Bool.false_or];exact aJX h2
def aJ5:Con:=⟨188,(.cD0 aB (.cD0 aJ tI)),.bool,[.val ⟨false,aB,[]⟩,.val ⟨false,aJ,[]⟩,.val ⟨false,tI,[]⟩],[⟨false,.bool,[0]⟩],false,none,
 ((fun x=>bY x.1=true/\x.2.2<=(x.2.1.length:Int)):(aS × (dG × Int))->Prop),
 ((fun x=>aBW x.1 x.2.1 x.2.2.toNat):(aS × (dG × Int))->(Bool))⟩
def bAJ:T:=.loop tI aM <| bX bM aX (qJ aJ tI 0) <| fY 2 (kI 98 bQ (jO aB aJ tI 0) fJ 3 1 <| bN 98 bQ aB (jO aB aJ tI 0) 4 <| bT 98 bQ (jO aB aJ tI 0) <| eM bM aX 6 <| cG 7 (bN 98 bQ aB (jO aB aJ tI 0) 1 <| kZ (gQ aB aJ tI 1 0) 1 <| jE 0 (qO aA mT (rM 8)) 10 11 <| kF aX 1 0 kO) <| kZ (gQ aB aJ tI 1 0) 1 <| jE 0 (qO aA gP (tK 5)) 9 10 <| kF aX 1 0 iX) bK
theorem aX2:Con.Holds Tryz.prog aJ5:=tk ⟨[(2993,1001,[.tm 7 0])],[]⟩ bAJ (aD rY aL) fun (x:aS × (dG × Int)) hx hp=>by
 dsimp only [aJ5] at hx hp ⊢
 obtain ⟨m,r,n⟩:=x
 obtain ⟨hm,hn⟩:bY m=true/\n<=(r.length:Int):=hp
 have hr:r.length<=9223372036854775807:=hx.2.1.1
 have hm1:=(bR m).1 hm
 delta bAJ qC;refine gH ?_
 refine ⟨fun s=>∃ k:Nat,k<=n.toNat/\s=(k:Int)/\∀ i,i<k->dJ (r.getD i []) (kQ m i)=true,fun s=>n.toNat - (s:Int).toNat,⟨0,by omega,rfl,by omega⟩,fun s _ hI=>?_⟩
 obtain ⟨k,hk,rfl,ha⟩:=hI
 refine iC ?_
 have bad:k<n.toNat->∀ z:Int,z=kQ m k->dJ (r.getD k []) z=false->false=aBW m r n.toNat:=fun h z hz hv=>by
  refine (Bool.eq_false_iff.2 fun hh=>?_).symm
  have:=(tD _ _ _).1 hh k h
  rw[<- hz,hv] at this;cases this
 have good:∀ z:Int,z=kQ m k->dJ (r.getD k []) z=true->∀ i,i<k+1->dJ (r.getD i []) (kQ m i)=true:=fun z hz hv i hi=>by
  rcases Nat.lt_or_eq_of_le (Nat.le_of_lt_succ hi) with h|rfl
  ·exact ha i h
  ·rw[<- hz];exact hv
 constructor
 ·intro hlt
  have e1:(m.getD (m.length - 1) (aK bQ)).2.2.1=(m.getD (m.length - 1) nO).2.2.1:=rfl
  have e2:(m.getD k (aK bQ)).2.1=(m.getD k nO).2.1:=rfl
  have z1:k<m.length->(m.getD k nO).2.1=kQ m k:=fun h=>by unfold kQ;rw[if_pos h]
  have z2:¬ k<m.length->(m.getD (m.length - 1) nO).2.2.1=kQ m k:=fun h=>by unfold kQ;rw[if_neg h]
  (repeat' first|intro _|(with_reducible apply And.intro))
  all_goals first|omega|(exact bad (by omega) _ (z1 (by omega)) (by assumption))|(exact bad (by omega) _ (z2 (by omega)) (by assumption))|(exact ⟨k+1,by omega,rfl,good _ (z1 (by omega)) (by assumption)⟩)|(exact ⟨k+1,by omega,rfl,good _ (z2 (by omega)) (by assumption)⟩)
 ·intro hge
  exact ((tD _ _ _).2 fun i hi=>ha i (by omega)).symm
def yS:Con:=⟨185,aC,.bool,[.val ⟨true,aC,[]⟩],[⟨false,.bool,[0]⟩],false,none,
 ((fun _=>True):(bH)->Prop),
 ((fun x=>jA x):(bH)->(Bool))⟩
def aV5:T:=dE 0 0 <| jE 1 aX 2 3 <| qH bM 0 0 <| eQ 4 <| bT 158 aQ (fU 1) <| aAK (vW .gtr) bHL 0 5 <| eQ 6 <| jE 2 (.cD2 aB aJ aX (fU 11)) 7 8 <| kI 98 bQ uK cC 9 1 <| .ite (fU 4) (iN 200 aY (fU 5) tI aM <| uC 12 11 <| cG 13 (bN 200 aY bJ (fU 5) 12 <| bT 117 aA (jY 14) <| wA iL 1 <| eQ 16 <| jE 3 (mkA (rS aJ tI) (iO uK (jY 14) 1)) 17 18 <| kF kO 1 0 pK) <| dE 4 1 <| dE 5 1 <| cI 6 aA (fU 7) gW <| gV 16 <| cI 6 aA (fU 10) gW <| gV 17 <| cI 6 aA (fU 8) iL <| gV 18 <| cI 6 aA (fU 9) iL <| cM 19) <| iN 200 aY (fU 5) tI aM <| uC 12 11 <| cG 13 (bN 200 aY bJ (fU 5) 12 <| bT 117 aA (jY 14) <| tM eW 15 10 16 <| jE 3 (mkA (rS aJ tI) (eE uK (jY 14) 10)) 17 18 <| kF kO 1 0 pK) <| dE 4 1 <| dE 5 1 <| cI 6 aA (fU 7) gW <| gV 16 <| cI 6 aA (fU 10) gW <| gV 17 <| cI 6 aA (fU 8) iL <| gV 18 <| cI 6 aA (fU 9) iL <| cM 19
theorem aF1:Con.Holds Tryz.prog yS:=tk ⟨[(2979,48012,oS 41 9++[.dr 0,.tm 44 0]),(2979,32012,oS 41 9++[.dr 0,.tm 44 0])],[]⟩ aV5 (aD aF5 (aD oL (aD aQN (aD aX2 (aD aQL (aD aME (aD bI3 aL))))))) fun (x:bH) hx hp=>by
  dsimp only [yS] at hx hp ⊢
  have hst:x.2.2.2.2.2.1.length<=9223372036854775807:=hx.2.2.2.2.2.1.1
  delta aV5 yR gB lP aJ5 aH1 aCS aLB;refine gH ?_
  refine iC ?_
  intro _
  refine ⟨fun h=>zL (.inl h),fun h1=>⟨fun h=>zL (.inr (.inl h)),fun h2 _=>⟨fun h=>zL (.inr (.inr (.inl h))),fun h3=>⟨fun h=>zL (.inr (.inr (.inr (.inl h)))),fun h4 _=>?_⟩⟩⟩⟩
  have hm:=(bR _).1 h1
  refine ⟨by omega,fun _=>⟨fun hr _=>?_,fun hr _=>?_⟩⟩
  all_goals
    refine ⟨fun s=>∃ k:Nat,k<=x.2.2.2.2.2.1.length/\s=(k:Int)/\∀ i,i<k->tZ x.2.2.1 x.2.2.2.2.1 (x.2.2.2.2.2.1.getD i (aK aY))=true,fun s=>x.2.2.2.2.2.1.length - (s:Int).toNat,⟨0,by omega,rfl,by omega⟩,fun s _ hI=>?_⟩
    obtain ⟨k,hk,rfl,ha⟩:=hI
    refine iC ?_
    obtain ⟨n,hn⟩:∃ n,n=aJG x.2.2.1 x.2.2.2.2.1:=⟨_,rfl⟩
    have hn1:=hn
    unfold aJG at hn1
    rw[hr] at hn1
    simp only[if_true,Bool.false_eq_true,if_false] at hn1
    have hkn:=(hn1.symm.trans hn).symm
    clear hn hn1
    constructor
  rotate_left 1
  rotate_left 2
  all_goals first
    | (intro hge
       have hst:=bD9 (s:=x) (fun i hi=>ha i (by omega))
       rw[bJN h1 ⟨by omega,by omega⟩ h4 hst]
       (repeat' first|intro _|(with_reducible apply And.intro))
       all_goals simp_all
       done)
    | skip
  all_goals
    intro hlt
    have hk':k<x.2.2.2.2.2.1.length:=by omega
    (repeat' first|intro _|(with_reducible apply And.intro))
    all_goals first|omega|exact h1|(exact aT3 hk' fun hh=>by have:=((aSD hkn.symm).1 hh).1;omega)|skip
    all_goals first|(refine aT3 hk' fun hh=>?_;have h5:=((aSD hkn.symm).1 hh).2;exact Bool.noConfusion (h5.symm.trans (by assumption:_=false)))|(refine ⟨k+1,by omega,rfl,fun i hi=>?_⟩;rcases Nat.lt_or_eq_of_le (Nat.le_of_lt_succ hi) with h|rfl;exact ha i h;exact (aSD hkn.symm).2 ⟨by omega,by assumption⟩)
def yX:Con:=⟨206,aC,.bool,[.val ⟨true,aC,[]⟩],[⟨false,.bool,[0]⟩],false,none,
 ((fun _=>True):(bH)->Prop),
 ((fun x=>jA x):(bH)->(Bool))⟩
def aTT:T:=jE 0 uK 1 2 <| bT 158 aQ (fU 1) <| kS 1 aQ (eE (aOL 0) aM 3) 4 5 cL <| bT 117 aA (fU 11) <| bT 98 bQ uK <| tM eW 6 7 8 <| dP 98 bQ aB uK aM <| kI 98 bQ uK fJ 10 1 <| bN 98 bQ aB uK 11 <| dX tI aM 98 bQ uK <| uC 13 14 <| cG 15 (kZ (fU 11) 13 <| cN kT <| bN 98 bQ aB uK 13 <| cN (dH bQ 18) <| tM eW 17 19 20 <| rR jC 1 0 21) <| dX tI aM 200 aY (fU 5) <| uC 16 17 <| cG 18 (bN 200 aY bJ (fU 5) 16 <| bT 117 aA uL <| oR sG 0 <| eQ 21 <| dP 117 aA aJ uL aM <| jE 2 tP 23 24 <| dP 117 aA aJ uL aM <| cN (.Z 25) <| bX eW sM (rM 9) <| eQ 27 <| aG2 (fU 4) <| cG 28 (bT 117 aA uL <| kI 98 bQ uK cC 30 1 <| tM eW 29 31 32 <| .ite (fU 4) (bT 117 aA uL <| wA (.Z 33) 1 <| eQ 34 <| dX tI gF 117 aA uL <| uC 35 36 <| cG 37 (kZ uL 35 <| jE 2 (.Z 38) 39 40 <| gT fJ 35 1 <| kZ uL 35 <| cN (.Z 42) <| bN 98 bQ aB uK 41 <| tL eW (.Z 43) 44 <| eQ 45 <| rR (.Z 35) 1 0 46) <| rR kT 1 1 38) <| dX tI gF 117 aA uL <| uC 33 34 <| cG 35 (kZ uL 33 <| jE 2 (.Z 36) 37 38 <| gT fJ 33 1 <| kZ uL 33 <| cN (.Z 40) <| bN 98 bQ aB uK 39 <| tL eW (.Z 41) 42 <| eQ 43 <| rR (.Z 33) 1 0 44) <| rR kT 1 1 36) <| .ite (fU 4) (bT 117 aA uL <| wA aAD 1 <| eQ 30 <| dX tI gF 117 aA uL <| uC 31 32 <| cG 33 (kZ uL 31 <| jE 2 (.Z 34) 35 36 <| gT fJ 31 1 <| kZ uL 31 <| cN (.Z 38) <| bN 98 bQ aB uK 37 <| tL eW (.Z 39) 40 <| eQ 41 <| rR (.Z 31) 1 0 42) <| rR kT 1 1 34) <| dX tI gF 117 aA uL <| uC 29 30 <| cG 31 (kZ uL 29 <| jE 2 (.Z 32) 33 34 <| gT fJ 29 1 <| kZ uL 29 <| cN (.Z 36) <| bN 98 bQ aB uK 35 <| tL eW (.Z 37) 38 <| eQ 39 <| rR aAD 1 0 40) <| rR kT 1 1 32) <| cI 3 aA (fU 7) (rM 9) <| gV 19 <| cI 3 aA (fU 8) (tK 12) <| gV 20 <| cI 3 aA (fU 9) (tK 12) <| gV 21 <| cI 3 aA (fU 10) (rM 9) <| cM 22
theorem aF7:Con.Holds Tryz.prog yX:=tk ⟨[(2984,8013,oS 46 9++[.dr 0,.tm 5 0]),(2974,16016,oS 51 47++[.dr 5,.tm 6 0]),(2956,5392035,[.tm 8 0]),(2956,2320033,[.tm 8 0]),(2956,2576031,[.tm 8 0]),(2956,1040029,[.tm 8 0])],[]⟩ aTT (aD rH (aD mC (aD mZ (aD bIU aL)))) fun (x:bH) hx hp=>by
  dsimp only [yX] at hx hp ⊢
  obtain ⟨pc,plan,ops,last,redo,stash,full,X,Y,G,D,sum⟩:=x
  have hst:stash.length<=9223372036854775807:=hx.2.2.2.2.2.1.1
  have hsr:∀ k,k<stash.length->(stash.getD k (aK aY)).2.length<=9223372036854775807:=fun k hk=>by rw[aO hk];exact (hx.2.2.2.2.2.1.2 _ (List.getElem_mem hk)).2.1
  have hol:ops.length<=9223372036854775807:=hx.2.2.1.1
  delta aTT oG kY lH aL4;refine gH ?_
  refine iC ?_
  refine ⟨fun h=>zL (.inl h),fun h1 _=>⟨fun h=>?_,fun h2 _ _=>⟨fun h=>?_,fun h3=>?_⟩⟩⟩
  · rcases h with h|h
    · exact zL (.inr (.inl (by omega)))
    · exact zL (.inr (.inr (.inl (by omega))))
  · exact zL (.inr (.inr (.inr (.inl (Bool.eq_false_iff.2 fun hh=>by rw[xN] at hh;dsimp only at hh;omega)))))
  have hm:=(bR _).1 h1
  refine ⟨by omega,fun _ _=>⟨by omega,fun _=>⟨by omega,fun _=>?_⟩⟩⟩
  have ein:(ops.getD 0 (aK bQ)).2.1=jP ops:=by unfold jP;rw[if_pos h1];rfl
  have eout:(ops.getD (ops.length - 1) (aK bQ)).2.2.1=eN ops:=by unfold eN;rw[if_pos h1];rfl
  simp only[ein,eout]
  refine ⟨fun s=>∃ k:Nat,k<=ops.length/\s=(k:Int)/\∀ i,i<k->aR1 ops sum.1 i=true,fun s=>ops.length - (s:Int).toNat,⟨0,by omega,rfl,by omega⟩,fun s _ hI=>?_⟩
  obtain ⟨k,hk,rfl,hf⟩:=hI
  refine iC ?_
  intro _
  constructor
  · intro hlt
    have hk':k<ops.length:=by omega
    have hk2:k<sum.1.length:=by omega
    have e:=aCT ops sum.1 hk' hk2
    rw[<- aO hk' (d:=aK bQ),<- aO hk2 (d:=aK aA)] at e
    (repeat' first|intro _|(with_reducible apply And.intro))
    all_goals first|omega|(exact zL (.inr (.inr (.inr (.inl (bJ1 hk' fun h2=>by have:=e.1 h2;omega))))))|(refine ⟨k+1,by omega,rfl,fun i hi=>?_⟩;rcases Nat.lt_or_eq_of_le (Nat.le_of_lt_succ hi) with h|rfl;exact hf i h;exact e.2 (by omega))
  intro hge
  have hfit:aIM ops sum.1=true:=(xN _ _).2 ⟨by omega,fun i hi=>hf i (by omega)⟩
  obtain ⟨F,hF⟩:∃ F:qZ->Bool,F=tZ ops redo:=⟨_,rfl⟩
  obtain ⟨n,hn⟩:∃ n,n=aJG ops redo:=⟨_,rfl⟩
  have hz0:kQ ops 0=jP ops:=by unfold kQ jP;rw[if_pos (by omega),if_pos h1]
  have sb:∀ S:qZ,F S=true↔S.2.length=n/\∀ i,i<n->dJ (S.2.getD i (aK aA)) (kQ ops i)=true:=fun S=>by rw[hF,hn];exact aDE _ _ _
  have bad:∀ j,j<stash.length->¬ F (stash.getD j (aK aY))=true->false=jA (pc,plan,ops,last,redo,stash,full,X,Y,G,D,sum):=fun j hj h=>aT3 hj (by show ¬ tZ ops redo _=true;rw[<- hF];exact h)
  have fin:(∀ i,i<stash.length->F (stash.getD i (aK aY))=true)->jA (pc,plan,ops,last,redo,stash,full,X,Y,G,D,sum)=(oM X (jP ops)&&(oM D (jP ops)&&(oM Y (eN ops)&&oM G (eN ops)))) :=
    fun h=>bJN h1 ⟨by dsimp only;omega,by dsimp only;omega⟩ hfit (bD9 fun i hi=>by show tZ ops redo _=true;rw[<- hF];exact h i hi)
  have hn1:(redo=true->n=1)/\(redo=false->n=ops.length+1):=by rw[hn];unfold aJG;exact ⟨fun h=>by rw[h];rfl,fun h=>by rw[h];rfl⟩
  clear hF hn
  cases redo
  all_goals
    simp only[Bool.not_true,Bool.not_false,reduceCtorEq,true_implies,false_implies,and_true,true_and,forall_const] at hn1 ⊢
    refine ⟨fun s=>∃ k:Nat,k<=stash.length/\s=(k:Int)/\∀ i,i<k->F (stash.getD i (aK aY))=true,fun s=>stash.length - (s:Int).toNat,⟨0,by omega,rfl,by omega⟩,fun s _ hI=>?_⟩
    obtain ⟨j,hj,rfl,ha⟩:=hI
    refine iC ?_
    intro _
    constructor
    rotate_left
    · intro hge
      rw[fin fun i hi=>ha i (by omega)]
      (repeat' first|intro _|(with_reducible apply And.intro))
      all_goals simp_all
    intro hlt
    have hj':j<stash.length:=by omega
    have hrl:=hsr j hj'
    have bj:=bad j hj'
    have sj:=sb (stash.getD j (aK aY))
    have nx:F (stash.getD j (aK aY))=true->∀ i,i<j+1->F (stash.getD i (aK aY))=true:=fun h i hi=>by
      rcases Nat.lt_or_eq_of_le (Nat.le_of_lt_succ hi) with h'|rfl
      · exact ha i h'
      · exact h
    clear ha fin bad sb hsr
    generalize stash.getD j (aK aY)=S at *
    (repeat' first|intro _|(with_reducible apply And.intro))
    all_goals first|omega|(refine bj fun hh=>?_;have:=(sj.1 hh).1;omega)|(refine bj fun hh=>?_;have h5:=(sj.1 hh).2 0 (by omega);rw[cP] at h5;first|omega|(simp_all;done))|skip
    refine ⟨fun s=>∃ k:Nat,1<=k/\k<=S.2.length/\s=(k:Int)/\∀ i,1<=i->i<k->dJ (S.2.getD i (aK aA)) (kQ ops i)=true,fun s=>S.2.length - (s:Int).toNat,⟨1,by omega,by omega,rfl,by omega⟩,fun s _ hI=>?_⟩
    obtain ⟨k,hk1,hk,rfl,ha⟩:=hI
    refine iC ?_
    have hsz:k<=ops.length->kQ ops k=(ops.getD (k - 1) (aK bQ)).2.2.1:=fun h=>by
      have:=aV3 h1 (k:=k - 1) (by omega)
      rwa [Nat.sub_add_cancel hk1] at this
    (repeat' first|intro _|(with_reducible apply And.intro))
    all_goals first|omega|skip
    all_goals first
      | (refine bj fun hh=>?_;have h5:=(sj.1 hh).2 k (by omega);rw[cP,hsz (by omega)] at h5;first|omega|(simp_all;done))
      | (refine ⟨k+1,by omega,by omega,rfl,fun i hi1 hi=>?_⟩
         rcases Nat.lt_or_eq_of_le (Nat.le_of_lt_succ hi) with h'|rfl
         · exact ha i hi1 h'
         · rw[cP,hsz (by omega)];exact ⟨by assumption,by omega⟩)
      | (refine ⟨j+1,by omega,rfl,nx (sj.2 ⟨by omega,fun i hi=>?_⟩)⟩
         by_cases hi1:1<=i
         · exact ha i hi1 (by omega)
         · obtain rfl:i=0:=by omega
           rw[cP,hz0];exact ⟨by assumption,by omega⟩)
end
noncomputable section
set_option maxRecDepth 100000
def mp {α:Type} (n:Nat) (g:Nat->α):List α:=(List.range n).map g
def an (n:Nat) (h:Nat->Bool):Bool:=(List.range n).any h
theorem bFS {α:Type} (g:Nat->α):mp 0 g=[]:=rfl
theorem bPL (h:Nat->Bool):an 0 h=false:=rfl
theorem lE {α:Type} (n:Nat) (g:Nat->α):mp (n+1) g=mp n g++[g n]:=by unfold mp;rw[List.range_succ,List.map_append];rfl
theorem rF (n:Nat) (h:Nat->Bool):an (n+1) h=(an n h || h n):=by unfold an;rw[List.range_succ,List.any_append];simp
theorem eX {α:Type} (n:Nat) (g:Nat->α):(mp n g).length=n:=by unfold mp;simp
theorem tJ {α:Type} (n:Nat) (g:Nat->α) (d:α) {i:Nat} (h:i<n):(mp n g).getD i d=g i:=by unfold mp;simp[h]
theorem bXG {α:Type} (l:List α) (d:α):mp l.length (fun i=>l.getD i d)=l:=by
 refine List.ext_getElem (eX _ _) fun i h1 h2=>?_
 rw[<- aO h1 (d:=d),tJ _ _ _ h2,aO h2]
theorem bOZ {α:Type} {n:Nat} {g h:Nat->α} (e:∀ i,i<n->g i=h i):mp n g=mp n h:=List.map_congr_left fun i hi=>e i (List.mem_range.1 hi)
theorem bYR {n:Nat} {g h:Nat->Bool} (e:∀ i,i<n->g i=h i):an n g=an n h:=by
 rw[Bool.eq_iff_iff];unfold an;simp only[List.any_eq_true,List.mem_range]
 exact ⟨fun ⟨i,h1,h2⟩=>⟨i,h1,by rw[<- e i h1];exact h2⟩,fun ⟨i,h1,h2⟩=>⟨i,h1,by rw[e i h1];exact h2⟩⟩
theorem qW {a b:Bool} (h:a=true):true=(a || b):=by rw[h];rfl
theorem wW {a b:Bool} (h:a=false):b=(a || b):=by rw[h];rfl
theorem bE4 {a b c:Bool} (h:a=true):true=((a || b) || c):=by rw[h];rfl
theorem bCK {a b c:Bool} (h:a=false) (h2:b=true):true=((a || b) || c):=by rw[h,h2];rfl
theorem bDR {a b c:Bool} (h:a=false) (h2:b=false):c=((a || b) || c):=by rw[h,h2];rfl
def fC (a b:Int):Int × Bool:=aTL (lD a - lD b)
def gO (a b:Int):Int × Bool:=aTL ((lD a * lD b).fdiv 65536)
def bA4 (x:Int):Int:=max 0 (lD x)
theorem cCI {x y:Int} (h1:-2147483647<=x/\x<=2147483647) (h2:-2147483647<=y/\y<=2147483647):-4611686014132420609<=x * y/\x * y<=4611686014132420609:=by
 have h:(x * y).natAbs<=2147483647 * 2147483647:=by
  rw[Int.natAbs_mul];exact Nat.mul_le_mul (by omega) (by omega)
 omega
theorem cCD {a:Int} (h:-9223372036854775808<=a/\a<=9223372036854775807):-140737488355328<=a.tdiv 65536/\a.tdiv 65536<=140737488355328:=by
 rcases Int.le_total 0 a with h1|h1
 ·rw[Int.tdiv_eq_ediv_of_nonneg h1];omega
 ·have e1:a.tdiv 65536 = -((-a) / 65536):=by
   rw[<- Int.neg_neg a,Int.neg_tdiv,Int.tdiv_eq_ediv_of_nonneg (by omega),Int.neg_neg]
  omega
theorem bT9 (x:Int):x.fdiv 65536=(if x.tmod 65536≠0/\x<0 then x.tdiv 65536 - 1 else x.tdiv 65536):=by
 rw[Int.fdiv_eq_ediv_of_nonneg _ (by decide)]
 rcases Int.le_total 0 x with h|h
 ·rw[Int.tdiv_eq_ediv_of_nonneg h,if_neg (by omega)]
 ·have e1:x.tdiv 65536 = -((-x) / 65536):=by
   rw[<- Int.neg_neg x,Int.neg_tdiv,Int.tdiv_eq_ediv_of_nonneg (by omega),Int.neg_neg]
  have e2:x.tmod 65536 = -((-x) % 65536):=by
   rw[<- Int.neg_neg x,Int.neg_tmod,Int.tmod_eq_emod_of_nonneg (by omega),Int.neg_neg]
  rw[e1,e2]
  split <;> omega
def aBK (a b:List Int):Bool:=sV a&&dJ b (a.length:Int)
def vz (f:Int->Int->Int × Bool) (a b:List Int) (n:Nat):List Int × Bool:=(mp n fun i=>(f (a.getD i 0) (b.getD i 0)).1,an n fun i=>(f (a.getD i 0) (b.getD i 0)).2)
def qE (f:Int->Int->Int × Bool) (a b:List Int):List Int × Bool:=if aBK a b=true then vz f a b a.length else ([],false)
def aED (c:Int) (a:List Int):List Int × Bool:=if mK c=true/\sV a=true then (mp a.length fun i=>(gO c (a.getD i 0)).1,an a.length fun i=>(gO c (a.getD i 0)).2) else ([],false)
def aQ4 (a b:List Int):Nat->Int × Bool
 | 0=>(0,false)
 | k+1=>((gI (aQ4 a b k).1 (gO (a.getD k 0) (b.getD k 0)).1).1,(aQ4 a b k).2 || (gO (a.getD k 0) (b.getD k 0)).2 || (gI (aQ4 a b k).1 (gO (a.getD k 0) (b.getD k 0)).1).2)
def nW (a b:List Int):Int × Bool:=if aBK a b=true then aQ4 a b a.length else (0,false)
def aB4 (a:List Int):List Int:=if sV a=true then mp a.length fun i=>bA4 (a.getD i 0) else []
def aB1 (x d:List Int):List Int:=if aBK x d=true then mp x.length fun i=>if 0<x.getD i 0 then d.getD i 0 else 0 else []
theorem aMZ (a b:List Int):aBK a b=true↔sV a=true/\dJ b (a.length:Int)=true:=by unfold aBK;rw[Bool.and_eq_true]
theorem tW {a b:List Int} (h:aBK a b=true):a.length<=6/\b.length=a.length:=by
 obtain ⟨h1,h2⟩:=(aMZ a b).1 h
 have:=(eC a).1 h1
 have:=(cP _ _).1 h2
 omega
theorem aVP {f:Int->Int->Int × Bool} {a b:List Int} (h:aBK a b=false):([],false)=qE f a b:=by unfold qE;rw[if_neg (by rw[h];exact Bool.false_ne_true)]
theorem aRP {f:Int->Int->Int × Bool} {a b:List Int} (h:aBK a b=true):qE f a b=vz f a b a.length:=if_pos h
theorem bE6 (a b:List Int) (k:Nat):aQ4 a b (k+1)=((gI (aQ4 a b k).1 (gO (a.getD k 0) (b.getD k 0)).1).1,(aQ4 a b k).2 || (gO (a.getD k 0) (b.getD k 0)).2 || (gI (aQ4 a b k).1 (gO (a.getD k 0) (b.getD k 0)).1).2):=rfl
theorem bP7 (a b:List Int):(sV a&&(sV b&&decide (a.length=b.length)))=aBK a b:=by
 unfold aBK dJ
 congr 2
 rw[Bool.eq_iff_iff,decide_eq_true_eq,decide_eq_true_eq];omega
def pJ:Con:=⟨87,aQ,aC2,[.val ⟨false,tI,[]⟩,.val ⟨false,tI,[]⟩],[⟨false,tI,[0]⟩,⟨false,.bool,[0]⟩],false,none,
 ((fun _=>True):(Int × Int)->Prop),
 ((fun x=>fC x.1 x.2):(Int × Int)->(Int × Bool))⟩
def aX6:T:=lC (lV 0) <| lC (gJ 0) <| eM fJ aX 2 <| yA 1 3 4
theorem bAT:Con.Holds Tryz.prog pJ:=tk ⟨[],[]⟩ aX6 (aD aH0 (aD aOZ aL)) fun (x:Int × Int) hx hp=>by
 dsimp only [pJ] at hx hp ⊢
 delta aX6 aAF aEI;refine gH ?_
 intro _ _
 have h1:=qS x.1
 have h2:=qS x.2
 exact ⟨by omega,fun _ _=>rfl⟩
def mR:Con:=⟨86,aQ,aC2,[.val ⟨false,tI,[]⟩,.val ⟨false,tI,[]⟩],[⟨false,tI,[0]⟩,⟨false,.bool,[0]⟩],false,none,
 ((fun _=>True):(Int × Int)->Prop),
 ((fun x=>gO x.1 x.2):(Int × Int)->(Int × Bool))⟩
def bAU:T:=lC (lV 0) <| lC (gJ 0) <| eM qR aX 2 <| iT (.shr .i64 .u64) tI (.int .u64) qN (.ci .u64 16) <| yA 1 4 5
theorem aIV:Con.Holds Tryz.prog mR:=tk ⟨[],[]⟩ bAU (aD aH0 (aD aOZ aL)) fun (x:Int × Int) hx hp=>by
 dsimp only [mR] at hx hp ⊢
 delta bAU aAF aEI;refine gH ?_
 have h:=cCI (qS x.1) (qS x.2)
 exact fun _ _=>⟨by omega,fun _=>⟨by omega,fun _ _=>rfl⟩⟩
def aZD:Con:=⟨232,tI,tI,[.val ⟨false,tI,[]⟩],[⟨false,tI,[0]⟩],false,none,
 ((fun _=>True):(Int)->Prop),
 ((fun x=>bA4 x):(Int)->(Int))⟩
def bHB:T:=dE 0 0 <| eM aG7 aM 1 <| cM 2
theorem bWU:Con.Holds Tryz.prog aZD:=tk ⟨[],[]⟩ bHB (aD aH0 aL) fun (x:Int) hx hp=>by
 dsimp only [aZD] at hx hp ⊢
 delta bHB aAF;refine gH ?_
 exact fun _ _=>rfl
def aAJ:Con:=⟨196,aF,.bool,[.val ⟨false,aA,[]⟩,.val ⟨false,aA,[]⟩],[⟨false,.bool,[0]⟩],false,none,
 ((fun _=>True):(bA)->Prop),
 ((fun x=>aBK x.1 x.2):(bA)->(Bool))⟩
def aWX:T:=gG 0 aA aA 0 <| gV 1 <| cN kW <| cI 1 aA pD iZ <| cM 3
theorem aJB:Con.Holds Tryz.prog aAJ:=tk ⟨[],[]⟩ aWX (aD aAS (aD rY aL)) fun (x:bA) hx hp=>by
 dsimp only [aAJ] at hx hp ⊢
 delta aWX wI qC;refine gH ?_
 refine ⟨fun h _=>?_,fun h=>?_⟩
 ·unfold aBK;rw[h,Bool.true_and]
 ·unfold aBK;rw[h,Bool.false_and]
def aHR:Con:=⟨216,aF,yP,[.val ⟨false,aA,[]⟩,.val ⟨false,aA,[]⟩],[⟨false,aA,[2]⟩,⟨false,.bool,[0]⟩],false,none,
 ((fun _=>True):(bA)->Prop),
 ((fun x=>qE gI x.1 x.2):(bA)->(cK × Bool))⟩
def aX8:T:=nD 0 cX 1 2 aA aT <| iN 3 tI kW cB (cO cB aM cL aT) <| kR bM (jX aA 4) 3 5 (iV 3 tI aA kW aA 4 <| iV 3 tI aA pD aA 4 <| nV 1 (zR tI 6 7) 3 tI (cS 8) <| kB 3 8 aA aA (lU 4) 9 <| sJ cB 4 (gZ aA 4 1 0 cB (eE iX bK 10)) <| gZ aA 4 1 0 cB (eE iX (kP tI 1 8) 10)) (sI aA (lU 4) cB 4)
theorem aZ2:Con.Holds Tryz.prog aHR:=tk ⟨[(2984,2004,oS 16 11++[.tm 18 0,.tm 7 0,.on 6,.sl 1])],[]⟩ aX8 (aD aJB (aD aIY aL)) fun (x:bA) hx hp=>by
 dsimp only [aHR] at hx hp ⊢
 obtain ⟨a,b⟩:=x
 delta aX8 aAJ aAV;refine gH ?_
 simp only[Bool.not_eq_true',Bool.not_eq_false']
 refine ⟨aVP,fun h _=>?_⟩
 have hl:=tW h
 rw[aRP h]
 refine fN (fun k=>((k:Int),an k (fun i=>(gI (a.getD i 0) (b.getD i 0)).2),mp k fun i=>(gI (a.getD i 0) (b.getD i 0)).1)) a.length rfl fun I μ k hk _ go=>?_
 dsimp only
 simp only[wC,eX]
 (repeat' first|intro _|(refine go _ ?_ ?_ ?_)|(refine go _ ?_ ?_)|(with_reducible apply And.intro))
 all_goals first|omega|(unfold maxLen;omega)|(rw[lE,rF];first|exact Prod.ext rfl (Prod.ext (qW (by assumption)) rfl)|exact Prod.ext rfl (Prod.ext (wW (by assumption)) rfl))|(have e:k=a.length:=(by omega);subst e;rfl)
def aD2:Con:=⟨147,aF,yP,[.val ⟨false,aA,[]⟩,.val ⟨false,aA,[]⟩],[⟨false,aA,[2]⟩,⟨false,.bool,[0]⟩],false,none,
 ((fun _=>True):(bA)->Prop),
 ((fun x=>qE fC x.1 x.2):(bA)->(cK × Bool))⟩
def aZU:T:=nD 0 cX 1 2 aA aT <| iN 3 tI kW cB (cO cB aM cL aT) <| kR bM (jX aA 4) 3 5 (iV 3 tI aA kW aA 4 <| iV 3 tI aA pD aA 4 <| nV 1 (zR tI 6 7) 3 tI (cS 8) <| kB 3 8 aA aA (lU 4) 9 <| sJ cB 4 (gZ aA 4 1 0 cB (eE iX bK 10)) <| gZ aA 4 1 0 cB (eE iX (kP tI 1 8) 10)) (sI aA (lU 4) cB 4)
theorem aP5:Con.Holds Tryz.prog aD2:=tk ⟨[(2984,2004,oS 16 11++[.tm 18 0,.tm 7 0,.on 6,.sl 1])],[]⟩ aZU (aD aJB (aD bAT aL)) fun (x:bA) hx hp=>by
 dsimp only [aD2] at hx hp ⊢
 obtain ⟨a,b⟩:=x
 delta aZU aAJ pJ;refine gH ?_
 simp only[Bool.not_eq_true',Bool.not_eq_false']
 refine ⟨aVP,fun h _=>?_⟩
 have hl:=tW h
 rw[aRP h]
 refine fN (fun k=>((k:Int),an k (fun i=>(fC (a.getD i 0) (b.getD i 0)).2),mp k fun i=>(fC (a.getD i 0) (b.getD i 0)).1)) a.length rfl fun I μ k hk _ go=>?_
 dsimp only
 simp only[wC,eX]
 (repeat' first|intro _|(refine go _ ?_ ?_ ?_)|(refine go _ ?_ ?_)|(with_reducible apply And.intro))
 all_goals first|omega|(unfold maxLen;omega)|(rw[lE,rF];first|exact Prod.ext rfl (Prod.ext (qW (by assumption)) rfl)|exact Prod.ext rfl (Prod.ext (wW (by assumption)) rfl))|(have e:k=a.length:=(by omega);subst e;rfl)
def aCO:Con:=⟨217,bF,yP,[.val ⟨false,tI,[]⟩,.val ⟨false,aA,[]⟩],[⟨false,aA,[2]⟩,⟨false,.bool,[0]⟩],false,none,
 ((fun _=>True):(fF)->Prop),
 ((fun x=>aED x.1 x.2):(fF)->(cK × Bool))⟩
def aS1:T:=nD 0 (bO aA 0) 1 2 aA aT <| nD 1 (kD 0) 3 4 aA aT <| iN 3 tI (kD 0) cB (cO cB aM cL aT) <| kR bM (jX aA 6) 5 7 (iV 3 tI aA (kD 0) aA 6 <| nV 2 (rB tI (bO aA 0) gP) 3 tI (cS 9) <| kB 3 8 aA aA (lU 6) 10 <| sJ cB 6 (gZ aA 6 1 0 cB (eE kO bK 11)) <| gZ aA 6 1 0 cB (eE kO (kP tI 1 9) 11)) (sI aA (lU 6) cB 6)
theorem aQR:Con.Holds Tryz.prog aCO:=tk ⟨[(2984,4006,oS 20 11++[.tm 22 0,.tm 7 0,.on 6,.sl 1])],[]⟩ aS1 (aD aMF (aD aAS (aD aIV aL))) fun (x:fF) hx hp=>by
 dsimp only [aCO] at hx hp ⊢
 obtain ⟨c,a⟩:=x
 delta aS1 oW wI mR;refine gH ?_
 simp only[Bool.not_eq_true',Bool.not_eq_false']
 refine ⟨fun h=>?_,fun h1=>⟨fun h=>?_,fun h2 _=>?_⟩⟩
 ·unfold aED;rw[if_neg (by rw[h];simp)]
 ·unfold aED;rw[if_neg (by rw[h];simp)]
 have hl:=(eC a).1 h2
 rw[show aED c a=_ from if_pos ⟨h1,h2⟩]
 refine fN (fun k=>((k:Int),an k (fun i=>(gO c (a.getD i 0)).2),mp k fun i=>(gO c (a.getD i 0)).1)) a.length rfl fun I μ k hk _ go=>?_
 dsimp only
 simp only[wC,eX]
 (repeat' first|intro _|(refine go _ ?_ ?_ ?_)|(refine go _ ?_ ?_)|(with_reducible apply And.intro))
 all_goals first|omega|(unfold maxLen;omega)|(rw[lE,rF];first|exact Prod.ext rfl (Prod.ext (qW (by assumption)) rfl)|exact Prod.ext rfl (Prod.ext (wW (by assumption)) rfl))|(have e:k=a.length:=(by omega);subst e;rfl)
def aDD:Con:=⟨195,aF,aC2,[.val ⟨false,aA,[]⟩,.val ⟨false,aA,[]⟩],[⟨false,tI,[0]⟩,⟨false,.bool,[0]⟩],false,none,
 ((fun _=>True):(bA)->Prop),
 ((fun x=>nW x.1 x.2):(bA)->(Int × Bool))⟩
def aXH:T:=dC 0 cX 1 2 (gM .bool cL) <| iN 3 tI kW sH (cO sH aM cL aM) <| kR bM (jX tI 4) 3 5 (iV 3 tI aA kW tI 4 <| iV 3 tI aA pD tI 4 <| cI 1 tI fB lN <| cI 2 tI (dD sH 4) (cS 8) <| sJ sH 4 (gZ tI 4 1 0 sH [gN,bK,cS 9]) <| jJ tI 1 8 (gZ tI 4 1 0 sH [gN,bK,cS 9]) <| gZ tI 4 1 0 sH [gN,kP tI 1 9,cS 9]) (rB .bool (dD sH 4) (cQ sH 4))
theorem aOO:Con.Holds Tryz.prog aDD:=tk ⟨[(2984,2004,oS 17 13++[.tm 19 0,.tm 7 0,.tm 6 0])],[]⟩ aXH (aD aJB (aD aIV (aD aIY aL))) fun (x:bA) hx hp=>by
 dsimp only [aDD] at hx hp ⊢
 obtain ⟨a,b⟩:=x
 delta aXH aAJ mR aAV;refine gH ?_
 simp only[Bool.not_eq_true',Bool.not_eq_false']
 refine ⟨fun h=>by unfold nW;rw[if_neg (by rw[h];exact Bool.false_ne_true)],fun h _=>?_⟩
 have hl:=tW h
 rw[show nW a b=_ from if_pos h]
 refine fN (fun k=>((k:Int),(aQ4 a b k).2,(aQ4 a b k).1)) a.length rfl fun I μ k hk _ go=>?_
 dsimp only
 (refine iC ?_;try with_reducible exact True.intro)
 (repeat' first|intro _|(refine go _ ?_ ?_ ?_)|(refine go _ ?_ ?_)|(with_reducible apply And.intro))
 all_goals first|omega|(rw[bE6];first|exact Prod.ext rfl (Prod.ext (bE4 (by assumption)) rfl)|exact Prod.ext rfl (Prod.ext (bCK (by assumption) (by assumption)) rfl)|exact Prod.ext rfl (Prod.ext (bDR (by assumption) (by assumption)) rfl))|(have e:k=a.length:=(by omega);subst e;rfl)
def aKP:Con:=⟨218,aA,aA,[.val ⟨false,aA,[]⟩],[⟨false,aA,[2]⟩],false,none,
 ((fun _=>True):(List Int)->Prop),
 ((fun x=>aB4 x):(List Int)->(List Int))⟩
def aTU:T:=dC 0 cX 1 2 aT <| iN 3 tI cX bF (gM aA aT) <| nR aA 4 3 5 (cR 3 tI aA cX aA 4 <| yK 1 fB (kA 3 tI) 7 <| kB 3 8 aA aA (kD 4) 8 <| fE aA 4 1 0 aA 10 9) (kD 4)
theorem bKM:Con.Holds Tryz.prog aKP:=tk ⟨[(2986,2004,oS 9 6++[.dr 0,.tm 12 0,.on 3,.sl 1])],[]⟩ aTU (aD aAS (aD bWU aL)) fun (x:List Int) hx hp=>by
 dsimp only [aKP] at hx hp ⊢
 obtain ⟨a,rfl⟩:∃ a,a=x:=⟨_,rfl⟩
 delta aTU wI aZD;refine gH ?_
 simp only[Bool.not_eq_true',Bool.not_eq_false']
 refine ⟨fun h=>by unfold aB4;rw[if_neg (by rw[h];exact Bool.false_ne_true)],fun h _=>?_⟩
 have hl:=(eC a).1 h
 rw[show aB4 a=_ from if_pos h]
 refine fN (fun k=>((k:Int),mp k fun i=>bA4 (a.getD i 0))) a.length rfl fun I μ k hk _ go=>?_
 dsimp only
 simp only[wC,eX]
 (repeat' first|intro _|(refine go _ ?_ ?_ ?_)|(refine go _ ?_ ?_)|(with_reducible apply And.intro))
 all_goals first|omega|(unfold maxLen;omega)|(rw[lE];rfl)|(have e:k=a.length:=(by omega);subst e;rfl)
def aJN:Con:=⟨221,aF,aA,[.val ⟨false,aA,[]⟩,.val ⟨false,aA,[]⟩],[⟨false,aA,[2]⟩],false,none,
 ((fun _=>True):(bA)->Prop),
 ((fun x=>aB1 x.1 x.2):(bA)->(List Int))⟩
def aUF:T:=dC 0 cX 1 2 aT <| iN 3 tI kW bF (gM aA aT) <| nR aA 4 3 5 (cR 3 tI aA kW aA 4 <| dY fB 0 <| cG 7 (cR 3 tI aA pD aA 4 <| oP 3 tI gP <| kB 3 8 aA aA (kD 4) 9 <| fE aA 4 1 0 aA 11 10) <| oP 3 tI aM <| kB 3 8 aA aA (kD 4) 8 <| fE aA 4 1 0 aA 10 9) (kD 4)
theorem bK4:Con.Holds Tryz.prog aJN:=tk ⟨[(2986,2004,oS 12 7++[.tm 14 0,.on 5,.sl 1])],[]⟩ aUF (aD aJB aL) fun (x:bA) hx hp=>by
 dsimp only [aJN] at hx hp ⊢
 obtain ⟨a,b⟩:=x
 delta aUF aAJ;refine gH ?_
 simp only[Bool.not_eq_true',Bool.not_eq_false']
 refine ⟨fun h=>by unfold aB1;rw[if_neg (by rw[h];exact Bool.false_ne_true)],fun h _=>?_⟩
 have hl:=tW h
 rw[show aB1 a b=_ from if_pos h]
 refine fN (fun k=>((k:Int),mp k fun i=>if 0<a.getD i 0 then b.getD i 0 else 0)) a.length rfl fun I μ k hk _ go=>?_
 dsimp only
 simp only[wC,eX]
 have e1:0<a.getD k 0->b.getD k 0=if 0<a.getD k 0 then b.getD k 0 else 0:=fun h=>(if_pos h).symm
 have e2:a.getD k 0<=0->0=if 0<a.getD k 0 then b.getD k 0 else 0:=fun h=>(if_neg (by omega)).symm
 (repeat' first|intro _|(refine go _ ?_ ?_ ?_)|(refine go _ ?_ ?_)|(with_reducible apply And.intro))
 all_goals first|omega|(unfold maxLen;omega)|(rw[lE];first|exact Prod.ext rfl (congrArg (mp k _++[·]) (e1 (by assumption)))|exact Prod.ext rfl (congrArg (mp k _++[·]) (e2 (by assumption))))|(have e:k=a.length:=(by omega);subst e;rfl)
def aIE:Con:=⟨101,aQ,aC2,[.val ⟨false,tI,[]⟩,.val ⟨false,tI,[]⟩],[⟨false,tI,[0]⟩,⟨false,.bool,[0]⟩],false,none,
 ((fun _=>True):(Int × Int)->Prop),
 ((fun x=>fC x.1 x.2):(Int × Int)->(Int × Bool))⟩
def bB0:T:=lC (lV 0) <| lC (gJ 0) <| eM fJ aX 2 <| yA 1 3 4
theorem aYO:Con.Holds Tryz.prog aIE:=tk ⟨[],[]⟩ bB0 (aD aQF (aD aN3 aL)) fun (x:Int × Int) hx hp=>by
 dsimp only [aIE] at hx hp ⊢
 delta bB0 aGY aCV;refine gH ?_
 intro _ _
 have h1:=qS x.1
 have h2:=qS x.2
 exact ⟨by omega,fun _ _=>rfl⟩
def aK3:Con:=⟨157,aQ,tI,[.val ⟨false,tI,[]⟩,.val ⟨false,tI,[]⟩],[⟨false,tI,[0]⟩],false,none,
 ((fun x=>x.2=65536):(Int × Int)->Prop),
 ((fun x=>x.1.fdiv 65536):(Int × Int)->(Int))⟩
def aUE:T:=bX (.quo .i64) (lV 0) (gJ 0) <| bX aPE (lV 0) (gJ 0) <| wA iZ 0 <| fY 3 (iS bM (lV 0) 0 <| iS bM (gJ 0) 0 <| dM (.eqv true .bool) .bool .bool gD 5 <| fY 6 (iA aX 1 <| cM 7) aX) aX
theorem bJA:Con.Holds Tryz.prog aK3:=tk ⟨[],[]⟩ aUE aL fun (x:Int × Int) hx hp=>by
 dsimp only [aK3] at hx hp ⊢
 obtain ⟨a,b⟩:=x
 obtain rfl:b=65536:=hp
 have e:=bT9 a
 have ha:-9223372036854775808<=a/\a<=9223372036854775807:=hx.1
 have hd:=cCD ha
 delta aUE;refine gH ?_
 simp only[cAF,cAJ,aI7,aIR,show decide ((65536:Int)<0)=false from rfl,decide_eq_false_iff_not,Classical.not_not]
 rw[e]
 (repeat' first|intro _|(with_reducible apply And.intro))
 all_goals first|omega|(rw[if_pos ⟨by assumption,by assumption⟩])|(rw[if_neg (fun h=>by have:=h.2;omega)])|(rw[if_neg (fun h=>h.1 (by assumption))])
def aA5:Con:=⟨100,aQ,aC2,[.val ⟨false,tI,[]⟩,.val ⟨false,tI,[]⟩],[⟨false,tI,[0]⟩,⟨false,.bool,[0]⟩],false,none,
 ((fun _=>True):(Int × Int)->Prop),
 ((fun x=>gO x.1 x.2):(Int × Int)->(Int × Bool))⟩
def aXK:T:=lC (lV 0) <| lC (gJ 0) <| eM qR aX 2 <| cI 1 tI qN (dR 65536) <| yA 2 4 5
theorem aHS:Con.Holds Tryz.prog aA5:=tk ⟨[],[]⟩ aXK (aD aQF (aD bJA (aD aN3 aL))) fun (x:Int × Int) hx hp=>by
 dsimp only [aA5] at hx hp ⊢
 delta aXK aGY aK3 aCV;refine gH ?_
 have h:=cCI (qS x.1) (qS x.2)
 exact fun _ _=>⟨by omega,fun _ _ _=>rfl⟩
def aZQ:Con:=⟨236,tI,tI,[.val ⟨false,tI,[]⟩],[⟨false,tI,[0]⟩],false,none,
 ((fun _=>True):(Int)->Prop),
 ((fun x=>bA4 x):(Int)->(Int))⟩
def bJM:T:=dE 0 0 <| eM aG7 aM 1 <| cM 2
theorem bWQ:Con.Holds Tryz.prog aZQ:=tk ⟨[],[]⟩ bJM (aD aQF aL) fun (x:Int) hx hp=>by
 dsimp only [aZQ] at hx hp ⊢
 delta bJM aGY;refine gH ?_
 exact fun _ _=>rfl
def aI8:Con:=⟨224,aF,yP,[.val ⟨false,aA,[]⟩,.val ⟨false,aA,[]⟩],[⟨false,aA,[2]⟩,⟨false,.bool,[0]⟩],false,none,
 ((fun _=>True):(bA)->Prop),
 ((fun x=>qE gI x.1 x.2):(bA)->(cK × Bool))⟩
def bA6:T:=dX cB (cO cB aM cL aT) 3 tI kW <| kR bM (jX aA 1) 2 3 (dE 0 0 <| fY 4 (iV 3 tI aA kW aA 1 <| iV 3 tI aA pD aA 1 <| nV 1 (zR tI 5 6) 3 tI (cS 7) <| kB 3 8 aA aA (lU 1) 8 <| sJ cB 1 (gZ aA 1 1 0 cB (eE gN bK 9)) <| gZ aA 1 1 0 cB (eE gN (kP tI 1 7) 9)) (sI aA (lU 1) cB 1)) (sI aA (lU 1) cB 1)
theorem bAH:Con.Holds Tryz.prog aI8:=tk ⟨[(2989,1001,[.dr 11,.tm 8 0,.tm 7 0,.on 6,.sl 1])],[]⟩ bA6 (aD aJ2 (aD aDA aL)) fun (x:bA) hx hp=>by
 dsimp only [aI8] at hx hp ⊢
 obtain ⟨a,b⟩:=x
 delta bA6 aAQ yI;refine gH ?_
 simp only[bP7]
 cases h:aBK a b
 ·refine fN (fun _=>((0:Int),false,([]:List Int))) 0 rfl fun I μ k hk _ go=>?_
  dsimp only
  simp only[reduceCtorEq,false_implies,true_implies,forall_const,and_true,true_and,implies_true,wC]
  (repeat' first|intro _|(refine go _ ?_ ?_ ?_)|(refine go _ ?_ ?_)|(with_reducible apply And.intro))
  all_goals first|omega|exact aVP h
 ·have hl:=tW h
  rw[aRP h]
  refine fN (fun k=>((k:Int),an k (fun i=>(gI (a.getD i 0) (b.getD i 0)).2),mp k fun i=>(gI (a.getD i 0) (b.getD i 0)).1)) a.length rfl fun I μ k hk _ go=>?_
  dsimp only
  simp only[reduceCtorEq,false_implies,true_implies,forall_const,and_true,true_and,implies_true,wC,eX]
  (repeat' first|intro _|(refine go _ ?_ ?_ ?_)|(refine go _ ?_ ?_)|(with_reducible apply And.intro))
  all_goals first|omega|(unfold maxLen;omega)|(rw[lE,rF];first|exact Prod.ext rfl (Prod.ext (qW (by assumption)) rfl)|exact Prod.ext rfl (Prod.ext (wW (by assumption)) rfl))|(have e:k=a.length:=(by omega);subst e;rfl)
def aDH:Con:=⟨154,aF,yP,[.val ⟨false,aA,[]⟩,.val ⟨false,aA,[]⟩],[⟨false,aA,[2]⟩,⟨false,.bool,[0]⟩],false,none,
 ((fun _=>True):(bA)->Prop),
 ((fun x=>qE fC x.1 x.2):(bA)->(cK × Bool))⟩
def bAG:T:=dX cB (cO cB aM cL aT) 3 tI kW <| kR bM (jX aA 1) 2 3 (dE 0 0 <| fY 4 (iV 3 tI aA kW aA 1 <| iV 3 tI aA pD aA 1 <| nV 1 (zR tI 5 6) 3 tI (cS 7) <| kB 3 8 aA aA (lU 1) 8 <| sJ cB 1 (gZ aA 1 1 0 cB (eE gN bK 9)) <| gZ aA 1 1 0 cB (eE gN (kP tI 1 7) 9)) (sI aA (lU 1) cB 1)) (sI aA (lU 1) cB 1)
theorem aOS:Con.Holds Tryz.prog aDH:=tk ⟨[(2989,1001,[.dr 11,.tm 8 0,.tm 7 0,.on 6,.sl 1])],[]⟩ bAG (aD aJ2 (aD aYO aL)) fun (x:bA) hx hp=>by
 dsimp only [aDH] at hx hp ⊢
 obtain ⟨a,b⟩:=x
 delta bAG aAQ aIE;refine gH ?_
 simp only[bP7]
 cases h:aBK a b
 ·refine fN (fun _=>((0:Int),false,([]:List Int))) 0 rfl fun I μ k hk _ go=>?_
  dsimp only
  simp only[reduceCtorEq,false_implies,true_implies,forall_const,and_true,true_and,implies_true,wC]
  (repeat' first|intro _|(refine go _ ?_ ?_ ?_)|(refine go _ ?_ ?_)|(with_reducible apply And.intro))
  all_goals first|omega|exact aVP h
 ·have hl:=tW h
  rw[aRP h]
  refine fN (fun k=>((k:Int),an k (fun i=>(fC (a.getD i 0) (b.getD i 0)).2),mp k fun i=>(fC (a.getD i 0) (b.getD i 0)).1)) a.length rfl fun I μ k hk _ go=>?_
  dsimp only
  simp only[reduceCtorEq,false_implies,true_implies,forall_const,and_true,true_and,implies_true,wC,eX]
  (repeat' first|intro _|(refine go _ ?_ ?_ ?_)|(refine go _ ?_ ?_)|(with_reducible apply And.intro))
  all_goals first|omega|(unfold maxLen;omega)|(rw[lE,rF];first|exact Prod.ext rfl (Prod.ext (qW (by assumption)) rfl)|exact Prod.ext rfl (Prod.ext (wW (by assumption)) rfl))|(have e:k=a.length:=(by omega);subst e;rfl)
def aCH:Con:=⟨226,bF,yP,[.val ⟨false,tI,[]⟩,.val ⟨false,aA,[]⟩],[⟨false,aA,[2]⟩,⟨false,.bool,[0]⟩],false,none,
 ((fun _=>True):(fF)->Prop),
 ((fun x=>aED x.1 x.2):(fF)->(cK × Bool))⟩
def aQI:T:=dX cB (cO cB aM cL aT) 3 tI (kD 0) <| kR bM (jX aA 1) 2 3 (lC (kD 0) <| fY 4 (.call 1 (bO aA 0) <| fY 5 (iV 3 tI aA (kD 0) aA 1 <| nV 2 (rB tI (bO aA 0) fB) 3 tI (cS 7) <| kB 3 8 aA aA (lU 1) 8 <| sJ cB 1 (gZ aA 1 1 0 cB (eE gN bK 9)) <| gZ aA 1 1 0 cB (eE gN (kP tI 1 7) 9)) (sI aA (lU 1) cB 1)) (sI aA (lU 1) cB 1)) (sI aA (lU 1) cB 1)
theorem aRJ:Con.Holds Tryz.prog aCH:=tk ⟨[(2989,1001,[.dr 11,.tm 8 0,.tm 7 0,.on 6,.sl 1])],[]⟩ aQI (aD mZ (aD aHJ (aD aHS aL))) fun (x:fF) hx hp=>by
 dsimp only [aCH] at hx hp ⊢
 obtain ⟨c,a⟩:=x
 delta aQI lH aAN aA5;refine gH ?_
 cases h:sV a
 ·refine fN (fun _=>((0:Int),false,([]:List Int))) 0 rfl fun I μ k hk _ go=>?_
  dsimp only
  simp only[reduceCtorEq,false_implies,true_implies,forall_const,and_true,true_and,implies_true,wC]
  (repeat' first|intro _|(refine go _ ?_ ?_ ?_)|(refine go _ ?_ ?_)|(with_reducible apply And.intro))
  all_goals first|omega|(unfold aED;rw[if_neg (by rw[h];simp)])
 cases h2:mK c
 ·refine fN (fun _=>((0:Int),false,([]:List Int))) 0 rfl fun I μ k hk _ go=>?_
  dsimp only
  simp only[reduceCtorEq,false_implies,true_implies,forall_const,and_true,true_and,implies_true,wC]
  (repeat' first|intro _|(refine go _ ?_ ?_ ?_)|(refine go _ ?_ ?_)|(with_reducible apply And.intro))
  all_goals first|omega|(unfold aED;rw[if_neg (by rw[h2];simp)])
 ·have hl:=(eC a).1 h
  rw[show aED c a=_ from if_pos ⟨h2,h⟩]
  refine fN (fun k=>((k:Int),an k (fun i=>(gO c (a.getD i 0)).2),mp k fun i=>(gO c (a.getD i 0)).1)) a.length rfl fun I μ k hk _ go=>?_
  dsimp only
  simp only[reduceCtorEq,false_implies,true_implies,forall_const,and_true,true_and,implies_true,wC,eX]
  (repeat' first|intro _|(refine go _ ?_ ?_ ?_)|(refine go _ ?_ ?_)|(with_reducible apply And.intro))
  all_goals first|omega|(unfold maxLen;omega)|(rw[lE,rF];first|exact Prod.ext rfl (Prod.ext (qW (by assumption)) rfl)|exact Prod.ext rfl (Prod.ext (wW (by assumption)) rfl))|(have e:k=a.length:=(by omega);subst e;rfl)
def aAL:Con:=⟨200,aF,aC2,[.val ⟨false,aA,[]⟩,.val ⟨false,aA,[]⟩],[⟨false,tI,[0]⟩,⟨false,.bool,[0]⟩],false,none,
 ((fun _=>True):(bA)->Prop),
 ((fun x=>nW x.1 x.2):(bA)->(Int × Bool))⟩
def aY3:T:=dX sH (cO sH aM cL aM) 3 tI kW <| kR bM (jX tI 1) 2 3 (dE 0 0 <| fY 4 (iV 3 tI aA kW tI 1 <| iV 3 tI aA pD tI 1 <| cI 1 tI iR fB <| cI 2 tI (dD sH 1) (cS 7) <| sJ sH 1 (gZ tI 1 1 0 sH [mT,bK,cS 8]) <| jJ tI 1 7 (gZ tI 1 1 0 sH [mT,bK,cS 8]) <| gZ tI 1 1 0 sH [mT,kP tI 1 8,cS 8]) (rB .bool (dD sH 1) (cQ sH 1))) (rB .bool (dD sH 1) (cQ sH 1))
theorem aIG:Con.Holds Tryz.prog aAL:=tk ⟨[(2989,1001,[.tm 8 0,.tm 7 0,.tm 6 0])],[]⟩ aY3 (aD aJ2 (aD aHS (aD aDA aL))) fun (x:bA) hx hp=>by
 dsimp only [aAL] at hx hp ⊢
 obtain ⟨a,b⟩:=x
 delta aY3 aAQ aA5 yI;refine gH ?_
 simp only[bP7]
 cases h:aBK a b
 ·refine fN (fun _=>((0:Int),false,(0:Int))) 0 rfl fun I μ k hk _ go=>?_
  dsimp only
  simp only[reduceCtorEq,false_implies,true_implies,forall_const,and_true,true_and,implies_true,wC]
  (repeat' first|intro _|(refine go _ ?_ ?_ ?_)|(refine go _ ?_ ?_)|(with_reducible apply And.intro))
  all_goals first|omega|(unfold nW;rw[if_neg (by rw[h];exact Bool.false_ne_true)])
 ·have hl:=tW h
  rw[show nW a b=_ from if_pos h]
  refine fN (fun k=>((k:Int),(aQ4 a b k).2,(aQ4 a b k).1)) a.length rfl fun I μ k hk _ go=>?_
  dsimp only
  simp only[reduceCtorEq,false_implies,true_implies,forall_const,and_true,true_and,implies_true,wC]
  (repeat' first|intro _|(refine go _ ?_ ?_ ?_)|(refine go _ ?_ ?_)|(with_reducible apply And.intro))
  all_goals first|omega|(rw[bE6];first|exact Prod.ext rfl (Prod.ext (bE4 (by assumption)) rfl)|exact Prod.ext rfl (Prod.ext (bCK (by assumption) (by assumption)) rfl)|exact Prod.ext rfl (Prod.ext (bDR (by assumption) (by assumption)) rfl))|(have e:k=a.length:=(by omega);subst e;rfl)
def aKK:Con:=⟨225,aA,aA,[.val ⟨false,aA,[]⟩],[⟨false,aA,[2]⟩],false,none,
 ((fun _=>True):(List Int)->Prop),
 ((fun x=>aB4 x):(List Int)->(List Int))⟩
def aUS:T:=dX bF (gM aA aT) 3 tI cX <| nR aA 1 2 3 (dE 0 0 <| fY 4 (cR 3 tI aA cX aA 1 <| yK 1 iR (kA 3 tI) 6 <| kB 3 8 aA aA (kD 1) 7 <| fE aA 1 1 0 aA 9 8) (kD 1)) (kD 1)
theorem bKO:Con.Holds Tryz.prog aKK:=tk ⟨[(2991,1001,[.dr 5,.tm 4 0,.on 3,.sl 1])],[]⟩ aUS (aD mZ (aD bWQ aL)) fun (x:List Int) hx hp=>by
 dsimp only [aKK] at hx hp ⊢
 obtain ⟨a,rfl⟩:∃ a,a=x:=⟨_,rfl⟩
 delta aUS lH aZQ;refine gH ?_
 cases h:sV a
 ·refine fN (fun _=>((0:Int),([]:List Int))) 0 rfl fun I μ k hk _ go=>?_
  dsimp only
  simp only[reduceCtorEq,false_implies,true_implies,forall_const,and_true,true_and,implies_true,wC]
  (repeat' first|intro _|(refine go _ ?_ ?_ ?_)|(refine go _ ?_ ?_)|(with_reducible apply And.intro))
  all_goals first|omega|(unfold aB4;rw[if_neg (by rw[h];exact Bool.false_ne_true)])
 ·have hl:=(eC a).1 h
  rw[show aB4 a=_ from if_pos h]
  refine fN (fun k=>((k:Int),mp k fun i=>bA4 (a.getD i 0))) a.length rfl fun I μ k hk _ go=>?_
  dsimp only
  simp only[reduceCtorEq,false_implies,true_implies,forall_const,and_true,true_and,implies_true,wC,eX]
  (repeat' first|intro _|(refine go _ ?_ ?_ ?_)|(refine go _ ?_ ?_)|(with_reducible apply And.intro))
  all_goals first|omega|(unfold maxLen;omega)|(rw[lE];rfl)|(have e:k=a.length:=(by omega);subst e;rfl)
def aKY:Con:=⟨227,aF,aA,[.val ⟨false,aA,[]⟩,.val ⟨false,aA,[]⟩],[⟨false,aA,[2]⟩],false,none,
 ((fun _=>True):(bA)->Prop),
 ((fun x=>aB1 x.1 x.2):(bA)->(List Int))⟩
def aUZ:T:=dX bF (gM aA aT) 3 tI kW <| nR aA 1 2 3 (dE 0 0 <| fY 4 (cR 3 tI aA kW aA 1 <| dY iR 0 <| cG 6 (cR 3 tI aA pD aA 1 <| oP 3 tI lN <| kB 3 8 aA aA (kD 1) 8 <| fE aA 1 1 0 aA 10 9) <| oP 3 tI aM <| kB 3 8 aA aA (kD 1) 7 <| fE aA 1 1 0 aA 9 8) (kD 1)) (kD 1)
theorem bKR:Con.Holds Tryz.prog aKY:=tk ⟨[(2991,1001,[.dr 7,.tm 6 0,.on 5,.sl 1])],[]⟩ aUZ (aD aJ2 aL) fun (x:bA) hx hp=>by
 dsimp only [aKY] at hx hp ⊢
 obtain ⟨a,b⟩:=x
 delta aUZ aAQ;refine gH ?_
 simp only[bP7]
 cases h:aBK a b
 ·refine fN (fun _=>((0:Int),([]:List Int))) 0 rfl fun I μ k hk _ go=>?_
  dsimp only
  simp only[reduceCtorEq,false_implies,true_implies,forall_const,and_true,true_and,implies_true,wC]
  (repeat' first|intro _|(refine go _ ?_ ?_ ?_)|(refine go _ ?_ ?_)|(with_reducible apply And.intro))
  all_goals first|omega|(unfold aB1;rw[if_neg (by rw[h];exact Bool.false_ne_true)])
 ·have hl:=tW h
  rw[show aB1 a b=_ from if_pos h]
  refine fN (fun k=>((k:Int),mp k fun i=>if 0<a.getD i 0 then b.getD i 0 else 0)) a.length rfl fun I μ k hk _ go=>?_
  dsimp only
  simp only[reduceCtorEq,false_implies,true_implies,forall_const,and_true,true_and,implies_true,wC,eX]
  have e1:0<a.getD k 0->b.getD k 0=if 0<a.getD k 0 then b.getD k 0 else 0:=fun h=>(if_pos h).symm
  have e2:a.getD k 0<=0->0=if 0<a.getD k 0 then b.getD k 0 else 0:=fun h=>(if_neg (by omega)).symm
  (repeat' first|intro _|(refine go _ ?_ ?_ ?_)|(refine go _ ?_ ?_)|(with_reducible apply And.intro))
  all_goals first|omega|(unfold maxLen;omega)|(rw[lE];first|exact Prod.ext rfl (congrArg (mp k _++[·]) (e1 (by assumption)))|exact Prod.ext rfl (congrArg (mp k _++[·]) (e2 (by assumption))))|(have e:k=a.length:=(by omega);subst e;rfl)
end
end Go.Proofs.YtlhaoiaieiladaaGreat
