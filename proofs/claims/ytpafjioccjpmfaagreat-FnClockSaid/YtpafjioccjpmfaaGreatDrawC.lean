/- DrawC: lemmas. No conditions. -/
import Derived.Test.YtpafjioccjpmfaaGreatCe
namespace Go.Proofs.YtpafjioccjpmfaaGreat
set_option maxRecDepth 100000
open Go.ChangeShapes Go.WideShapes Go.ChangeAt Go.RowKit Go.Deep
set_option linter.unusedVariables false
set_option linter.unusedSimpArgs false
abbrev bBN:Ty:=.slice 5 (.int .u8)
abbrev mM:Ty:=.bPW bBN (.bPW tI tI)
abbrev aN:=List Int × (Int × Int)
theorem aUJ {x:Int} {m:Nat} (hm:m<9223372036854775808):0≤aCR .and .i64 x (m:Int)∧aCR .and .i64 x (m:Int)≤m:=by
 unfold aCR
 dsimp only
 have h1:(BitVec.ofInt IntKind.i64.bits (m:Int)).toNat=m:=by
  rw[BitVec.toNat_ofInt]
  show ((m:Int) % ((2 ^ 64:Nat):Int)).toNat=m
  omega
 have h2:(BitVec.ofInt IntKind.i64.bits x &&& BitVec.ofInt IntKind.i64.bits (m:Int)).toNat≤m:=by
  rw[BitVec.toNat_and,h1]
  exact Nat.and_le_right
 rw[uH (by show (-9223372036854775808:Int)≤_∧_≤(9223372036854775807:Int);omega)]
 omega
def hs (l:List Int):Nat→Int
 | 0=>10101+(l.length:Int)
 | k+1=>aCR .and .i64 (hs l k * 131+l.getD k 0+7) 1073741823
theorem bN1 {l:List Int} (hl:l.length≤1048576):(k:Nat)→0≤hs l k∧hs l k≤1073741823
 | 0=>by unfold hs;omega
 | k+1=>by
  unfold hs
  exact aUJ (m:=1073741823) (by decide)
theorem bLV {w:World} {p:Option Addr} {n c:Nat} {l:List Int} (h:rK 1 (rd (.int .u8) w) w p n c l) (k:Nat) (hk:k<l.length) :
  ∃ b off,p=some ⟨b,off,none⟩∧b<w.heap.size∧w.cell? ⟨b,off+k,none⟩=some (.int .u8 l[k])∧0≤l[k]∧l[k]≤255:=by
 obtain ⟨b,off,hp,hb,cs,hl,hc,rfl,hw⟩:=h.2.2.2.2 k hk
 refine ⟨b,off,hp,hb,?_,?_⟩
 ·have:=hc 0 (by simp)
  simpa using this
 ·have h2:IntKind.u8.min≤l[k]∧l[k]≤IntKind.u8.max:=by simpa [Lit.wf] using hw
  exact h2
theorem aYE (w:World) (p:Option Addr) (n c:Nat) (l:List Int) (h:rK 1 (rd (.int .u8) w) w p n c l) (hn:l.length≤1048576) :
  Calls Tryz.prog 23 #[.slice p n c] w fun e w'=>∃ k:Nat,k=min l.length 4000∧e = .returned (.pointer (some ⟨w.heap.size,0,none⟩))∧w'=w.alloc (.cells #[.slice p l.length c,.int .i64 0,.int .i64 (hs l k)] 91):=by
 obtain rfl:=h.lens
 go_enter Tryz.func23,Tryz.ntmps23
 go_wp2
 go_loopw [3,4] (fun m i wr=>∃ k:Nat,k≤l.length∧k≤4000∧i = .int .i64 k∧m = .int .i64 (hs l k)∧wr=w) (fun _ i _=>l.length - (intOf i).toNat)
 case atStart=>exact ⟨0,by omega,by omega,rfl,rfl,rfl⟩
 case round =>
  obtain ⟨k,hk,hk4,rfl,rfl,rfl⟩:=hrel
  have hb:=bN1 hn k
  by_cases hlt:k<l.length∧k<4000
  ·obtain ⟨h1,h2⟩:=hlt
   obtain ⟨b,off,rfl,hlb,e1,e2,e3⟩:=bLV h k h1
   have HS:Hid (hs l (k+1)=aCR .and .i64 (hs l k * 131+l[k]+7) 1073741823):=Lib.hid (by rw[← aW h1];rfl)
   obtain ⟨x,hx⟩:∃ x,l[k]=x:=⟨_,rfl⟩
   rw[hx] at e1 e2 e3 HS
   clear h hx
   generalize hs l k=y at hb HS ⊢
   go_wp2
   go_roundw
   case rel=>exact ⟨k+1,by omega,by omega,by go_num,by rw[HS.out];rfl,trivial⟩
   case measure=>simp[intOf];omega
  ·clear h
   go_wp2
   all_goals (go_ret;exact ⟨k,by omega,rfl,rfl⟩)
def aMA (l:List Int):aN:=(l,0,hs l (min l.length 4000))
noncomputable def fI:Con:=⟨23,bBN,mM,[.val ⟨false,bBN,[]⟩],[⟨true,mM,[0,0,0]⟩],true,some 91,((fun x=>x.length≤1048576):List Int→Prop),((fun x=>aMA x):List Int→aN)⟩
theorem aP1:Con.Holds Tryz.prog fI:=by
 refine ⟨fun x hp hx=>?_,⟨Tryz.f23,Tryz.func23,by kernel_rfl,by kernel_rfl⟩,fun X vs x ob ub hp hx hO hU hnd hbl ham=>?_⟩
 ·have hb:=bN1 (l:=x) hp (min (List.length x) 4000)
  refine ⟨hx,?_,?_⟩
  ·show (-9223372036854775808:Int)≤0∧(0:Int)≤9223372036854775807;omega
  ·show (-9223372036854775808:Int)≤hs x _∧hs x _≤(9223372036854775807:Int);omega
 ·change List Int at x
  change x.length≤1048576 at hp
  have e:dE (fI.ams.map (·.mv.t)) (SV.as (cL (fI.ams.map (·.mv.t))) ⟨fI.argTy,x⟩)=[⟨bBN,x⟩]:=by
   have e:SV.as (cL (fI.ams.map (·.mv.t))) ⟨fI.argTy,x⟩=x:=SV.as_self _ _
   rw[e];rfl
  rw[e] at ham
  obtain ⟨v,vs',d,ds',o1,o2,u1,u2,rfl,hd,ho,hu,hv,hm,hn1,hn2,hn3⟩:=ham
  obtain ⟨rfl,rfl⟩:=List.cons.inj hd
  rw[SV.as_self] at hm
  obtain ⟨rfl,rfl,hr⟩:=aZ5 rfl hm
  obtain ⟨p,len,cap,c0,hsl⟩:=hr.rd (fun b hb=>hb.1)
  rw[c0] at hv hr
  have hv2:v = .slice p len cap:=hv
  subst hv2
  have hlen:len=x.length:=hsl.1
  subst hlen
  have hW:=aYE X.w0 p x.length cap x hsl hp
  subst hn1 hn2 hn3
  obtain rfl:ob=[]:=ho
  obtain rfl:ub=[]:=hu
  refine Calls.mono' hW ?_
  rintro e w' ⟨k,hk,rfl,rfl⟩
  subst hk
  refine ⟨_,rfl,[.pointer (some ⟨X.w0.heap.size,0,none⟩)],[X.w0.heap.size],[],[],[],rfl,?_,?_,⟨rfl,rfl⟩,by simp,?_,by simp⟩
  ·have hB:=(Below.refl X.w0.heap.size X.w0).alloc (Nat.le_refl _) (.cells #[.slice p x.length cap,.int .i64 0,.int .i64 (hs x (min x.length 4000))] 91)
   exact ⟨hB.os,hB.tape,hB.output,hB.size,fun b h1 _=>hB.block b h1⟩
  ·have e2:SV.as (cL (List.map (fun x=>x.t) (fI.rms++oA fI.ams))) ⟨fI.resTy,fI.fn x⟩=aMA x:=SV.as_self _ _
   rw[e2]
   have hb:=bN1 (l:=x) hp (min x.length 4000)
   refine ⟨X.w0.heap.size,#[.slice p x.length cap,.int .i64 0,.int .i64 (hs x (min x.length 4000))],[],⟨mM,aMA x⟩,[],[],[],[],[],rfl,rfl,rfl,rfl,Go.heap_alloc_new _ _,?_,⟨rfl,rfl,rfl⟩⟩
   rw[SV.as_self]
   refine aRJ rfl ⟨[.slice p x.length cap],[.int .i64 0,.int .i64 (hs x (min x.length 4000))],rfl,?_,⟨[.int .i64 0],[.int .i64 (hs x (min x.length 4000))],rfl,⟨rfl,show (Lit.int .i64 0).wf=true by decide⟩,⟨rfl,?_⟩⟩⟩
   ·refine fM.mono (fun b hb=>?_) (fun b hb=>Below.heap_alloc _ _ _ hb.1) hr
    refine ⟨Nat.lt_of_lt_of_le hb.1 (by simp),?_,hb.2.2.1,fun h=>by cases h⟩
    have:=hb.1
    simp;omega
   ·exact kS (show (-9223372036854775808:Int)≤hs x (min x.length 4000)∧hs x (min x.length 4000)≤(9223372036854775807:Int) by omega)
  ·intro b hb
   have hb2:b=X.w0.heap.size:=by simpa using hb
   subst hb2
   exact ⟨by simp,.inl (Nat.le_refl _),fun hA=>by have:=X.hA _ hA;omega⟩
end Go.Proofs.YtpafjioccjpmfaaGreat
