/- Stage3: trees, and what they say. -/
import Derived.Test.YtmfpkkbhnmkfdaaGreatZero2
import Derived.Test.YtmfpkkbhnmkfdaaGreatSame3
namespace Go.Proofs.YtmfpkkbhnmkfdaaGreat
open Go.ChangeShapes Go.WideShapes Go.ChangeAt Go.RowKit Go.Deep
set_option linter.unusedVariables false
set_option linter.unusedSimpArgs false
def mK (m:List iC):Int:=if jK m = true then (m.getD 0 zOp).2.1 else 0
def iZ (m:List iC):Int:=if jK m = true then (m.getD (m.length - 1) zOp).2.2.1 else 0
def eX (v:List Int) (n:Int):Bool:=iA v && decide ((v.length:Int) = n)
theorem bY (v:List Int) (n:Int):eX v n = true↔iA v = true∧(v.length:Int) = n:=by unfold eX;rw [Bool.and_eq_true,decide_eq_true_eq]
def hZ (v:List Int) (n:Int):Bool:=decide (v.length = 0) || eX v n
def fI (m:List iC) (i:Nat):Int:=if i < m.length then (m.getD i zOp).2.1 else (m.getD (m.length - 1) zOp).2.2.1
theorem aNC {m:List iC} (h:jK m = true) {k:Nat} (hk:k < m.length):fI m (k + 1) = (m.getD k zOp).2.2.1:=by
 unfold fI
 split
 ·rename_i h1
  have h2:=((cK m).1 h).2.2 (k + 1) h1
  rw [aEO m h1] at h2
  rcases h2.2 with h3 | h3
  ·omega
  ·rw [bD h1,bD hk]
   exact h3.symm
 ·have:m.length - 1 = k:=by omega
  rw [this]
def nZ (m:List iC) (r:List (List Int)) (n:Nat):Bool:=(List.range n).all fun i=>eX (r.getD i []) (fI m i)
theorem lF (m:List iC) (r:List (List Int)) (n:Nat):nZ m r n = true↔∀ i,i < n→eX (r.getD i []) (fI m i) = true:=by unfold nZ;simp only [List.all_eq_true,List.mem_range]
def vX (m:List iC) (redo:Bool):Nat:=if redo = true then 1 else m.length + 1
def lV (m:List iC) (redo:Bool) (x:Int × List (List Int)):Bool:=decide (x.2.length = vX m redo) && nZ m x.2 (vX m redo)
theorem aGJ (m:List iC) (redo:Bool) (x:Int × List (List Int)):lV m redo x = true↔x.2.length = vX m redo∧∀ i,i < vX m redo→eX (x.2.getD i []) (fI m i) = true:=by unfold lV;rw [Bool.and_eq_true,decide_eq_true_eq,lF]
def fV (s:bA):Bool:=jK s.2.2.1 && (decide (0≤s.1∧s.1≤(s.2.1.length:Int)) && (aI1 s.2.2.1 s.2.2.2.2.2.2.2.2.2.2.2.1 && (s.2.2.2.2.2.1.all (lV s.2.2.1 s.2.2.2.2.1) &&
 (hZ s.2.2.2.2.2.2.2.1 (mK s.2.2.1) && (hZ s.2.2.2.2.2.2.2.2.2.2.1 (mK s.2.2.1) && (hZ s.2.2.2.2.2.2.2.2.1 (iZ s.2.2.1) && hZ s.2.2.2.2.2.2.2.2.2.1 (iZ s.2.2.1)))))))
theorem eF (s:bA):fV s = true↔jK s.2.2.1 = true∧(0≤s.1∧s.1≤(s.2.1.length:Int))∧aI1 s.2.2.1 s.2.2.2.2.2.2.2.2.2.2.2.1 = true∧s.2.2.2.2.2.1.all (lV s.2.2.1 s.2.2.2.2.1) = true ∧
 hZ s.2.2.2.2.2.2.2.1 (mK s.2.2.1) = true∧hZ s.2.2.2.2.2.2.2.2.2.2.1 (mK s.2.2.1) = true∧hZ s.2.2.2.2.2.2.2.2.1 (iZ s.2.2.1) = true∧hZ s.2.2.2.2.2.2.2.2.2.1 (iZ s.2.2.1) = true:=by
 unfold fV;simp only [Bool.and_eq_true,decide_eq_true_eq]
theorem wK {v:List Int} {n:Int} (h:iA v = false):false = eX v n:=by unfold eX;rw [h];rfl
theorem aY7 {v:List Int} {n:Int} (h:iA v = true):((v.length:Int) == n) = eX v n:=by unfold eX;rw [h,Bool.true_and];rfl
theorem aCH {s:bA} {k:Nat} (hk:k < s.2.2.2.2.2.1.length) (h:¬ lV s.2.2.1 s.2.2.2.2.1 (s.2.2.2.2.2.1.getD k (aS aC)) = true):false = fV s:=by
 refine (Bool.eq_false_iff.2 fun hh=>?_).symm
 have h4:=((eF s).1 hh).2.2.2.1
 rw [List.all_eq_true] at h4
 exact h (h4 _ (by rw [bD hk];exact List.getElem_mem hk))
theorem aIY {s:bA} (h:∀ i,i < s.2.2.2.2.2.1.length→lV s.2.2.1 s.2.2.2.2.1 (s.2.2.2.2.2.1.getD i (aS aC)) = true):s.2.2.2.2.2.1.all (lV s.2.2.1 s.2.2.2.2.1) = true:=by
 rw [List.all_eq_true]
 intro x hx
 obtain ⟨i,hi,rfl⟩:=List.getElem_of_mem hx
 have:=h i hi
 rwa [bD hi] at this
theorem aD6 {m:List iC} {redo:Bool} {x:iX} {n:Nat} (hn:n = vX m redo):lV m redo x = true↔x.2.length = n∧nZ m x.2 n = true:=by
 unfold lV;rw [Bool.and_eq_true,decide_eq_true_eq,hn]
theorem aML {s:bA} (h1:jK s.2.2.1 = true) (h2:0≤s.1∧s.1≤(s.2.1.length:Int)) (h3:aI1 s.2.2.1 s.2.2.2.2.2.2.2.2.2.2.2.1 = true) (h4:s.2.2.2.2.2.1.all (lV s.2.2.1 s.2.2.2.2.1) = true) :
  fV s = (hZ s.2.2.2.2.2.2.2.1 (mK s.2.2.1) && (hZ s.2.2.2.2.2.2.2.2.2.2.1 (mK s.2.2.1) && (hZ s.2.2.2.2.2.2.2.2.1 (iZ s.2.2.1) && hZ s.2.2.2.2.2.2.2.2.2.1 (iZ s.2.2.1)))):=by
 unfold fV;rw [h1,h3,h4];simp [h2]
theorem mG {s:bA} (h:jK s.2.2.1 = false∨s.1 < 0∨(s.2.1.length:Int) < s.1∨aI1 s.2.2.1 s.2.2.2.2.2.2.2.2.2.2.2.1 = false∨hZ s.2.2.2.2.2.2.2.1 (mK s.2.2.1) = false∨hZ s.2.2.2.2.2.2.2.2.2.2.1 (mK s.2.2.1) = false∨hZ s.2.2.2.2.2.2.2.2.1 (iZ s.2.2.1) = false):false = fV s:=by
 refine (Bool.eq_false_iff.2 fun hh=>?_).symm
 obtain ⟨h1,h2,h3,h4,h5,h6,h7,h8⟩:=(eF s).1 hh
 rcases h with h | h | h | h | h | h | h
 ·rw [h] at h1;cases h1
 ·omega
 ·omega
 ·rw [h] at h3;cases h3
 ·rw [h] at h5;cases h5
 ·rw [h] at h6;cases h6
 ·rw [h] at h7;cases h7
noncomputable def cV:Con:=⟨166,aB,.bool,[.val ⟨false,aB,[]⟩],[⟨false,.bool,[0]⟩],false,none,
 ((fun _=>True):(List Int)→Prop),
 ((fun x=>iA x):(List Int)→(Bool))⟩
def aCC:T :=
 .prim (.llen 3 tI) (.vr 0) <|
 .prim (.cmp .geq .i64) (.mk2 tI tI (.vr 1) (.ci .i64 1)) <|
 .ite (.vr 2) (
  .prim (.llen 3 tI) (.vr 0) <|
  .prim (.cmp .leq .i64) (.mk2 tI tI (.vr 3) (.ci .i64 6)) <|
  .ite (.vr 4) (
   .call 0 (.vr 0) <|
   .ret (.vr 5)) (
   .ret (.cb false))) (
  .ret (.cb false))
set_option maxRecDepth 100000 in
theorem aW3:bS Tryz.prog [gD] cV false 3000 ⟨[],[]⟩ = .ok aCC:=by kernel_rfl
theorem aX6 (x:List Int) (hx:okD aB x) (hp:(fun _=>True) x):aCC.wp [gD] [⟨aB,x⟩] [] (fun v=>v.as .bool = (fun x=>iA x) x):=by
 delta aCC gD;refine eS ?_;try with_reducible exact True.intro
 (repeat' first | intro _ | (with_reducible apply And.intro))
 all_goals simp only [oL] at *
 all_goals first | (first | (refine (Bool.eq_false_iff.2 ?_).symm;rw [ne_eq,cJ];intro hh;omega) | (refine (cJ.2 ?_).symm;omega)) | (rw [Bool.eq_iff_iff,cJ];exact ⟨fun h=>⟨by omega,by omega,h⟩,fun h=>h.2.2⟩)
theorem mP:Con.Holds Tryz.prog cV:=aT aY (aK zT aU) aW3 fun x hx hp=>aX6 x hx hp
noncomputable def bV:Con:=⟨206,(.pair aB tI),.bool,[.val ⟨false,aB,[]⟩,.val ⟨false,tI,[]⟩],[⟨false,.bool,[0]⟩],false,none,
 ((fun _=>True):(cG × Int)→Prop),
 ((fun x=>eX x.1 x.2):(cG × Int)→(Bool))⟩
def aCV:T :=
 .call 0 (.p1 aB tI (.vr 0)) <|
 .ite (.vr 1) (
  .prim (.llen 3 tI) (.p1 aB tI (.vr 0)) <|
  .prim (.cmp .eql .i64) (.mk2 tI tI (.vr 2) (aQ (.pair aB tI) 1 (.vr 0))) <|
  .ret (.vr 3)) (
  .ret (.cb false))
set_option maxRecDepth 100000 in
theorem aX8:bS Tryz.prog [cV] bV false 3000 ⟨[],[]⟩ = .ok aCV:=by kernel_rfl
theorem aWY (x:cG × Int) (hx:okD (.pair aB tI) x) (hp:(fun _=>True) x):aCV.wp [cV] [⟨(.pair aB tI),x⟩] [] (fun v=>v.as .bool = (fun x=>eX x.1 x.2) x):=by
 delta aCV cV;refine eS ?_;try with_reducible exact True.intro
 exact ⟨fun h _=>aY7 h,fun h=>wK h⟩
theorem jG:Con.Holds Tryz.prog bV:=aT aY (aK mP aU) aX8 fun x hx hp=>aWY x hx hp
noncomputable def kD:Con:=⟨207,aN,tI,[.val ⟨true,aN,[]⟩],[⟨false,tI,[0]⟩],false,none,
 ((fun _=>True):(dA)→Prop),
 ((fun x=>mK x):(dA)→(Int))⟩
def aG5:T :=
 .call 0 (.vr 0) <|
 .prim .not (.vr 1) <|
 .ite (.vr 2) (
  .ret (.ci .i64 0)) (
  .prim (.lidx 219 aZ) (.mk2 aN tI (.vr 0) (.ci .i64 0)) <|
  .ret (aJ aZ 1 (.vr 3)))
set_option maxRecDepth 100000 in
theorem bAT:bS Tryz.prog [dW] kD false 3000 ⟨[],[]⟩ = .ok aG5:=by kernel_rfl
theorem aZA (x:dA) (hx:okD aN x) (hp:(fun _=>True) x):aG5.wp [dW] [⟨aN,x⟩] [] (fun v=>v.as tI = (fun x=>mK x) x):=by
 delta aG5 dW;refine eS ?_;try with_reducible exact True.intro
 refine ⟨fun h=>?_,fun h=>?_⟩
 all_goals simp only [oL] at h
 ·unfold mK;rw [h];rfl
 ·have:=(cK x).1 h
  refine ⟨by omega,fun _=>?_⟩
  unfold mK;rw [if_pos h];rfl
theorem aH1:Con.Holds Tryz.prog kD:=aT aY (aK qW aU) bAT fun x hx hp=>aZA x hx hp
noncomputable def iG:Con:=⟨209,aN,tI,[.val ⟨true,aN,[]⟩],[⟨false,tI,[0]⟩],false,none,
 ((fun _=>True):(dA)→Prop),
 ((fun x=>iZ x):(dA)→(Int))⟩
def aD4:T :=
 .call 0 (.vr 0) <|
 .prim .not (.vr 1) <|
 .ite (.vr 2) (
  .ret (.ci .i64 0)) (
  .prim (.llen 219 aZ) (.vr 0) <|
  .prim (.ar .sub .i64) (.mk2 tI tI (.vr 3) (.ci .i64 1)) <|
  .prim (.lidx 219 aZ) (.mk2 aN tI (.vr 0) (.vr 4)) <|
  .ret (aJ aZ 2 (.vr 5)))
set_option maxRecDepth 100000 in
theorem aWP:bS Tryz.prog [dW] iG false 3000 ⟨[],[]⟩ = .ok aD4:=by kernel_rfl
theorem aVT (x:dA) (hx:okD aN x) (hp:(fun _=>True) x):aD4.wp [dW] [⟨aN,x⟩] [] (fun v=>v.as tI = (fun x=>iZ x) x):=by
 delta aD4 dW;refine eS ?_;try with_reducible exact True.intro
 refine ⟨fun h=>?_,fun h=>?_⟩
 all_goals simp only [oL] at h
 ·unfold iZ;rw [h];rfl
 ·have:=(cK x).1 h
  refine fun _=>⟨by omega,fun _=>⟨by omega,fun _=>?_⟩⟩
  unfold iZ;rw [if_pos h,aAD];rfl
theorem aC9:Con.Holds Tryz.prog iG:=aT aY (aK qW aU) aWP fun x hx hp=>aVT x hx hp
noncomputable def nJ:Con:=⟨256,(.pair aB tI),.bool,[.val ⟨false,aB,[]⟩,.val ⟨false,tI,[]⟩],[⟨false,.bool,[0]⟩],false,none,
 ((fun _=>True):(cG × Int)→Prop),
 ((fun x=>hZ x.1 x.2):(cG × Int)→(Bool))⟩
def wN:T :=
 .prim (.llen 3 tI) (.p1 aB tI (.vr 0)) <|
 .prim (.cmp .eql .i64) (.mk2 tI tI (.vr 1) (.ci .i64 0)) <|
 .ite (.vr 2) (
  .ret (.cb true)) (
  .call 0 (.vr 0) <|
  .ret (.vr 3))
set_option maxRecDepth 100000 in
theorem aP0:bS Tryz.prog [bV] nJ false 3000 ⟨[],[]⟩ = .ok wN:=by kernel_rfl
theorem aNV (x:cG × Int) (hx:okD (.pair aB tI) x) (hp:(fun _=>True) x):wN.wp [bV] [⟨(.pair aB tI),x⟩] [] (fun v=>v.as .bool = (fun x=>hZ x.1 x.2) x):=by
 delta wN bV;refine eS ?_;try with_reducible exact True.intro
 intro _
 (refine gR ?_;try with_reducible exact True.intro)
 refine ⟨fun h=>?_,fun h=>?_⟩
 ·unfold hZ;rw [decide_eq_true (by omega)];rfl
 ·unfold hZ;rw [decide_eq_false (by omega)];rfl
theorem aP8:Con.Holds Tryz.prog nJ:=aT aY (aK jG aU) aP0 fun x hx hp=>aNV x hx hp
noncomputable def nK:Con:=⟨247,(.pair aB tI),.bool,[.val ⟨false,aB,[]⟩,.val ⟨false,tI,[]⟩],[⟨false,.bool,[0]⟩],false,none,
 ((fun _=>True):(cG × Int)→Prop),
 ((fun x=>hZ x.1 x.2):(cG × Int)→(Bool))⟩
def yB:T :=
 .prim (.llen 3 tI) (.p1 aB tI (.vr 0)) <|
 .prim (.cmp .eql .i64) (.mk2 tI tI (.vr 1) (.ci .i64 0)) <|
 .ite (.vr 2) (
  .ret (.cb true)) (
  .call 0 (.p1 aB tI (.vr 0)) <|
  .ite (.vr 3) (
   .prim (.llen 3 tI) (.p1 aB tI (.vr 0)) <|
   .prim (.cmp .eql .i64) (.mk2 tI tI (.vr 4) (aQ (.pair aB tI) 1 (.vr 0))) <|
   .ret (.vr 5)) (
   .ret (.cb false)))
set_option maxRecDepth 100000 in
theorem aPS:bS Tryz.prog [bJ] nK false 3000 ⟨[],[]⟩ = .ok yB:=by kernel_rfl
theorem aP4 (x:cG × Int) (hx:okD (.pair aB tI) x) (hp:(fun _=>True) x):yB.wp [bJ] [⟨(.pair aB tI),x⟩] [] (fun v=>v.as .bool = (fun x=>hZ x.1 x.2) x):=by
 delta yB bJ;refine eS ?_;try with_reducible exact True.intro
 intro _
 (refine gR ?_;try with_reducible exact True.intro)
 refine ⟨fun h=>?_,fun h=>⟨fun h2 _=>?_,fun h2=>?_⟩⟩
 ·unfold hZ;rw [decide_eq_true (by omega)];rfl
 ·unfold hZ;rw [decide_eq_false (by omega),Bool.false_or];exact aY7 h2
 ·unfold hZ;rw [decide_eq_false (by omega),Bool.false_or];exact wK h2
theorem aMX:Con.Holds Tryz.prog nK:=aT aY (aK fC aU) aPS fun x hx hp=>aP4 x hx hp
noncomputable def jP:Con:=⟨216,(.pair aN (.pair aG tI)),.bool,[.val ⟨false,aN,[]⟩,.val ⟨false,aG,[]⟩,.val ⟨false,tI,[]⟩],[⟨false,.bool,[0]⟩],false,none,
 ((fun x=>jK x.1 = true∧x.2.2≤(x.2.1.length:Int)):(dA × (dD × Int))→Prop),
 ((fun x=>nZ x.1 x.2.1 x.2.2.toNat):(dA × (dD × Int))→(Bool))⟩
def zJ:T :=
 .loop tI (.ci .i64 0) <|
  .prim (.cmp .lss .i64) (.mk2 tI tI (.vr 1) (aQ (.pair aN (.pair aG tI)) 2 (.vr 0))) <|
  .ite (.vr 2) (
   .prim (.llen 219 aZ) (.p1 aN (.pair aG tI) (.vr 0)) <|
   .prim (.ar .sub .i64) (.mk2 tI tI (.vr 3) (.ci .i64 1)) <|
   .prim (.lidx 219 aZ) (.mk2 aN tI (.p1 aN (.pair aG tI) (.vr 0)) (.vr 4)) <|
   .prim (.llen 219 aZ) (.p1 aN (.pair aG tI) (.vr 0)) <|
   .prim (.cmp .lss .i64) (.mk2 tI tI (.vr 1) (.vr 6)) <|
   .ite (.vr 7) (
    .prim (.lidx 219 aZ) (.mk2 aN tI (.p1 aN (.pair aG tI) (.vr 0)) (.vr 1)) <|
    .prim (.lidx 188 aB) (.mk2 aG tI (aJ (.pair aN (.pair aG tI)) 1 (.vr 0)) (.vr 1)) <|
    .call 0 (.mk2 aB tI (.vr 9) (aJ aZ 1 (.vr 8))) <|
    .prim .not (.vr 10) <|
    .ite (.vr 11) (
     .ret (.cb false)) (
     .prim (.ar .add .i64) (.mk2 tI tI (.vr 1) (.ci .i64 1)) <|
     .again 0 (.vr 12))) (
    .prim (.lidx 188 aB) (.mk2 aG tI (aJ (.pair aN (.pair aG tI)) 1 (.vr 0)) (.vr 1)) <|
    .call 0 (.mk2 aB tI (.vr 8) (aJ aZ 2 (.vr 5))) <|
    .prim .not (.vr 9) <|
    .ite (.vr 10) (
     .ret (.cb false)) (
     .prim (.ar .add .i64) (.mk2 tI tI (.vr 1) (.ci .i64 1)) <|
     .again 0 (.vr 11)))) (
   .ret (.cb true))
set_option maxRecDepth 100000 in
theorem aQ5:bS Tryz.prog [bV] jP false 3000 ⟨[(2993,1001,[.tm 7 0])],[]⟩ = .ok zJ:=by kernel_rfl
theorem aQU (x:dA × (dD × Int)) (hx:okD (.pair aN (.pair aG tI)) x) (hp:(fun x=>jK x.1 = true∧x.2.2≤(x.2.1.length:Int)) x):zJ.wp [bV] [⟨(.pair aN (.pair aG tI)),x⟩] [] (fun v=>v.as .bool = (fun x=>nZ x.1 x.2.1 x.2.2.toNat) x):=by
 obtain ⟨m,r,n⟩:=x
 obtain ⟨hm,hn⟩:jK m = true∧n≤(r.length:Int):=hp
 have hr:r.length≤9223372036854775807:=hx.2.1.1
 have hm1:=(cK m).1 hm
 delta zJ bV;refine eS ?_;try with_reducible exact True.intro
 refine ⟨fun s=>∃ k:Nat,k≤n.toNat∧s = (k:Int)∧∀ i,i < k→eX (r.getD i []) (fI m i) = true,fun s=>n.toNat - (s:Int).toNat,⟨0,by omega,rfl,by omega⟩,fun s _ hI=>?_⟩
 obtain ⟨k,hk,rfl,ha⟩:=hI
 (refine gR ?_;try with_reducible exact True.intro)
 have bad:k < n.toNat→∀ z:Int,z = fI m k→eX (r.getD k []) z = false→false = nZ m r n.toNat:=fun h z hz hv=>by
  refine (Bool.eq_false_iff.2 fun hh=>?_).symm
  have:=(lF _ _ _).1 hh k h
  rw [← hz,hv] at this;cases this
 have good:∀ z:Int,z = fI m k→eX (r.getD k []) z = true→∀ i,i < k + 1→eX (r.getD i []) (fI m i) = true:=fun z hz hv i hi=>by
  rcases Nat.lt_or_eq_of_le (Nat.le_of_lt_succ hi) with h | rfl
  ·exact ha i h
  ·rw [← hz];exact hv
 constructor
 ·intro hlt
  have e1:(m.getD (m.length - 1) (aS aZ)).2.2.1 = (m.getD (m.length - 1) zOp).2.2.1:=rfl
  have e2:(m.getD k (aS aZ)).2.1 = (m.getD k zOp).2.1:=rfl
  have z1:k < m.length→(m.getD k zOp).2.1 = fI m k:=fun h=>by unfold fI;rw [if_pos h]
  have z2:¬ k < m.length→(m.getD (m.length - 1) zOp).2.2.1 = fI m k:=fun h=>by unfold fI;rw [if_neg h]
  (repeat' first | intro _ | (with_reducible apply And.intro))
  all_goals first | omega | (exact bad (by omega) _ (z1 (by omega)) (by assumption)) | (exact bad (by omega) _ (z2 (by omega)) (by assumption)) | (exact ⟨k + 1,by omega,rfl,good _ (z1 (by omega)) (by assumption)⟩) | (exact ⟨k + 1,by omega,rfl,good _ (z2 (by omega)) (by assumption)⟩)
 ·intro hge
  exact ((lF _ _ _).2 fun i hi=>ha i (by omega)).symm
theorem aF9:Con.Holds Tryz.prog jP:=aT aY (aK jG aU) aQ5 fun x hx hp=>aQU x hx hp
noncomputable def dX:Con:=⟨168,aA,.bool,[.val ⟨true,aA,[]⟩],[⟨false,.bool,[0]⟩],false,none,
 ((fun _=>True):(bA)→Prop),
 ((fun x=>fV x):(bA)→(Bool))⟩
def wD:T :=
 .call 0 (.vr 0) <|
 .call 1 (.vr 1) <|
 .prim .not (.vr 2) <|
 .ite (.vr 3) (
  .ret (.cb false)) (
  .prim (.cmp .lss .i64) (.mk2 tI tI (.p1 tI cT (.vr 0)) (.ci .i64 0)) <|
  .ite (.vr 4) (
   .ret (.cb false)) (
   .prim (.llen 95 aO) (aJ aA 1 (.vr 0)) <|
   .prim (.cmp .gtr .i64) (.mk2 tI tI (.p1 tI cT (.vr 0)) (.vr 5)) <|
   .ite (.vr 6) (
    .ret (.cb false)) (
    .call 2 (.mk2 aN aG (.vr 1) (aJ aA 11 (.vr 0))) <|
    .prim .not (.vr 7) <|
    .ite (.vr 8) (
     .ret (.cb false)) (
     .prim (.llen 219 aZ) (aJ aA 2 (.vr 0)) <|
     .prim (.ar .add .i64) (.mk2 tI tI (.vr 9) (.ci .i64 1)) <|
     .ite (aJ aA 4 (.vr 0)) (
      .prim (.llen 186 aC) (aJ aA 5 (.vr 0)) <|
      .loop tI (.ci .i64 0) <|
       .prim (.cmp .lss .i64) (.mk2 tI tI (.vr 12) (.vr 11)) <|
       .ite (.vr 13) (
        .prim (.lidx 186 aC) (.mk2 (.slice 186 aC) tI (aJ aA 5 (.vr 0)) (.vr 12)) <|
        .prim (.llen 188 aB) (aQ aC 1 (.vr 14)) <|
        .prim (.cmp .neq .i64) (.mk2 tI tI (.vr 15) (.ci .i64 1)) <|
        .ite (.vr 16) (
         .ret (.cb false)) (
         .call 3 (bF (.pair aN (.pair aG tI)) [(aJ aA 2 (.vr 0)),(aQ aC 1 (.vr 14)),(.ci .i64 1)]) <|
         .prim .not (.vr 17) <|
         .ite (.vr 18) (
          .ret (.cb false)) (
          .prim (.ar .add .i64) (.mk2 tI tI (.vr 12) (.ci .i64 1)) <|
          .again 0 (.vr 19)))) (
        .call 4 (.vr 1) <|
        .call 5 (.vr 1) <|
        .call 6 (.mk2 aB tI (aJ aA 7 (.vr 0)) (.vr 14)) <|
        .ite (.vr 16) (
         .call 6 (.mk2 aB tI (aJ aA 10 (.vr 0)) (.vr 14)) <|
         .ite (.vr 17) (
          .call 6 (.mk2 aB tI (aJ aA 8 (.vr 0)) (.vr 15)) <|
          .ite (.vr 18) (
           .call 6 (.mk2 aB tI (aJ aA 9 (.vr 0)) (.vr 15)) <|
           .ret (.vr 19)) (
           .ret (.cb false))) (
          .ret (.cb false))) (
         .ret (.cb false)))) (
      .prim (.llen 186 aC) (aJ aA 5 (.vr 0)) <|
      .loop tI (.ci .i64 0) <|
       .prim (.cmp .lss .i64) (.mk2 tI tI (.vr 12) (.vr 11)) <|
       .ite (.vr 13) (
        .prim (.lidx 186 aC) (.mk2 (.slice 186 aC) tI (aJ aA 5 (.vr 0)) (.vr 12)) <|
        .prim (.llen 188 aB) (aQ aC 1 (.vr 14)) <|
        .prim (.cmp .neq .i64) (.mk2 tI tI (.vr 15) (.vr 10)) <|
        .ite (.vr 16) (
         .ret (.cb false)) (
         .call 3 (bF (.pair aN (.pair aG tI)) [(aJ aA 2 (.vr 0)),(aQ aC 1 (.vr 14)),(.vr 10)]) <|
         .prim .not (.vr 17) <|
         .ite (.vr 18) (
          .ret (.cb false)) (
          .prim (.ar .add .i64) (.mk2 tI tI (.vr 12) (.ci .i64 1)) <|
          .again 0 (.vr 19)))) (
        .call 4 (.vr 1) <|
        .call 5 (.vr 1) <|
        .call 6 (.mk2 aB tI (aJ aA 7 (.vr 0)) (.vr 14)) <|
        .ite (.vr 16) (
         .call 6 (.mk2 aB tI (aJ aA 10 (.vr 0)) (.vr 14)) <|
         .ite (.vr 17) (
          .call 6 (.mk2 aB tI (aJ aA 8 (.vr 0)) (.vr 15)) <|
          .ite (.vr 18) (
           .call 6 (.mk2 aB tI (aJ aA 9 (.vr 0)) (.vr 15)) <|
           .ret (.vr 19)) (
           .ret (.cb false))) (
          .ret (.cb false))) (
         .ret (.cb false))))))))
set_option maxRecDepth 100000 in
theorem aND:bS Tryz.prog [dU,dW,lY,jP,kD,iG,nJ] dX false 3000 ⟨[(2979,48012,mL 41 9 ++ [.dr 0,.tm 44 0]),(2979,32012,mL 41 9 ++ [.dr 0,.tm 44 0])],[]⟩ = .ok wD:=by kernel_rfl
theorem aPF (x:bA) (hx:okD aA x) (hp:(fun _=>True) x):wD.wp [dU,dW,lY,jP,kD,iG,nJ] [⟨aA,x⟩] [] (fun v=>v.as .bool = (fun x=>fV x) x):=by
  have hst:x.2.2.2.2.2.1.length≤9223372036854775807:=hx.2.2.2.2.2.1.1
  delta wD dU dW lY jP kD iG nJ;refine eS ?_;try with_reducible exact True.intro
  (refine gR ?_;try with_reducible exact True.intro)
  intro _
  refine ⟨fun h=>mG (.inl h),fun h1=>⟨fun h=>mG (.inr (.inl h)),fun h2 _=>⟨fun h=>mG (.inr (.inr (.inl h))),fun h3=>⟨fun h=>mG (.inr (.inr (.inr (.inl h)))),fun h4 _=>?_⟩⟩⟩⟩
  have hm:=(cK _).1 h1
  refine ⟨by omega,fun _=>⟨fun hr _=>?_,fun hr _=>?_⟩⟩
  all_goals
    refine ⟨fun s=>∃ k:Nat,k≤x.2.2.2.2.2.1.length∧s = (k:Int)∧∀ i,i < k→lV x.2.2.1 x.2.2.2.2.1 (x.2.2.2.2.2.1.getD i (aS aC)) = true,fun s=>x.2.2.2.2.2.1.length - (s:Int).toNat,⟨0,by omega,rfl,by omega⟩,fun s _ hI=>?_⟩
    obtain ⟨k,hk,rfl,ha⟩:=hI
    (refine gR ?_;try with_reducible exact True.intro)
    obtain ⟨n,hn⟩:∃ n,n = vX x.2.2.1 x.2.2.2.2.1:=⟨_,rfl⟩
    have hn1:=hn
    unfold vX at hn1
    rw [hr] at hn1
    simp only [if_true,Bool.false_eq_true,if_false] at hn1
    have hkn:=(hn1.symm.trans hn).symm
    clear hn hn1
    constructor
  rotate_left 1
  rotate_left 2
  all_goals first
    | (intro hge
       have hst:=aIY (s:=x) (fun i hi=>ha i (by omega))
       rw [aML h1 ⟨by omega,by omega⟩ h4 hst]
       (repeat' first | intro _ | (with_reducible apply And.intro))
       all_goals simp_all
       done)
    | skip
  all_goals
    intro hlt
    have hk':k < x.2.2.2.2.2.1.length:=by omega
    (repeat' first | intro _ | (with_reducible apply And.intro))
    all_goals first | omega | exact h1 | (exact aCH hk' fun hh=>by have:=((aD6 hkn.symm).1 hh).1;omega) | skip
    all_goals first | (refine aCH hk' fun hh=>?_;have h5:=((aD6 hkn.symm).1 hh).2;exact Bool.noConfusion (h5.symm.trans (by assumption:_ = false))) | (refine ⟨k + 1,by omega,rfl,fun i hi=>?_⟩;rcases Nat.lt_or_eq_of_le (Nat.le_of_lt_succ hi) with h | rfl;exact ha i h;exact (aD6 hkn.symm).2 ⟨by omega,by assumption⟩)
theorem rI:Con.Holds Tryz.prog dX:=aT aY (aK qT (aK qW (aK aL8 (aK aF9 (aK aH1 (aK aC9 (aK aP8 aU))))))) aND fun x hx hp=>aPF x hx hp
noncomputable def dT:Con:=⟨160,aA,.bool,[.val ⟨true,aA,[]⟩],[⟨false,.bool,[0]⟩],false,none,
 ((fun _=>True):(bA)→Prop),
 ((fun x=>fV x):(bA)→(Bool))⟩
def vR:T :=
 .call 0 (aJ aA 2 (.vr 0)) <|
 .prim .not (.vr 1) <|
 .ite (.vr 2) (
  .ret (.cb false)) (
  .prim (.llen 95 aO) (aJ aA 1 (.vr 0)) <|
  .call 1 (bF (.pair tI aO) [(.p1 tI cT (.vr 0)),(.ci .i64 0),(.vr 3)]) <|
  .prim .not (.vr 4) <|
  .ite (.vr 5) (
   .ret (.cb false)) (
   .prim (.llen 188 aB) (aJ aA 11 (.vr 0)) <|
   .prim (.llen 219 aZ) (aJ aA 2 (.vr 0)) <|
   .prim (.cmp .neq .i64) (.mk2 tI tI (.vr 6) (.vr 7)) <|
   .ite (.vr 8) (
    .ret (.cb false)) (
    .prim (.lidx 219 aZ) (.mk2 aN tI (aJ aA 2 (.vr 0)) (.ci .i64 0)) <|
    .prim (.llen 219 aZ) (aJ aA 2 (.vr 0)) <|
    .prim (.ar .sub .i64) (.mk2 tI tI (.vr 10) (.ci .i64 1)) <|
    .prim (.lidx 219 aZ) (.mk2 aN tI (aJ aA 2 (.vr 0)) (.vr 11)) <|
    .loop tI (.ci .i64 0) <|
     .prim (.llen 219 aZ) (aJ aA 2 (.vr 0)) <|
     .prim (.cmp .lss .i64) (.mk2 tI tI (.vr 13) (.vr 14)) <|
     .ite (.vr 15) (
      .prim (.lidx 188 aB) (.mk2 aG tI (aJ aA 11 (.vr 0)) (.vr 13)) <|
      .prim (.llen 3 tI) (.vr 16) <|
      .prim (.lidx 219 aZ) (.mk2 aN tI (aJ aA 2 (.vr 0)) (.vr 13)) <|
      .prim (.llen 3 tI) (aQ aZ 3 (.vr 18)) <|
      .prim (.cmp .neq .i64) (.mk2 tI tI (.vr 17) (.vr 19)) <|
      .ite (.vr 20) (
       .ret (.cb false)) (
       .prim (.ar .add .i64) (.mk2 tI tI (.vr 13) (.ci .i64 1)) <|
       .again 0 (.vr 21))) (
      .loop tI (.ci .i64 0) <|
       .prim (.llen 186 aC) (aJ aA 5 (.vr 0)) <|
       .prim (.cmp .lss .i64) (.mk2 tI tI (.vr 16) (.vr 17)) <|
       .ite (.vr 18) (
        .prim (.lidx 186 aC) (.mk2 (.slice 186 aC) tI (aJ aA 5 (.vr 0)) (.vr 16)) <|
        .prim (.llen 188 aB) (aQ aC 1 (.vr 19)) <|
        .prim (.cmp .eql .i64) (.mk2 tI tI (.vr 20) (.ci .i64 0)) <|
        .ite (.vr 21) (
         .ret (.cb false)) (
         .prim (.lidx 188 aB) (.mk2 aG tI (aQ aC 1 (.vr 19)) (.ci .i64 0)) <|
         .call 2 (.vr 22) <|
         .prim .not (.vr 23) <|
         .ite (.vr 24) (
          .ret (.cb false)) (
          .prim (.lidx 188 aB) (.mk2 aG tI (aQ aC 1 (.vr 19)) (.ci .i64 0)) <|
          .prim (.llen 3 tI) (.vr 25) <|
          .prim (.cmp .neq .i64) (.mk2 tI tI (.vr 26) (aJ aZ 1 (.vr 9))) <|
          .ite (.vr 27) (
           .ret (.cb false)) (
           .prim .not (aJ aA 4 (.vr 0)) <|
           .ite (.vr 28) (
            .prim (.llen 188 aB) (aQ aC 1 (.vr 19)) <|
            .prim (.llen 219 aZ) (aJ aA 2 (.vr 0)) <|
            .prim (.ar .add .i64) (.mk2 tI tI (.vr 30) (.ci .i64 1)) <|
            .prim (.cmp .neq .i64) (.mk2 tI tI (.vr 29) (.vr 31)) <|
            .ite (.vr 32) (
             .ret (.cb false)) (
             .ite (aJ aA 4 (.vr 0)) (
              .prim (.llen 188 aB) (aQ aC 1 (.vr 19)) <|
              .prim (.cmp .neq .i64) (.mk2 tI tI (.vr 33) (.ci .i64 1)) <|
              .ite (.vr 34) (
               .ret (.cb false)) (
               .loop tI (.ci .i64 1) <|
                .prim (.llen 188 aB) (aQ aC 1 (.vr 19)) <|
                .prim (.cmp .lss .i64) (.mk2 tI tI (.vr 35) (.vr 36)) <|
                .ite (.vr 37) (
                 .prim (.lidx 188 aB) (.mk2 aG tI (aQ aC 1 (.vr 19)) (.vr 35)) <|
                 .call 2 (.vr 38) <|
                 .prim .not (.vr 39) <|
                 .ite (.vr 40) (
                  .ret (.cb false)) (
                  .prim (.ar .sub .i64) (.mk2 tI tI (.vr 35) (.ci .i64 1)) <|
                  .prim (.lidx 188 aB) (.mk2 aG tI (aQ aC 1 (.vr 19)) (.vr 35)) <|
                  .prim (.llen 3 tI) (.vr 42) <|
                  .prim (.lidx 219 aZ) (.mk2 aN tI (aJ aA 2 (.vr 0)) (.vr 41)) <|
                  .prim (.cmp .neq .i64) (.mk2 tI tI (.vr 43) (aJ aZ 2 (.vr 44))) <|
                  .ite (.vr 45) (
                   .ret (.cb false)) (
                   .prim (.ar .add .i64) (.mk2 tI tI (.vr 35) (.ci .i64 1)) <|
                   .again 0 (.vr 46)))) (
                 .prim (.ar .add .i64) (.mk2 tI tI (.vr 16) (.ci .i64 1)) <|
                 .again 1 (.vr 38)))) (
              .loop tI (.ci .i64 1) <|
               .prim (.llen 188 aB) (aQ aC 1 (.vr 19)) <|
               .prim (.cmp .lss .i64) (.mk2 tI tI (.vr 33) (.vr 34)) <|
               .ite (.vr 35) (
                .prim (.lidx 188 aB) (.mk2 aG tI (aQ aC 1 (.vr 19)) (.vr 33)) <|
                .call 2 (.vr 36) <|
                .prim .not (.vr 37) <|
                .ite (.vr 38) (
                 .ret (.cb false)) (
                 .prim (.ar .sub .i64) (.mk2 tI tI (.vr 33) (.ci .i64 1)) <|
                 .prim (.lidx 188 aB) (.mk2 aG tI (aQ aC 1 (.vr 19)) (.vr 33)) <|
                 .prim (.llen 3 tI) (.vr 40) <|
                 .prim (.lidx 219 aZ) (.mk2 aN tI (aJ aA 2 (.vr 0)) (.vr 39)) <|
                 .prim (.cmp .neq .i64) (.mk2 tI tI (.vr 41) (aJ aZ 2 (.vr 42))) <|
                 .ite (.vr 43) (
                  .ret (.cb false)) (
                  .prim (.ar .add .i64) (.mk2 tI tI (.vr 33) (.ci .i64 1)) <|
                  .again 0 (.vr 44)))) (
                .prim (.ar .add .i64) (.mk2 tI tI (.vr 16) (.ci .i64 1)) <|
                .again 1 (.vr 36))))) (
            .ite (aJ aA 4 (.vr 0)) (
             .prim (.llen 188 aB) (aQ aC 1 (.vr 19)) <|
             .prim (.cmp .neq .i64) (.mk2 tI tI (.vr 29) (.ci .i64 1)) <|
             .ite (.vr 30) (
              .ret (.cb false)) (
              .loop tI (.ci .i64 1) <|
               .prim (.llen 188 aB) (aQ aC 1 (.vr 19)) <|
               .prim (.cmp .lss .i64) (.mk2 tI tI (.vr 31) (.vr 32)) <|
               .ite (.vr 33) (
                .prim (.lidx 188 aB) (.mk2 aG tI (aQ aC 1 (.vr 19)) (.vr 31)) <|
                .call 2 (.vr 34) <|
                .prim .not (.vr 35) <|
                .ite (.vr 36) (
                 .ret (.cb false)) (
                 .prim (.ar .sub .i64) (.mk2 tI tI (.vr 31) (.ci .i64 1)) <|
                 .prim (.lidx 188 aB) (.mk2 aG tI (aQ aC 1 (.vr 19)) (.vr 31)) <|
                 .prim (.llen 3 tI) (.vr 38) <|
                 .prim (.lidx 219 aZ) (.mk2 aN tI (aJ aA 2 (.vr 0)) (.vr 37)) <|
                 .prim (.cmp .neq .i64) (.mk2 tI tI (.vr 39) (aJ aZ 2 (.vr 40))) <|
                 .ite (.vr 41) (
                  .ret (.cb false)) (
                  .prim (.ar .add .i64) (.mk2 tI tI (.vr 31) (.ci .i64 1)) <|
                  .again 0 (.vr 42)))) (
                .prim (.ar .add .i64) (.mk2 tI tI (.vr 16) (.ci .i64 1)) <|
                .again 1 (.vr 34)))) (
             .loop tI (.ci .i64 1) <|
              .prim (.llen 188 aB) (aQ aC 1 (.vr 19)) <|
              .prim (.cmp .lss .i64) (.mk2 tI tI (.vr 29) (.vr 30)) <|
              .ite (.vr 31) (
               .prim (.lidx 188 aB) (.mk2 aG tI (aQ aC 1 (.vr 19)) (.vr 29)) <|
               .call 2 (.vr 32) <|
               .prim .not (.vr 33) <|
               .ite (.vr 34) (
                .ret (.cb false)) (
                .prim (.ar .sub .i64) (.mk2 tI tI (.vr 29) (.ci .i64 1)) <|
                .prim (.lidx 188 aB) (.mk2 aG tI (aQ aC 1 (.vr 19)) (.vr 29)) <|
                .prim (.llen 3 tI) (.vr 36) <|
                .prim (.lidx 219 aZ) (.mk2 aN tI (aJ aA 2 (.vr 0)) (.vr 35)) <|
                .prim (.cmp .neq .i64) (.mk2 tI tI (.vr 37) (aJ aZ 2 (.vr 38))) <|
                .ite (.vr 39) (
                 .ret (.cb false)) (
                 .prim (.ar .add .i64) (.mk2 tI tI (.vr 29) (.ci .i64 1)) <|
                 .again 0 (.vr 40)))) (
               .prim (.ar .add .i64) (.mk2 tI tI (.vr 16) (.ci .i64 1)) <|
               .again 1 (.vr 32)))))))) (
        .call 3 (.mk2 aB tI (aJ aA 7 (.vr 0)) (aJ aZ 1 (.vr 9))) <|
        .ite (.vr 19) (
         .call 3 (.mk2 aB tI (aJ aA 8 (.vr 0)) (aJ aZ 2 (.vr 12))) <|
         .ite (.vr 20) (
          .call 3 (.mk2 aB tI (aJ aA 9 (.vr 0)) (aJ aZ 2 (.vr 12))) <|
          .ite (.vr 21) (
           .call 3 (.mk2 aB tI (aJ aA 10 (.vr 0)) (aJ aZ 1 (.vr 9))) <|
           .ret (.vr 22)) (
           .ret (.cb false))) (
          .ret (.cb false))) (
         .ret (.cb false)))))))
set_option maxRecDepth 100000 in
theorem aOJ:bS Tryz.prog [nQ,bU,bJ,nK] dT false 3000 ⟨[(2984,8013,mL 46 9 ++ [.dr 0,.tm 5 0]),(2974,16016,mL 51 47 ++ [.dr 5,.tm 6 0]),(2956,5392035,[.tm 8 0]),(2956,2320033,[.tm 8 0]),(2956,2576031,[.tm 8 0]),(2956,1040029,[.tm 8 0])],[]⟩ = .ok vR:=by kernel_rfl
theorem aQ0 (x:bA) (hx:okD aA x) (hp:(fun _=>True) x):vR.wp [nQ,bU,bJ,nK] [⟨aA,x⟩] [] (fun v=>v.as .bool = (fun x=>fV x) x):=by
  obtain ⟨pc,plan,ops,last,redo,stash,full,X,Y,G,D,sum⟩:=x
  have hst:stash.length≤9223372036854775807:=hx.2.2.2.2.2.1.1
  have hsr:∀ k,k < stash.length→(stash.getD k (aS aC)).2.length≤9223372036854775807:=fun k hk=>by rw [bD hk];exact (hx.2.2.2.2.2.1.2 _ (List.getElem_mem hk)).2.1
  have hol:ops.length≤9223372036854775807:=hx.2.2.1.1
  delta vR nQ bU bJ nK;refine eS ?_;try with_reducible exact True.intro
  (refine gR ?_;try with_reducible exact True.intro)
  refine ⟨fun h=>mG (.inl h),fun h1 _=>⟨fun h=>?_,fun h2 _ _=>⟨fun h=>?_,fun h3=>?_⟩⟩⟩
  · rcases h with h | h
    · exact mG (.inr (.inl (by omega)))
    · exact mG (.inr (.inr (.inl (by omega))))
  · exact mG (.inr (.inr (.inr (.inl (Bool.eq_false_iff.2 fun hh=>by rw [vM] at hh;dsimp only at hh;omega)))))
  have hm:=(cK _).1 h1
  refine ⟨by omega,fun _ _=>⟨by omega,fun _=>⟨by omega,fun _=>?_⟩⟩⟩
  have ein:(ops.getD 0 (aS aZ)).2.1 = mK ops:=by unfold mK;rw [if_pos h1];rfl
  have eout:(ops.getD (ops.length - 1) (aS aZ)).2.2.1 = iZ ops:=by unfold iZ;rw [if_pos h1];rfl
  simp only [ein,eout]
  refine ⟨fun s=>∃ k:Nat,k≤ops.length∧s = (k:Int)∧∀ i,i < k→aFR ops sum.1 i = true,fun s=>ops.length - (s:Int).toNat,⟨0,by omega,rfl,by omega⟩,fun s _ hI=>?_⟩
  obtain ⟨k,hk,rfl,hf⟩:=hI
  (refine gR ?_;try with_reducible exact True.intro)
  intro _
  constructor
  · intro hlt
    have hk':k < ops.length:=by omega
    have hk2:k < sum.1.length:=by omega
    have e:=aJF ops sum.1 hk' hk2
    rw [← bD hk' (d:=aS aZ),← bD hk2 (d:=aS aB)] at e
    (repeat' first | intro _ | (with_reducible apply And.intro))
    all_goals first | omega | (exact mG (.inr (.inr (.inr (.inl (aMY hk' fun h2=>by have:=e.1 h2;omega)))))) | (refine ⟨k + 1,by omega,rfl,fun i hi=>?_⟩;rcases Nat.lt_or_eq_of_le (Nat.le_of_lt_succ hi) with h | rfl;exact hf i h;exact e.2 (by omega))
  intro hge
  have hfit:aI1 ops sum.1 = true:=(vM _ _).2 ⟨by omega,fun i hi=>hf i (by omega)⟩
  obtain ⟨F,hF⟩:∃ F:iX→Bool,F = lV ops redo:=⟨_,rfl⟩
  obtain ⟨n,hn⟩:∃ n,n = vX ops redo:=⟨_,rfl⟩
  have hz0:fI ops 0 = mK ops:=by unfold fI mK;rw [if_pos (by omega),if_pos h1]
  have sb:∀ S:iX,F S = true↔S.2.length = n∧∀ i,i < n→eX (S.2.getD i (aS aB)) (fI ops i) = true:=fun S=>by rw [hF,hn];exact aGJ _ _ _
  have bad:∀ j,j < stash.length→¬ F (stash.getD j (aS aC)) = true→false = fV (pc,plan,ops,last,redo,stash,full,X,Y,G,D,sum):=fun j hj h=>aCH hj (by show ¬ lV ops redo _ = true;rw [← hF];exact h)
  have fin:(∀ i,i < stash.length→F (stash.getD i (aS aC)) = true)→fV (pc,plan,ops,last,redo,stash,full,X,Y,G,D,sum) = (hZ X (mK ops) && (hZ D (mK ops) && (hZ Y (iZ ops) && hZ G (iZ ops)))) :=
    fun h=>aML h1 ⟨by dsimp only;omega,by dsimp only;omega⟩ hfit (aIY fun i hi=>by show lV ops redo _ = true;rw [← hF];exact h i hi)
  have hn1:(redo = true→n = 1)∧(redo = false→n = ops.length + 1):=by rw [hn];unfold vX;exact ⟨fun h=>by rw [h];rfl,fun h=>by rw [h];rfl⟩
  clear hF hn
  cases redo
  all_goals
    simp only [Bool.not_true,Bool.not_false,reduceCtorEq,true_implies,false_implies,and_true,true_and,forall_const] at hn1 ⊢
    refine ⟨fun s=>∃ k:Nat,k≤stash.length∧s = (k:Int)∧∀ i,i < k→F (stash.getD i (aS aC)) = true,fun s=>stash.length - (s:Int).toNat,⟨0,by omega,rfl,by omega⟩,fun s _ hI=>?_⟩
    obtain ⟨j,hj,rfl,ha⟩:=hI
    (refine gR ?_;try with_reducible exact True.intro)
    intro _
    constructor
    rotate_left
    · intro hge
      rw [fin fun i hi=>ha i (by omega)]
      (repeat' first | intro _ | (with_reducible apply And.intro))
      all_goals simp_all
    intro hlt
    have hj':j < stash.length:=by omega
    have hrl:=hsr j hj'
    have bj:=bad j hj'
    have sj:=sb (stash.getD j (aS aC))
    have nx:F (stash.getD j (aS aC)) = true→∀ i,i < j + 1→F (stash.getD i (aS aC)) = true:=fun h i hi=>by
      rcases Nat.lt_or_eq_of_le (Nat.le_of_lt_succ hi) with h' | rfl
      · exact ha i h'
      · exact h
    clear ha fin bad sb hsr
    generalize stash.getD j (aS aC) = S at *
    (repeat' first | intro _ | (with_reducible apply And.intro))
    all_goals first | omega | (refine bj fun hh=>?_;have:=(sj.1 hh).1;omega) | (refine bj fun hh=>?_;have h5:=(sj.1 hh).2 0 (by omega);rw [bY] at h5;first | omega | (simp_all;done)) | skip
    refine ⟨fun s=>∃ k:Nat,1≤k∧k≤S.2.length∧s = (k:Int)∧∀ i,1≤i→i < k→eX (S.2.getD i (aS aB)) (fI ops i) = true,fun s=>S.2.length - (s:Int).toNat,⟨1,by omega,by omega,rfl,by omega⟩,fun s _ hI=>?_⟩
    obtain ⟨k,hk1,hk,rfl,ha⟩:=hI
    (refine gR ?_;try with_reducible exact True.intro)
    have hsz:k≤ops.length→fI ops k = (ops.getD (k - 1) (aS aZ)).2.2.1:=fun h=>by
      have:=aNC h1 (k:=k - 1) (by omega)
      rwa [Nat.sub_add_cancel hk1] at this
    (repeat' first | intro _ | (with_reducible apply And.intro))
    all_goals first | omega | skip
    all_goals first
      | (refine bj fun hh=>?_;have h5:=(sj.1 hh).2 k (by omega);rw [bY,hsz (by omega)] at h5;first | omega | (simp_all;done))
      | (refine ⟨k + 1,by omega,by omega,rfl,fun i hi1 hi=>?_⟩
         rcases Nat.lt_or_eq_of_le (Nat.le_of_lt_succ hi) with h' | rfl
         · exact ha i hi1 h'
         · rw [bY,hsz (by omega)];exact ⟨by assumption,by omega⟩)
      | (refine ⟨j + 1,by omega,rfl,nx (sj.2 ⟨by omega,fun i hi=>?_⟩)⟩
         by_cases hi1:1≤i
         · exact ha i hi1 (by omega)
         · obtain rfl:i = 0:=by omega
           rw [bY,hz0];exact ⟨by assumption,by omega⟩)
theorem qZ:Con.Holds Tryz.prog dT:=aT aY (aK aNF (aK jB (aK fC (aK aMX aU)))) aOJ fun x hx hp=>aQ0 x hx hp
end Go.Proofs.YtmfpkkbhnmkfdaaGreat
