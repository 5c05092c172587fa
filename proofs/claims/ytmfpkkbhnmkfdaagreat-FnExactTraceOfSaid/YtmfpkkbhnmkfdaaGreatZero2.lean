/- Zero2: trees, and what they say. -/
import Derived.Test.YtmfpkkbhnmkfdaaGreatOps2
namespace Go.Proofs.YtmfpkkbhnmkfdaaGreat
open Go.ChangeShapes Go.WideShapes Go.ChangeAt Go.RowKit Go.Deep
set_option linter.unusedVariables false
set_option linter.unusedSimpArgs false
def aFR (m:List iC) (g:List (List Int)) (i:Nat):Bool:=decide ((g.getD i []).length = (m.getD i zOp).2.2.2.length)
def aI1 (m:List iC) (g:List (List Int)):Bool:=decide (g.length = m.length) && (List.range m.length).all (aFR m g)
theorem vM (m:List iC) (g:List (List Int)):aI1 m g = true↔g.length = m.length∧∀ i,i < m.length→aFR m g i = true:=by
 unfold aI1;simp only [Bool.and_eq_true,decide_eq_true_eq,List.all_eq_true,List.mem_range]
theorem aJF (m:List iC) (g:List (List Int)) {i:Nat} (h:i < m.length) (h':i < g.length):aFR m g i = true↔g[i].length = m[i].2.2.2.length:=by
 unfold aFR
 rw [bD h,bD h',decide_eq_true_eq]
theorem aMY {m:List iC} {g:List (List Int)} {i:Nat} (h:i < m.length) (hb:¬ aFR m g i = true):aI1 m g = false:=by
 refine Bool.eq_false_iff.2 ?_
 rw [ne_eq,vM]
 exact fun hh=>hb (hh.2 i h)
noncomputable def lY:Con:=⟨255,(.pair aN aG),.bool,[.val ⟨true,aN,[]⟩,.val ⟨false,aG,[]⟩],[⟨false,.bool,[0]⟩],false,none,
 ((fun _=>True):(dA × dD)→Prop),
 ((fun x=>aI1 x.1 x.2):(dA × dD)→(Bool))⟩
def uG:T :=
 .prim (.llen 188 aB) (aQ (.pair aN aG) 1 (.vr 0)) <|
 .prim (.llen 219 aZ) (.p1 aN aG (.vr 0)) <|
 .prim (.cmp .neq .i64) (.mk2 tI tI (.vr 1) (.vr 2)) <|
 .ite (.vr 3) (
  .ret (.cb false)) (
  .prim (.llen 219 aZ) (.p1 aN aG (.vr 0)) <|
  .loop tI (.ci .i64 0) <|
   .prim (.cmp .lss .i64) (.mk2 tI tI (.vr 5) (.vr 4)) <|
   .ite (.vr 6) (
    .prim (.lidx 219 aZ) (.mk2 aN tI (.p1 aN aG (.vr 0)) (.vr 5)) <|
    .prim (.lidx 188 aB) (.mk2 aG tI (aQ (.pair aN aG) 1 (.vr 0)) (.vr 5)) <|
    .prim (.llen 3 tI) (.vr 8) <|
    .prim (.llen 3 tI) (aQ aZ 3 (.vr 7)) <|
    .prim (.cmp .neq .i64) (.mk2 tI tI (.vr 9) (.vr 10)) <|
    .ite (.vr 11) (
     .ret (.cb false)) (
     .prim (.ar .add .i64) (.mk2 tI tI (.vr 5) (.ci .i64 1)) <|
     .again 0 (.vr 12))) (
    .ret (.cb true)))
set_option maxRecDepth 100000 in
theorem aK0:bS Tryz.prog [] lY false 3000 ⟨[(2988,2005,mL 13 7 ++ [.dr 2,.dr 0,.tm 16 0])],[]⟩ = .ok uG:=by kernel_rfl
theorem aL9 (x:dA × dD) (hx:okD (.pair aN aG) x) (hp:(fun _=>True) x):uG.wp [] [⟨(.pair aN aG),x⟩] [] (fun v=>v.as .bool = (fun x=>aI1 x.1 x.2) x):=by
 obtain ⟨m,g⟩:=x
 have hm1:m.length≤9223372036854775807:=hx.1.1
 delta uG;refine eS ?_;try with_reducible exact True.intro
 (repeat' first | intro _ | (with_reducible apply And.intro))
 all_goals simp only [oL] at *
 ·exact (Bool.eq_false_iff.2 fun h=>by rw [vM] at h;omega).symm
 refine ⟨fun s=>∃ k:Nat,k≤m.length∧s = (k:Int)∧∀ i,i < k→aFR m g i = true,fun s=>m.length - (s:Int).toNat,⟨0,by omega,rfl,by omega⟩,fun s _ hI=>?_⟩
 obtain ⟨k,hk,rfl,ha⟩:=hI
 (refine gR ?_;try with_reducible exact True.intro)
 constructor
 ·intro hlt
  have hk':k < m.length:=by omega
  have hk2:k < g.length:=by omega
  rw [bD hk',bD hk2]
  have e:=aJF m g hk' hk2
  refine ⟨by omega,fun _=>⟨by omega,fun _ _ _=>⟨fun h=>(aMY hk' fun h2=>?_).symm,fun h=>⟨by omega,fun _=>⟨⟨k + 1,by omega,rfl,fun i hi=>?_⟩,by omega⟩⟩⟩⟩⟩
  ·have:=e.1 h2;omega
  ·rcases Nat.lt_or_eq_of_le (Nat.le_of_lt_succ hi) with h' | rfl
   ·exact ha i h'
   ·exact e.2 (by omega)
 ·intro hge
  have:k = m.length:=by omega
  subst this
  exact ((vM m g).2 ⟨by omega,ha⟩).symm
theorem aL8:Con.Holds Tryz.prog lY:=aT aY aU aK0 fun x hx hp=>aL9 x hx hp
end Go.Proofs.YtmfpkkbhnmkfdaaGreat
