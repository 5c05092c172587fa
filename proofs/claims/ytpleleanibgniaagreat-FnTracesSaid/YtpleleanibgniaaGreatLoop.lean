/- Loop: lemmas. No conditions. -/
import Derived.Test.YtpleleanibgniaaGreatCe
namespace Go.Proofs.YtpleleanibgniaaGreat
open Go.ChangeShapes Go.WideShapes Go.ChangeAt Go.RowKit Go.Deep
noncomputable def aI3 (P:Nat→Prop):Nat→Nat
 | 0=>0
 | n+1=>@ite _ (P (n+1)) (Classical.propDecidable _) (n+1) (aI3 P n)
theorem aMV (P:Nat→Prop):(n:Nat)→aI3 P n≤n
 | 0=>Nat.le_refl _
 | n+1=>by
  unfold aI3;split
  ·exact Nat.le_refl _
  ·exact Nat.le_succ_of_le (aMV P n)
theorem aVG (P:Nat→Prop):(n k:Nat)→k≤n→P k→k≤aI3 P n
 | 0,k,h,_=>h
 | n+1,k,h,hp=>by
  unfold aI3;split
  ·exact h
  ·rename_i hn
   rcases Nat.lt_or_eq_of_le h with h'|rfl
   ·exact aVG P n k (Nat.le_of_lt_succ h') hp
   ·exact absurd hp hn
theorem aVT (P : Nat → Prop) : (n k : Nat) → k ≤ n → P k → P (aI3 P n)
  | 0, k, h, hp => by have : k = 0 := by omega
                      subst this; exact hp
  | n + 1, k, h, hp => by
    unfold aI3; split
    · assumption
    · rename_i hn
      rcases Nat.lt_or_eq_of_le h with h' | rfl
      · exact aVT P n k (Nat.le_of_lt_succ h') hp
      · exact absurd hp hn
theorem aKD {α:Type} {ok:α→Prop} {s0:α} {B:(α→Prop)→(α→Nat)→α→Prop} (F:Nat→α) (G:Nat→Prop) (n:Nat) (h0:s0=F 0) (g0:G 0)
  (hs:∀ (I:α→Prop) (μ:α→Nat) (k:Nat),k≤n→G k→ok (F k)→(∀ y,k<n→G (k+1)→y=F (k+1)→I y∧μ y<μ (F k))→B I μ (F k)) :
  ∃ (I:α→Prop) (μ:α→Nat),I s0∧∀ x,ok x→I x→B I μ x:=by
 refine ⟨fun x=>∃ k,k≤n∧(x=F k∧G k),fun x=>n - aI3 (fun k=>x=F k∧G k) n,⟨0,Nat.zero_le _,h0,g0⟩,fun x hok hI=>?_⟩
 obtain ⟨j,hj,hx⟩:=hI
 have e:=aVT (fun k=>x=F k∧G k) n j hj hx
 have l:=aMV (fun k=>x=F k∧G k) n
 generalize hk:aI3 (fun k=>x=F k∧G k) n=k at e l
 obtain ⟨e1,e2⟩:=e
 subst e1
 refine hs _ _ k l e2 hok fun y hkn hg hy=>⟨⟨k+1,hkn,hy,hg⟩,?_⟩
 have h1:=aVG (fun k=>y=F k∧G k) n (k+1) hkn ⟨hy,hg⟩
 have h2:=aMV (fun k=>y=F k∧G k) n
 show n - aI3 (fun k=>y=F k∧G k) n<n - aI3 (fun k'=>F k=F k'∧G k') n
 rw[hk]
 omega
theorem fC {α:Type} {ok:α→Prop} {s0:α} {B:(α→Prop)→(α→Nat)→α→Prop} (F:Nat→α) (n:Nat) (h0:s0=F 0)
  (hs:∀ (I:α→Prop) (μ:α→Nat) (k:Nat),k≤n→ok (F k)→(∀ y,k<n→y=F (k+1)→I y∧μ y<μ (F k))→B I μ (F k)) :
  ∃ (I:α→Prop) (μ:α→Nat),I s0∧∀ x,ok x→I x→B I μ x :=
 aKD F (fun _=>True) n h0 trivial fun I μ k hk _ hok go=>hs I μ k hk hok fun y h1 h2=>go y h1 trivial h2
theorem pk {α:Type} {k:Nat} {a b:α} (h:a=b):((k:Int)+1,a)=(((k+1:Nat):Int),b):=by subst h;exact Prod.ext (by show (k:Int)+1=((k+1:Nat):Int);omega) rfl
theorem pk1 {k:Nat}:(k:Int)+1=((k+1:Nat):Int):=by omega
end Go.Proofs.YtpleleanibgniaaGreat
