/- Loop: lemmas. No conditions. -/
import Derived.Test.YtdeobhdbmehpgaaGreatCe
namespace Go.Proofs.YtdeobhdbmehpgaaGreat
open Go.ChangeShapes Go.WideShapes Go.ChangeAt Go.RowKit Go.Deep
noncomputable def aHC (P:Nat→Prop):Nat→Nat
 | 0=>0
 | n+1=>@ite _ (P (n+1)) (Classical.propDecidable _) (n+1) (aHC P n)
theorem aLH (P:Nat→Prop):(n:Nat)→aHC P n≤n
 | 0=>Nat.le_refl _
 | n+1=>by
  unfold aHC;split
  ·exact Nat.le_refl _
  ·exact Nat.le_succ_of_le (aLH P n)
theorem aTP (P:Nat→Prop):(n k:Nat)→k≤n→P k→k≤aHC P n
 | 0,k,h,_=>h
 | n+1,k,h,hp=>by
  unfold aHC;split
  ·exact h
  ·rename_i hn
   rcases Nat.lt_or_eq_of_le h with h'|rfl
   ·exact aTP P n k (Nat.le_of_lt_succ h') hp
   ·exact absurd hp hn
theorem aTB (P : Nat → Prop) : (n k : Nat) → k ≤ n → P k → P (aHC P n)
  | 0, k, h, hp => by have : k = 0 := by omega
                      subst this; exact hp
  | n + 1, k, h, hp => by
    unfold aHC; split
    · assumption
    · rename_i hn
      rcases Nat.lt_or_eq_of_le h with h' | rfl
      · exact aTB P n k (Nat.le_of_lt_succ h') hp
      · exact absurd hp hn
theorem aNT {α:Type} {ok:α→Prop} {s0:α} {B:(α→Prop)→(α→Nat)→α→Prop} (F:Nat→α) (G:Nat→Prop) (n:Nat) (h0:s0=F 0) (g0:G 0)
  (hs:∀ (I:α→Prop) (μ:α→Nat) (k:Nat),k≤n→G k→ok (F k)→(∀ y,k<n→G (k+1)→y=F (k+1)→I y∧μ y<μ (F k))→B I μ (F k)) :
  ∃ (I:α→Prop) (μ:α→Nat),I s0∧∀ x,ok x→I x→B I μ x:=by
 refine ⟨fun x=>∃ k,k≤n∧(x=F k∧G k),fun x=>n - aHC (fun k=>x=F k∧G k) n,⟨0,Nat.zero_le _,h0,g0⟩,fun x hok hI=>?_⟩
 obtain ⟨j,hj,hx⟩:=hI
 have e:=aTB (fun k=>x=F k∧G k) n j hj hx
 have l:=aLH (fun k=>x=F k∧G k) n
 generalize hk:aHC (fun k=>x=F k∧G k) n=k at e l
 obtain ⟨e1,e2⟩:=e
 subst e1
 refine hs _ _ k l e2 hok fun y hkn hg hy=>⟨⟨k+1,hkn,hy,hg⟩,?_⟩
 have h1:=aTP (fun k=>y=F k∧G k) n (k+1) hkn ⟨hy,hg⟩
 have h2:=aLH (fun k=>y=F k∧G k) n
 show n - aHC (fun k=>y=F k∧G k) n<n - aHC (fun k'=>F k=F k'∧G k') n
 rw[hk]
 omega
theorem jC {α:Type} {ok:α→Prop} {s0:α} {B:(α→Prop)→(α→Nat)→α→Prop} (F:Nat→α) (n:Nat) (h0:s0=F 0)
  (hs:∀ (I:α→Prop) (μ:α→Nat) (k:Nat),k≤n→ok (F k)→(∀ y,k<n→y=F (k+1)→I y∧μ y<μ (F k))→B I μ (F k)) :
  ∃ (I:α→Prop) (μ:α→Nat),I s0∧∀ x,ok x→I x→B I μ x :=
 aNT F (fun _=>True) n h0 trivial fun I μ k hk _ hok go=>hs I μ k hk hok fun y h1 h2=>go y h1 trivial h2
theorem pk1 {k:Nat}:(k:Int)+1=((k+1:Nat):Int):=by omega
end Go.Proofs.YtdeobhdbmehpgaaGreat
