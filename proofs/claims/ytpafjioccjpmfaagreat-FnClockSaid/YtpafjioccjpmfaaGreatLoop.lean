/- Loop: lemmas. No conditions. -/
import Derived.Test.YtpafjioccjpmfaaGreatCe
namespace Go.Proofs.YtpafjioccjpmfaaGreat
open Go.ChangeShapes Go.WideShapes Go.ChangeAt Go.RowKit Go.Deep
noncomputable def aLE (P:Nat→Prop):Nat→Nat
 | 0=>0
 | n+1=>@ite _ (P (n+1)) (Classical.propDecidable _) (n+1) (aLE P n)
theorem aQG (P:Nat→Prop):(n:Nat)→aLE P n≤n
 | 0=>Nat.le_refl _
 | n+1=>by
  unfold aLE;split
  ·exact Nat.le_refl _
  ·exact Nat.le_succ_of_le (aQG P n)
theorem bCF (P:Nat→Prop):(n k:Nat)→k≤n→P k→k≤aLE P n
 | 0,k,h,_=>h
 | n+1,k,h,hp=>by
  unfold aLE;split
  ·exact h
  ·rename_i hn
   rcases Nat.lt_or_eq_of_le h with h'|rfl
   ·exact bCF P n k (Nat.le_of_lt_succ h') hp
   ·exact absurd hp hn
theorem bCX (P : Nat → Prop) : (n k : Nat) → k ≤ n → P k → P (aLE P n)
  | 0, k, h, hp => by have : k = 0 := by omega
                      subst this; exact hp
  | n + 1, k, h, hp => by
    unfold aLE; split
    · assumption
    · rename_i hn
      rcases Nat.lt_or_eq_of_le h with h' | rfl
      · exact bCX P n k (Nat.le_of_lt_succ h') hp
      · exact absurd hp hn
theorem aAT {α:Type} {ok:α→Prop} {s0:α} {B:(α→Prop)→(α→Nat)→α→Prop} (F:Nat→α) (G:Nat→Prop) (n:Nat) (h0:s0=F 0) (g0:G 0)
  (hs:∀ (I:α→Prop) (μ:α→Nat) (k:Nat),k≤n→G k→ok (F k)→(∀ y,k<n→G (k+1)→y=F (k+1)→I y∧μ y<μ (F k))→B I μ (F k)) :
  ∃ (I:α→Prop) (μ:α→Nat),I s0∧∀ x,ok x→I x→B I μ x:=by
 refine ⟨fun x=>∃ k,k≤n∧(x=F k∧G k),fun x=>n - aLE (fun k=>x=F k∧G k) n,⟨0,Nat.zero_le _,h0,g0⟩,fun x hok hI=>?_⟩
 obtain ⟨j,hj,hx⟩:=hI
 have e:=bCX (fun k=>x=F k∧G k) n j hj hx
 have l:=aQG (fun k=>x=F k∧G k) n
 generalize hk:aLE (fun k=>x=F k∧G k) n=k at e l
 obtain ⟨e1,e2⟩:=e
 subst e1
 refine hs _ _ k l e2 hok fun y hkn hg hy=>⟨⟨k+1,hkn,hy,hg⟩,?_⟩
 have h1:=bCF (fun k=>y=F k∧G k) n (k+1) hkn ⟨hy,hg⟩
 have h2:=aQG (fun k=>y=F k∧G k) n
 show n - aLE (fun k=>y=F k∧G k) n<n - aLE (fun k'=>F k=F k'∧G k') n
 rw[hk]
 omega
theorem eW {α:Type} {ok:α→Prop} {s0:α} {B:(α→Prop)→(α→Nat)→α→Prop} (F:Nat→α) (n:Nat) (h0:s0=F 0)
  (hs:∀ (I:α→Prop) (μ:α→Nat) (k:Nat),k≤n→ok (F k)→(∀ y,k<n→y=F (k+1)→I y∧μ y<μ (F k))→B I μ (F k)) :
  ∃ (I:α→Prop) (μ:α→Nat),I s0∧∀ x,ok x→I x→B I μ x :=
 aAT F (fun _=>True) n h0 trivial fun I μ k hk _ hok go=>hs I μ k hk hok fun y h1 h2=>go y h1 trivial h2
theorem pk {α:Type} {k:Nat} {a b:α} (h:a=b):((k:Int)+1,a)=(((k+1:Nat):Int),b):=by subst h;exact Prod.ext (by show (k:Int)+1=((k+1:Nat):Int);omega) rfl
theorem pk1 {k:Nat}:(k:Int)+1=((k+1:Nat):Int):=by omega
end Go.Proofs.YtpafjioccjpmfaaGreat
