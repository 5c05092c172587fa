/- PrgI: lemmas. No conditions. -/
import Derived.Test.YtpafjioccjpmfaaGreatPrgH
import Derived.Test.YtpafjioccjpmfaaGreatCoreO
namespace Go.Proofs.YtpafjioccjpmfaaGreat
open Go.ChangeShapes Go.WideShapes Go.ChangeAt Go.RowKit Go.Deep
set_option linter.unusedVariables false
set_option linter.unusedSimpArgs false
theorem bD0 {f:Nat→Nat} {B:Nat}:(k:Nat)→(∀ i,i<k→f i≤B)→oG f k≤B * k
 | 0,_=>Nat.zero_le _
 | k+1,h=>by
  have h1:=bD0 k fun i hi=>h i (by omega)
  have h2:=h k (by omega)
  rw[oG,Nat.mul_succ];omega
theorem aOV {f:Nat→Nat}:(k:Nat)→oG f k=0→∀ i,i<k→f i=0
 | 0,_,i,hi=>absurd hi (Nat.not_lt_zero _)
 | k+1,h,i,hi=>by
  rw[oG] at h
  rcases Nat.lt_or_eq_of_le (Nat.le_of_lt_succ hi) with h1|rfl
  ·exact aOV k (by omega) i h1
  ·omega
def bP3 (ds n s mi:Int) (r:Bool):Bool:=decide ((msF ((fU ds n s mi r).take (if s=0 then 1 else 2))).length=1)&&decide (2≤(fU ds n s mi r).length)
theorem bJX:(([1,2]:List Int).all fun ds=>([1,2,3,4]:List Int).all fun n=>([0,1,2,3]:List Int).all fun s=>([1,2,3,4,5]:List Int).all fun mi=>[true,false].all fun r=>decide (n≤s) || bP3 ds n s mi r)=true:=by kernel_rfl
theorem bMI {ds n s mi:Int} (r:Bool) (hd:ds=1∨ds=2) (hn:1≤n∧n≤4) (hs:0≤s∧s<n) (hm:1≤mi∧mi≤5):(msF ((fU ds n s mi r).take (if s=0 then 1 else 2))).length=1∧2≤(fU ds n s mi r).length:=by
 have h:=bJX
 simp only[List.all_eq_true] at h
 have:=h ds (by simp;omega) n (by simp;omega) s (by simp;omega) mi (by simp;omega) r (by cases r <;> simp)
 rw[decide_eq_false (show ¬ n≤s by omega),Bool.false_or] at this
 unfold bP3 at this
 rw[Bool.and_eq_true,decide_eq_true_eq,decide_eq_true_eq] at this
 exact this
section
variable {P:bF} {n:Nat} {ops:Nat→List cZ} {redo:Nat→Bool} {caps:Nat→Int} {K:Nat→Nat} {tm:Nat→cP→Int}
theorem bBV (hS:PSt P n ops redo caps K) (hT:PTm P n tm) (h:PrI P n ops redo caps P []) (h0:∀ s,s<n→gP P s=0) {t:Nat} (ht:t<n):(k:Nat)→0≤gP (bQ P k) t∧gP (bQ P k) t≤(k:Int)
 | 0=>by rw[show gP (bQ P 0) t=0 from h0 t ht];exact ⟨Int.le_refl _,Int.le_refl _⟩
 | k+1=>by
  have:=bBV hS hT h h0 ht k
  rw[(aCL hS hT h k).1 t ht]
  split <;> omega
theorem aED (hS:PSt P n ops redo caps K) (hT:PTm P n tm) (h:PrI P n ops redo caps P []) (h0:∀ s,s<n→gP P s=0) {t:Nat} (ht:t<n) {j:Int} (hj:1≤j):(k:Nat)→j≤gP (bQ P k) t→∃ k',1≤k'∧k'≤k∧gP (bQ P k') t=j
 | 0,hk=>by rw[show gP (bQ P 0) t=0 from h0 t ht] at hk;omega
 | k+1,hk=>by
  by_cases h1:j≤gP (bQ P k) t
  ·obtain ⟨k',a,b,c⟩:=aED hS hT h h0 ht hj k h1
   exact ⟨k',a,by omega,c⟩
  ·have:=(aCL hS hT h k).1 t ht
   refine ⟨k+1,by omega,Nat.le_refl _,?_⟩
   by_cases hh:cC (bQ P k) (t:Int)=true
   ·rw[if_pos hh] at this;omega
   ·rw[if_neg hh] at this;omega
end
section
variable {c:bB} {b:List cB}
theorem aFN (h:cE c b=0):∀ s,s<(bA c b).2.1.length→gP (bA c b) s=0:=fun s hs=>(nT h hs).2
noncomputable def mT (c:bB) (b:List cB):Nat:=oG (fun s=>(gE (bA c b) s).length) (bA c b).2.1.length
theorem aSO (h:cE c b=0):mT c b≤240:=by
 have hl:=pG h
 have:=bD0 (f:=fun s=>(gE (bA c b) s).length) (B:=60) (bA c b).2.1.length fun i hi=>by
  rw[(nT h hi).1];exact lY _ _ _ _ _
 unfold mT
 omega
theorem aLU (h:cE c b=0):dD (bA c b)=(mT c b:Int):=by
 rw[aFF (bD2 h)]
 unfold mT
 congr 1
 refine rS _ fun i hi=>?_
 rw[aFN h i hi];rfl
theorem aRX {p:bF} {L:List tM} (hp:TrI (bA c b) p L) (hl:dD p=0) {t:Nat} (ht:t<(bA c b).2.1.length):gP p t=((gE (bA c b) t).length:Int):=by
 rw[aFF hp] at hl
 have h1:=aOV (f:=fun s=>(gE (bA c b) s).length - (gP p s).toNat) _ (by omega) t ht
 have h2:=hp.pc t ht
 omega
theorem aQ1 (h:cE c b=0):∃ m:Nat,xB c b=((m:Int),kG (bA c b) m,iU (bA c b) m,true)∧(kG (bA c b) m).length=(bA c b).2.1.length∧(iU (bA c b) m).length=(bA c b).2.1.length∧m≤mT c b∧dD (bQ (bA c b) m)=0 ∧
  ∀ t,t<(bA c b).2.1.length→(kG (bA c b) m).getD t 0=((gE (bA c b) t).length:Int)∧(gE (bA c b) t).length≤m∧(iU (bA c b) m).getD t 0≤jD c (t:Int) (b.length:Int)∧fY c (t:Int)≤(iU (bA c b) m).getD t 0:=by
 obtain ⟨a1,a2,a3,a4,a5,a6,a7,a8⟩:=iZ h
 have hn:=kN h
 have hb:=((nC _ _).1 a2).2.1
 have hS:=lP h
 have hT:=aJR h
 have hI:=aFE h
 have h0:=aFN h
 have htot:=aSO h
 obtain ⟨m,m1,m2,m3,m4,m5⟩:=aPH hS hT hI (mT c b) 0 (by show dD (bA c b)≤_;rw[aLU h];exact Int.le_refl _)
 obtain ⟨Lm,im⟩:=mS hS hI m
 refine ⟨m,?_,by rw[aBQ],by rw[wN],by omega,m3,fun t ht=>?_⟩
 ·rw[← bIG h,m5 1000 (by omega)]
  unfold aY3
  rw[decide_eq_true m3]
 ·have hpc:=aRX im.tr m3 ht
  have hM:=aQF hS hT hI ht m
  obtain ⟨w1,w2,w3,w4,w5⟩:=aPV h ht
  refine ⟨by rw[bCO hS hT hI h0 m t ht,hpc],?_,?_,?_⟩
  ·have:=bBV hS hT hI h0 ht m
   omega
  ·refine hM.2 _ (bCN c _ _) fun j h1 h2=>?_
   obtain ⟨Lj,ij⟩:=mS hS hI j
   exact aT6 h ij ht
  ·have hc:=bMI (c.2.2.2.1.getD t false) (bAT h) (n:=bC c.1 c.2.1) ⟨by omega,a5⟩ (s:=(t:Int)) ⟨by omega,by omega⟩ (mi:=(b.length:Int)) ⟨by omega,by omega⟩
   rw[← (nT h ht).1] at hc
   obtain ⟨k',k1,k2,k3⟩:=aED hS hT hI h0 ht (j:=if (t:Int)=0 then 1 else 2) (by split <;> omega) m (by rw[hpc];split <;> omega)
   obtain ⟨Lk,ik⟩:=mS hS hI k'
   have hg:=(ik.st t ht).led_ge (by
    rw[k3,show (if (t:Int)=0 then (1:Int) else 2).toNat=if (t:Int)=0 then 1 else 2 by split <;> rfl]
    omega)
   have hm1:=hM.1 k' k1 k2
   rw[w4] at hg
   omega
end
end Go.Proofs.YtpafjioccjpmfaaGreat
