/- PrgE: lemmas. No conditions. -/
import Derived.Test.YtpafjioccjpmfaaGreatPrgD
namespace Go.Proofs.YtpafjioccjpmfaaGreat
open Go.ChangeShapes Go.WideShapes Go.ChangeAt Go.RowKit Go.Deep
set_option linter.unusedVariables false
set_option linter.unusedSimpArgs false
def tmF (ds n mi s:Int) (i:cP):Int :=
 let F:=if ds=2∧¬ i.2<n - 1 - s then s+2 * i.2 else s+i.2
 let B:=if ds=2 then 2 * n - 1 - s+2 * i.2 else n+mi+(n - 1 - s)+i.2
 if i.1=1 then 8 * F else if i.1=2 then 8 * F+1 else if i.1=3 then 8 * F+2 else if i.1=4 then 8 * B+3 else if i.1=5 then 8 * B+4 else if i.1=6 then 8 * B+5 else if i.1=7 then 8 * B+6 else 100000
def bM5 (f:cP→Int):List cP→Bool
 | []=>true
 | i :: l=>l.all (fun j=>decide (f i<f j))&&bM5 f l
theorem bB9 {f:cP→Int}:(l:List cP)→bM5 f l=true→∀ a b (hb:b<l.length) (hab:a<b),f (l[a]'(Nat.lt_trans hab hb))<f l[b]
 | [],_,a,b,hb,_=>absurd hb (Nat.not_lt_zero _)
 | i :: l,h,a,b,hb,hab=>by
  rw[bM5,Bool.and_eq_true] at h
  obtain ⟨b',rfl⟩:∃ b',b=b'+1:=⟨b - 1,by omega⟩
  have hb':b'<l.length:=by simpa using hb
  cases a with
  | zero =>
   have:=List.all_eq_true.1 h.1 l[b'] (List.getElem_mem hb')
   rw[decide_eq_true_eq] at this
   exact this
  | succ a=>exact bB9 l h.2 a b' hb' (by omega)
def Kf (ds n mi s:Int):Nat:=if ds=2 then (min mi (n - s)).toNat else mi.toNat
def bLP (ds n s mi:Int) (r:Bool):Bool :=
 aWI (decide (s=0)) (decide (s+1=n)) r mi (Kf ds n mi s) (fU ds n s mi r) []&&(decide (NX (decide (s=0)) (decide (s+1=n)) r 0 (kd (fU ds n s mi r) 0))&&bM5 (tmF ds n mi s) (fU ds n s mi r))
theorem bIV:(([1,2]:List Int).all fun ds=>([1,2,3,4]:List Int).all fun n=>([0,1,2,3]:List Int).all fun s=>([1,2,3,4,5]:List Int).all fun mi=>[true,false].all fun r=>decide (n≤s) || bLP ds n s mi r)=true:=by kernel_rfl
theorem bCV {ds n s mi:Int} (r:Bool) (hd:ds=1∨ds=2) (hn:1≤n∧n≤4) (hs:0≤s∧s<n) (hm:1≤mi∧mi≤5):bLP ds n s mi r=true:=by
 have h:=bIV
 simp only[List.all_eq_true] at h
 have:=h ds (by simp;omega) n (by simp;omega) s (by simp;omega) mi (by simp;omega) r (by cases r <;> simp)
 rw[decide_eq_false (show ¬ n≤s by omega),Bool.false_or] at this
 exact this
theorem bIM {ds n mi:Int} (hd:ds=1∨ds=2) (hn:1≤n∧n≤4) (hm:1≤mi∧mi≤5) {s m:Int} (hs:0≤s∧s+1<n) (h0:0≤m∧m<mi) :
  tmF ds n mi s (3,m)<tmF ds n mi (s+1) (1,m)∧tmF ds n mi (s+1) (7,m)<tmF ds n mi s (4,m)∧(m+1<mi→tmF ds n mi (s+1) (1,m)<tmF ds n mi s (3,m+1)∧tmF ds n mi s (4,m)<tmF ds n mi (s+1) (7,m+1)):=by
 rcases hd with rfl|rfl
 ·refine ⟨?_,?_,fun h=>⟨?_,?_⟩⟩ <;> simp[tmF] <;> omega
 ·refine ⟨?_,?_,fun h=>⟨?_,?_⟩⟩ <;> simp[tmF] <;> (try split) <;> (try split) <;> omega
theorem bPP {ds n mi s t m:Int} {i:cP} (hn:1≤n∧n≤4) (hm:1≤mi∧mi≤5) (hs:0≤s∧s<n) (h1:1≤i.1∧i.1<8) (h2:0≤i.2∧i.2<mi):tmF ds n mi s i<tmF ds n mi t (8,m):=by
 have e:tmF ds n mi t (8,m)=100000:=by simp[tmF]
 rw[e]
 unfold tmF
 dsimp only
 repeat' split
 all_goals omega
def kP (c:bB) (s:Nat):List cZ:=List.drop (aY c.1 c.2.1 (s:Int)).1.toNat (List.take (aY c.1 c.2.1 (s:Int)).2.toNat c.1)
section
variable {c:bB} {b:List cB}
theorem aFV (h:cE c b=0) {s:Nat} (hs:s<(bA c b).2.1.length):bO c.1=true∧(aY c.1 c.2.1 (s:Int)).1.toNat<(aY c.1 c.2.1 (s:Int)).2.toNat∧(aY c.1 c.2.1 (s:Int)).2.toNat≤List.length c.1 ∧
  bO (kP c s)=true∧(kP c s).length=(aY c.1 c.2.1 (s:Int)).2.toNat - (aY c.1 c.2.1 (s:Int)).1.toNat∧∀ i,(aY c.1 c.2.1 (s:Int)).1.toNat+i<(aY c.1 c.2.1 (s:Int)).2.toNat→(kP c s).getD i qY=List.getD c.1 ((aY c.1 c.2.1 (s:Int)).1.toNat+i) qY:=by
 obtain ⟨a1,a2,a3,a4,a5,a6,a7,a8⟩:=iZ h
 have hn:=kN h
 have hr:=aCE a3 (show (0:Int)≤(s:Int) by omega) (show (s:Int)≤(c.2.1.length:Int) by omega)
 have h1:(aY c.1 c.2.1 (s:Int)).1.toNat<(aY c.1 c.2.1 (s:Int)).2.toNat:=by omega
 have h2:(aY c.1 c.2.1 (s:Int)).2.toNat≤List.length c.1:=by omega
 refine ⟨a1,h1,h2,aLI a1 h1 h2,?_,fun i hi=>?_⟩
 ·unfold kP;rw[List.length_drop,List.length_take];omega
 ·unfold kP
  rw[List.getD_eq_getElem?_getD,List.getD_eq_getElem?_getD,List.getElem?_drop,List.getElem?_take,if_pos hi]
theorem aJO (h:cE c b=0) {s:Nat} (hs:s<(bA c b).2.1.length):dM (kP c s)=(List.getD c.1 (aY c.1 c.2.1 (s:Int)).1.toNat qY).2.1∧cH (kP c s)=(List.getD c.1 ((aY c.1 c.2.1 (s:Int)).2.toNat - 1) qY).2.2.1:=by
 obtain ⟨h1,h2,h3,h4,h5,h6⟩:=aFV h hs
 unfold dM cH
 have e:(aY c.1 c.2.1 (s:Int)).1.toNat+((kP c s).length - 1)=(aY c.1 c.2.1 (s:Int)).2.toNat - 1:=by omega
 rw[if_pos h4,if_pos h4,h6 0 (by omega),h6 ((kP c s).length - 1) (by omega),e]
 exact ⟨rfl,rfl⟩
theorem bHV (h:cE c b=0) {s:Nat} (hs:s+1<(bA c b).2.1.length):cH (kP c s)=dM (kP c (s+1)):=by
 obtain ⟨a1,a2,a3,a4,a5,a6,a7,a8⟩:=iZ h
 have hn:=kN h
 obtain ⟨g1,g2,g3,g4,g5,g6⟩:=aFV h (s:=s) (by omega)
 obtain ⟨k1,k2,k3,k4,k5,k6⟩:=aFV h hs
 rw[(aJO h (s:=s) (by omega)).2,(aJO h hs).1]
 have e:(aY c.1 c.2.1 ((s+1:Nat):Int)).1=(aY c.1 c.2.1 (s:Int)).2:=by
  rw[mD a3 (by omega) (by omega),mD a3 (by omega) (by omega)]
  dsimp only
  rw[if_pos (by omega),if_pos (by omega),show (((s+1:Nat):Int) - 1)=(s:Int) by omega]
 rw[e] at k2 ⊢
 have hj:(aY c.1 c.2.1 (s:Int)).2.toNat<List.length c.1:=by omega
 have hM:=((bM c.1).1 a1).2.2 _ hj
 have h0:=((iO c.1 hj).1 hM).2.resolve_left (by omega)
 rw[aW hj,aW (show (aY c.1 c.2.1 (s:Int)).2.toNat - 1<List.length c.1 by omega)]
 exact h0
theorem bGQ (h:cE c b=0):dM (kP c 0)=dM c.1∧cH (kP c ((bA c b).2.1.length - 1))=cH c.1:=by
 obtain ⟨a1,a2,a3,a4,a5,a6,a7,a8⟩:=iZ h
 have hn:=kN h
 have hl:=(bM c.1).1 a1
 rw[(aJO h (s:=0) (by omega)).1,(aJO h (s:=(bA c b).2.1.length - 1) (by omega)).2]
 rw[mD a3 (by omega) (by omega),mD a3 (by omega) (by omega)]
 dsimp only
 rw[if_neg (by omega),if_neg (by omega)]
 unfold dM cH
 rw[if_pos a1,if_pos a1,Int.toNat_natCast]
 exact ⟨rfl,rfl⟩
theorem lP (h:cE c b=0):PSt (bA c b) (bA c b).2.1.length (kP c) (fun s=>c.2.2.2.1.getD s false) (fun s=>c.2.2.2.2.1.getD s 0) (fun s=>Kf c.2.2.1 (bC c.1 c.2.1) (b.length:Int) (s:Int)):=by
 obtain ⟨a1,a2,a3,a4,a5,a6,a7,a8⟩:=iZ h
 have hn:=kN h
 have hb:=(nC _ _).1 a2
 have eb:(bA c b).1=b:=by rw[← qW h]
 have hl:=pG h
 refine ⟨rfl,hl.1,hl.2,by rw[eb];exact hb.2.1.1,by rw[eb];exact hb.2.1.2,bM3 h,fun s hs=>?_,fun s hs=>bHV h hs,fun i hi=>?_,fun s hs=>?_⟩
 ·have hc:=bCV (c.2.2.2.1.getD s false) (bAT h) ⟨by omega,a5⟩ (s:=(s:Int)) ⟨by omega,by omega⟩ (mi:=(b.length:Int)) ⟨by omega,by omega⟩
  unfold bLP at hc
  rw[Bool.and_eq_true,Bool.and_eq_true,decide_eq_true_eq] at hc
  rw[(nT h hs).1,eb]
  have e1:decide ((s:Int)=0)=decide (s=0):=by rw[decide_eq_decide];omega
  have e2:decide ((s:Int)+1=bC c.1 c.2.1)=decide (s+1=(bA c b).2.1.length):=by rw[decide_eq_decide];omega
  rw[e1,e2] at hc
  exact bO4 hc.1 hc.2.1
 ·rw[eb] at hi ⊢
  obtain ⟨e1,e2⟩:=bGQ h
  rw[e1,e2,aW hi]
  have:=List.all_eq_true.1 hb.2.2 _ (List.getElem_mem hi)
  unfold gG at this
  rw[Bool.and_eq_true] at this
  exact this
 ·have hcl:=aF5 a7
  unfold oM at a7
  rw[Bool.and_eq_true] at a7
  have hs2:s<List.length c.2.2.2.2.1:=by omega
  have:=List.all_eq_true.1 a7.2 _ (List.getElem_mem hs2)
  rw[decide_eq_true_eq] at this
  show 1≤List.getD c.2.2.2.2.1 s 0∧List.getD c.2.2.2.2.1 s 0≤5
  rw[aW hs2];exact this
theorem aJR (h : cE c b = 0) : PTm (bA c b) (bA c b).2.1.length (fun s => tmF c.2.2.1 (bC c.1 c.2.1) (b.length : Int) (s : Int)) := by
  obtain ⟨a1, a2, a3, a4, a5, a6, a7, a8⟩ := iZ h
  have hn := kN h
  have hb := ((nC _ _).1 a2).2.1
  have eb : (bA c b).1 = b := by rw [← qW h]
  have hd := bAT h
  have D : ∀ s, s < (bA c b).2.1.length → (0 < s → oV 1 (gE (bA c b) s) = lI (b.length : Int)) ∧ (s + 1 < (bA c b).2.1.length → oV 3 (gE (bA c b) s) = lI (b.length : Int)) ∧ (s + 1 < (bA c b).2.1.length → oV 4 (gE (bA c b) s) = lI (b.length : Int)) ∧
      (0 < s → oV 7 (gE (bA c b) s) = lI (b.length : Int)) := fun s hs => by
    have h1 := bK9 (c.2.2.2.1.getD s false) hd (n := bC c.1 c.2.1) ⟨by omega, a5⟩ (s := (s : Int)) ⟨by omega, by omega⟩ (mi := (b.length : Int)) ⟨by omega, by omega⟩
    unfold bJI at h1
    rw [(nT h hs).1]
    simp only [Bool.and_eq_true, Bool.or_eq_true, decide_eq_true_eq] at h1
    obtain ⟨q1, q2, q3, q4, q5, q6, q7, q8⟩ := h1
    exact ⟨fun h0 => q1.resolve_left (by omega), fun h0 => q2.resolve_left (by omega), fun h0 => q3.resolve_left (by omega), fun h0 => q4.resolve_left (by omega)⟩
  have X := fun (s : Nat) (hs : s + 1 < (bA c b).2.1.length) (m : Int) (h0 : 0 ≤ m) (h1 : m < (b.length : Int)) => bIM hd (n := bC c.1 c.2.1) ⟨by omega, a5⟩ (mi := (b.length : Int)) ⟨by omega, by omega⟩ (s := (s : Int)) (m := m) ⟨by omega, by omega⟩ ⟨h0, h1⟩
  have es : ∀ s : Nat, ((s + 1 : Nat) : Int) = (s : Int) + 1 := fun s => by omega
  exact { inc := fun s hs a b' hb' hab => by
            have hc := bCV (c.2.2.2.1.getD s false) hd (n := bC c.1 c.2.1) ⟨by omega, a5⟩ (s := (s : Int)) ⟨by omega, by omega⟩ (mi := (b.length : Int)) ⟨by omega, by omega⟩
            unfold bLP at hc
            rw [Bool.and_eq_true, Bool.and_eq_true] at hc
            exact bB9 _ (by rw [(nT h hs).1]; exact hc.2.2) a b' hb' hab
          x1 := fun s hs m h0 h1 => by rw [eb] at h1; rw [es]; exact (X s hs m h0 h1).1
          x3 := fun s hs m h0 h1 => by rw [eb] at h1; rw [es]; exact ((X s hs m h0 (by omega)).2.2 h1).1
          x4 := fun s hs m h0 h1 => by rw [eb] at h1; rw [es]; exact (X s hs m h0 h1).2.1
          x7 := fun s hs m h0 h1 => by rw [eb] at h1; rw [es]; exact ((X s hs m h0 (by omega)).2.2 h1).2
          x8 := fun s t hs ht i h1 h2 m => bPP ⟨by omega, a5⟩ ⟨by omega, by omega⟩ ⟨by omega, by omega⟩ h1 (by rw [eb] at h2; exact h2)
          o1 := fun s hs => by rw [eb]; exact (D (s + 1) hs).1 (by omega)
          o3 := fun s hs => by rw [eb]; exact (D s (by omega)).2.1 hs
          o4 := fun s hs => by rw [eb]; exact (D s (by omega)).2.2.1 hs
          o7 := fun s hs => by rw [eb]; exact (D (s + 1) hs).2.2.2 (by omega) }
theorem bJG (m:List cZ):aHL m (iQ m)=true:=by
 refine aYR.2 ⟨oF m,fun i hi=>?_⟩
 have hl:i<(iQ m).length:=by rw[oF];exact hi
 rw[aW hl,aW hi]
 have e:(iQ m)[i]'hl=List.replicate (m[i]).2.2.2.length 0:=List.getElem_map _
 rw[e,List.length_replicate]
theorem aFE (h:cE c b=0):PrI (bA c b) (bA c b).2.1.length (kP c) (fun s=>c.2.2.2.1.getD s false) (fun s=>c.2.2.2.2.1.getD s 0) (bA c b) []:=by
 obtain ⟨a1,a2,a3,a4,a5,a6,a7,a8⟩:=iZ h
 have hn:=kN h
 have hcl:=aF5 a7
 have hS:=lP h
 have q0:∀ (n:Nat) (s:Nat) (w:Int),s<n→QOk (c.2.2.2.2.1.getD s 0) w ((mp n (aFR c)).getD s (aP aM))∧((mp n (aFR c)).getD s (aP aM)).2.length=0:=fun n s w hs=>by
  rw[aG7 _ _ _ hs]
  refine ⟨⟨rfl,?_,fun x hx=>by cases hx⟩,rfl⟩
  show (0:Int)≤_
  by_cases hs2:s<List.length c.2.2.2.2.1
  ·have:1≤List.getD c.2.2.2.2.1 s 0∧List.getD c.2.2.2.2.1 s 0≤5:=hS.cp s (by omega)
   omega
  ·rw[List.getD_eq_getElem?_getD,List.getElem?_eq_none (by omega)];exact Int.le_refl _
 have eA:(bA c b).2.2.1=mp c.2.2.2.2.1.length (aFR c):=by rw[← qW h]
 have eB:(bA c b).2.2.2=mp c.2.2.2.2.1.length (aFR c):=by rw[← qW h]
 refine ⟨bD2 h,rfl,by rw[eA,fL];omega,by rw[eB,fL];omega,fun s hs=>?_,fun s hs=>?_,fun s hs=>?_⟩
 ·obtain ⟨h1,h2,h3,h4,h5,h6⟩:=aFV h hs
  obtain ⟨p1,p2⟩:=nT h hs
  have hs2:s<(bC c.1 c.2.1).toNat:=by omega
  have est:xM (bA c b) s=(0,fU c.2.2.1 (bC c.1 c.2.1) (s:Int) (b.length:Int) (c.2.2.2.1.getD s false),kP c s,((s:Int)==bC c.1 c.2.1 - 1),c.2.2.2.1.getD s false,[],[],[],[],[],[],zD (kP c s)):=by
   unfold xM
   rw[← qW h]
   dsimp only
   rw[aG7 _ _ _ hs2]
   unfold aB9 aBH
   have h4':bO (List.drop (aY c.1 c.2.1 (s:Int)).1.toNat (List.take (aY c.1 c.2.1 (s:Int)).2.toNat c.1))=true:=h4
   rw[if_pos h4',Int.toNat_natCast]
   rfl
  have hz:zD (kP c s)=(iQ (kP c s),0,false):=by unfold zD;rw[if_pos h4]
  obtain ⟨n1,n2,n3,n4,n5⟩:=(hS.plc s hs).n0
  rw[p2,show (0:Int).toNat=0 from rfl]
  rw[est,hz]
  have el:((s:Int)==bC c.1 c.2.1 - 1)=decide (s+1=(bA c b).2.1.length):=by
   rw[Bool.eq_iff_iff,beq_iff_eq,decide_eq_true_eq];omega
  refine ⟨rfl,p1.symm,rfl,el,rfl,?_,rfl,?_,?_,?_,?_,?_⟩
  ·refine (cD _).2 ⟨h4,⟨Int.le_refl _,by show (0:Int)≤_;omega⟩,bJG _,rfl,rfl,rfl,rfl,rfl⟩
  ·rw[ifP n4,if_neg (by omega)]
  ·rw[ifP n1,if_neg (by omega)]
  ·rw[ifP n2,if_neg (by omega)]
  ·rw[ifP n3,if_neg (by omega)]
  ·rw[ifP n5,if_neg (by omega)]
 ·unfold qA
  rw[eA]
  obtain ⟨x1,x2⟩:=q0 c.2.2.2.2.1.length s (cH (kP c s)) (by omega)
  exact ⟨x1,by rw[x2];rfl⟩
 ·unfold qB
  rw[eB]
  obtain ⟨x1,x2⟩:=q0 c.2.2.2.2.1.length s (cH (kP c s)) (by omega)
  exact ⟨x1,by rw[x2];rfl⟩
end
end Go.Proofs.YtpafjioccjpmfaaGreat
