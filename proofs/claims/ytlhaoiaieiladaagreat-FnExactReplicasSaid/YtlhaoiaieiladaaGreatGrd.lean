/- Grd: lemmas. No conditions. -/
import Derived.Test.YtlhaoiaieiladaaGreatPrgD
namespace Go.Proofs.YtlhaoiaieiladaaGreat
open Go.ChangeShapes Go.WideShapes Go.ChangeAt Go.RowKit Go.Deep
set_option linter.unusedVariables false
set_option linter.unusedSimpArgs false
def tmF (ds n mi s:Int) (i:eZ):Int :=
 let F:=if ds=2/\¬ i.2<n - 1 - s then s+2 * i.2 else s+i.2
 let B:=if ds=2 then 2 * n - 1 - s+2 * i.2 else n+mi+(n - 1 - s)+i.2
 if i.1=1 then 8 * F else if i.1=2 then 8 * F+1 else if i.1=3 then 8 * F+2 else if i.1=4 then 8 * B+3 else if i.1=5 then 8 * B+4 else if i.1=6 then 8 * B+5 else if i.1=7 then 8 * B+6 else 100000
def bYY (f:eZ->Int):List eZ->Bool
 | []=>true
 | i :: l=>l.all (fun j=>decide (f i<f j))&&bYY f l
theorem bQM {f:eZ->Int}:(l:List eZ)->bYY f l=true->∀ a b (hb:b<l.length) (hab:a<b),f (l[a]'(Nat.lt_trans hab hb))<f l[b]
 | [],_,a,b,hb,_=>absurd hb (Nat.not_lt_zero _)
 | i :: l,h,a,b,hb,hab=>by
  rw[bYY,Bool.and_eq_true] at h
  obtain ⟨b',rfl⟩:∃ b',b=b'+1:=⟨b - 1,by omega⟩
  have hb':b'<l.length:=by simpa using hb
  cases a with
  | zero =>
   have:=List.all_eq_true.1 h.1 l[b'] (List.getElem_mem hb')
   rw[decide_eq_true_eq] at this
   exact this
  | succ a=>exact bQM l h.2 a b' hb' (by omega)
def Kf (ds n mi s:Int):Nat:=if ds=2 then (min mi (n - s)).toNat else mi.toNat
def bYU (ds n s mi:Int) (r:Bool):Bool :=
 bIZ (decide (s=0)) (decide (s+1=n)) r mi (Kf ds n mi s) (rZ ds n s mi r) []&&(decide (NX (decide (s=0)) (decide (s+1=n)) r 0 (kd (rZ ds n s mi r) 0))&&bYY (tmF ds n mi s) (rZ ds n s mi r))
theorem bST:(([1,2]:List Int).all fun ds=>([1,2,3,4]:List Int).all fun n=>([0,1,2,3]:List Int).all fun s=>([1,2,3,4,5]:List Int).all fun mi=>[true,false].all fun r=>decide (n<=s) || bYU ds n s mi r)=true:=by kernel_rfl
theorem bQP {ds n s mi:Int} (r:Bool) (hd:ds=1\/ds=2) (hn:1<=n/\n<=4) (hs:0<=s/\s<n) (hm:1<=mi/\mi<=5):bYU ds n s mi r=true:=by
 have h:=bST
 simp only[List.all_eq_true] at h
 have:=h ds (by simp;omega) n (by simp;omega) s (by simp;omega) mi (by simp;omega) r (by cases r <;> simp)
 rw[decide_eq_false (show ¬ n<=s by omega),Bool.false_or] at this
 exact this
theorem bSX {ds n mi:Int} (hd:ds=1\/ds=2) (hn:1<=n/\n<=4) (hm:1<=mi/\mi<=5) {s m:Int} (hs:0<=s/\s+1<n) (h0:0<=m/\m<mi) :
  tmF ds n mi s (3,m)<tmF ds n mi (s+1) (1,m)/\tmF ds n mi (s+1) (7,m)<tmF ds n mi s (4,m)/\(m+1<mi->tmF ds n mi (s+1) (1,m)<tmF ds n mi s (3,m+1)/\tmF ds n mi s (4,m)<tmF ds n mi (s+1) (7,m+1)):=by
 rcases hd with rfl|rfl
 ·refine ⟨?_,?_,fun h=>⟨?_,?_⟩⟩ <;> simp[tmF] <;> omega
 ·refine ⟨?_,?_,fun h=>⟨?_,?_⟩⟩ <;> simp[tmF] <;> (try split) <;> (try split) <;> omega
theorem cCY {ds n mi s t m:Int} {i:eZ} (hn:1<=n/\n<=4) (hm:1<=mi/\mi<=5) (hs:0<=s/\s<n) (h1:1<=i.1/\i.1<8) (h2:0<=i.2/\i.2<mi):tmF ds n mi s i<tmF ds n mi t (8,m):=by
 have e:tmF ds n mi t (8,m)=100000:=by simp[tmF]
 rw[e]
 unfold tmF
 dsimp only
 repeat' split
 all_goals omega
def oY (c:bB) (s:Nat):List dU:=List.drop (aZ c.1 c.2.1 (s:Int)).1.toNat (List.take (aZ c.1 c.2.1 (s:Int)).2.toNat c.1)
section
variable {c:bB} {b:List bA}
theorem wP (h:cH c b=0) {s:Nat} (hs:s<(aV c b).2.1.length):bY c.1=true/\(aZ c.1 c.2.1 (s:Int)).1.toNat<(aZ c.1 c.2.1 (s:Int)).2.toNat/\(aZ c.1 c.2.1 (s:Int)).2.toNat<=List.length c.1 /\
  bY (oY c s)=true/\(oY c s).length=(aZ c.1 c.2.1 (s:Int)).2.toNat - (aZ c.1 c.2.1 (s:Int)).1.toNat/\∀ i,(aZ c.1 c.2.1 (s:Int)).1.toNat+i<(aZ c.1 c.2.1 (s:Int)).2.toNat->(oY c s).getD i nO=List.getD c.1 ((aZ c.1 c.2.1 (s:Int)).1.toNat+i) nO:=by
 obtain ⟨a1,a2,a3,a4,a5,a6,a7,a8⟩:=pV h
 have hn:=zP h
 have hr:=aW5 a3 (show (0:Int)<=(s:Int) by omega) (show (s:Int)<=(c.2.1.length:Int) by omega)
 have h1:(aZ c.1 c.2.1 (s:Int)).1.toNat<(aZ c.1 c.2.1 (s:Int)).2.toNat:=by omega
 have h2:(aZ c.1 c.2.1 (s:Int)).2.toNat<=List.length c.1:=by omega
 refine ⟨a1,h1,h2,aXI a1 h1 h2,?_,fun i hi=>?_⟩
 ·unfold oY;rw[List.length_drop,List.length_take];omega
 ·unfold oY
  rw[List.getD_eq_getElem?_getD,List.getD_eq_getElem?_getD,List.getElem?_drop,List.getElem?_take,if_pos hi]
theorem bEV (h:cH c b=0) {s:Nat} (hs:s<(aV c b).2.1.length):jP (oY c s)=(List.getD c.1 (aZ c.1 c.2.1 (s:Int)).1.toNat nO).2.1/\eN (oY c s)=(List.getD c.1 ((aZ c.1 c.2.1 (s:Int)).2.toNat - 1) nO).2.2.1:=by
 obtain ⟨h1,h2,h3,h4,h5,h6⟩:=wP h hs
 unfold jP eN
 have e:(aZ c.1 c.2.1 (s:Int)).1.toNat+((oY c s).length - 1)=(aZ c.1 c.2.1 (s:Int)).2.toNat - 1:=by omega
 rw[if_pos h4,if_pos h4,h6 0 (by omega),h6 ((oY c s).length - 1) (by omega),e]
 exact ⟨rfl,rfl⟩
theorem bVH (h:cH c b=0) {s:Nat} (hs:s+1<(aV c b).2.1.length):eN (oY c s)=jP (oY c (s+1)):=by
 obtain ⟨a1,a2,a3,a4,a5,a6,a7,a8⟩:=pV h
 have hn:=zP h
 obtain ⟨g1,g2,g3,g4,g5,g6⟩:=wP h (s:=s) (by omega)
 obtain ⟨k1,k2,k3,k4,k5,k6⟩:=wP h hs
 rw[(bEV h (s:=s) (by omega)).2,(bEV h hs).1]
 have e:(aZ c.1 c.2.1 ((s+1:Nat):Int)).1=(aZ c.1 c.2.1 (s:Int)).2:=by
  rw[qD a3 (by omega) (by omega),qD a3 (by omega) (by omega)]
  dsimp only
  rw[if_pos (by omega),if_pos (by omega),show (((s+1:Nat):Int) - 1)=(s:Int) by omega]
 rw[e] at k2 ⊢
 have hj:(aZ c.1 c.2.1 (s:Int)).2.toNat<List.length c.1:=by omega
 have hM:=((bR c.1).1 a1).2.2 _ hj
 have h0:=((uY c.1 hj).1 hM).2.resolve_left (by omega)
 rw[aO hj,aO (show (aZ c.1 c.2.1 (s:Int)).2.toNat - 1<List.length c.1 by omega)]
 exact h0
theorem bUM (h:cH c b=0):jP (oY c 0)=jP c.1/\eN (oY c ((aV c b).2.1.length - 1))=eN c.1:=by
 obtain ⟨a1,a2,a3,a4,a5,a6,a7,a8⟩:=pV h
 have hn:=zP h
 have hl:=(bR c.1).1 a1
 rw[(bEV h (s:=0) (by omega)).1,(bEV h (s:=(aV c b).2.1.length - 1) (by omega)).2]
 rw[qD a3 (by omega) (by omega),qD a3 (by omega) (by omega)]
 dsimp only
 rw[if_neg (by omega),if_neg (by omega)]
 unfold jP eN
 rw[if_pos a1,if_pos a1,Int.toNat_natCast]
 exact ⟨rfl,rfl⟩
theorem zO (h:cH c b=0):PSt (aV c b) (aV c b).2.1.length (oY c) (fun s=>c.2.2.2.1.getD s false) (fun s=>c.2.2.2.2.1.getD s 0) (fun s=>Kf c.2.2.1 (bP c.1 c.2.1) (b.length:Int) (s:Int)):=by
 obtain ⟨a1,a2,a3,a4,a5,a6,a7,a8⟩:=pV h
 have hn:=zP h
 have hb:=(vC _ _).1 a2
 have eb:(aV c b).1=b:=by rw[<- zT h]
 have hl:=wM h
 refine ⟨rfl,hl.1,hl.2,by rw[eb];exact hb.2.1.1,by rw[eb];exact hb.2.1.2,bXX h,fun s hs=>?_,fun s hs=>bVH h hs,fun i hi=>?_,fun s hs=>?_⟩
 ·have hc:=bQP (c.2.2.2.1.getD s false) (bJ3 h) ⟨by omega,a5⟩ (s:=(s:Int)) ⟨by omega,by omega⟩ (mi:=(b.length:Int)) ⟨by omega,by omega⟩
  unfold bYU at hc
  rw[Bool.and_eq_true,Bool.and_eq_true,decide_eq_true_eq] at hc
  rw[(aB2 h hs).1,eb]
  have e1:decide ((s:Int)=0)=decide (s=0):=by rw[decide_eq_decide];omega
  have e2:decide ((s:Int)+1=bP c.1 c.2.1)=decide (s+1=(aV c b).2.1.length):=by rw[decide_eq_decide];omega
  rw[e1,e2] at hc
  exact cBF hc.1 hc.2.1
 ·rw[eb] at hi ⊢
  obtain ⟨e1,e2⟩:=bUM h
  rw[e1,e2,aO hi]
  have:=List.all_eq_true.1 hb.2.2 _ (List.getElem_mem hi)
  unfold lF at this
  rw[Bool.and_eq_true] at this
  exact this
 ·have hcl:=aHG a7
  unfold aA3 at a7
  rw[Bool.and_eq_true] at a7
  have hs2:s<List.length c.2.2.2.2.1:=by omega
  have:=List.all_eq_true.1 a7.2 _ (List.getElem_mem hs2)
  rw[decide_eq_true_eq] at this
  show 1<=List.getD c.2.2.2.2.1 s 0/\List.getD c.2.2.2.2.1 s 0<=5
  rw[aO hs2];exact this
theorem bJH (h : cH c b = 0) : PTm (aV c b) (aV c b).2.1.length (fun s => tmF c.2.2.1 (bP c.1 c.2.1) (b.length : Int) (s : Int)) := by
  obtain ⟨a1, a2, a3, a4, a5, a6, a7, a8⟩ := pV h
  have hn := zP h
  have hb := ((vC _ _).1 a2).2.1
  have eb : (aV c b).1 = b := by rw [<- zT h]
  have hd := bJ3 h
  have D : ∀ s, s < (aV c b).2.1.length -> (0 < s -> rV 1 (nM (aV c b) s) = nL (b.length : Int)) /\ (s + 1 < (aV c b).2.1.length -> rV 3 (nM (aV c b) s) = nL (b.length : Int)) /\ (s + 1 < (aV c b).2.1.length -> rV 4 (nM (aV c b) s) = nL (b.length : Int)) /\
      (0 < s -> rV 7 (nM (aV c b) s) = nL (b.length : Int)) := fun s hs => by
    have h1 := bWR (c.2.2.2.1.getD s false) hd (n := bP c.1 c.2.1) ⟨by omega, a5⟩ (s := (s : Int)) ⟨by omega, by omega⟩ (mi := (b.length : Int)) ⟨by omega, by omega⟩
    unfold bWL at h1
    rw [(aB2 h hs).1]
    simp only [Bool.and_eq_true, Bool.or_eq_true, decide_eq_true_eq] at h1
    obtain ⟨q1, q2, q3, q4, q5, q6, q7, q8⟩ := h1
    exact ⟨fun h0 => q1.resolve_left (by omega), fun h0 => q2.resolve_left (by omega), fun h0 => q3.resolve_left (by omega), fun h0 => q4.resolve_left (by omega)⟩
  have X := fun (s : Nat) (hs : s + 1 < (aV c b).2.1.length) (m : Int) (h0 : 0 <= m) (h1 : m < (b.length : Int)) => bSX hd (n := bP c.1 c.2.1) ⟨by omega, a5⟩ (mi := (b.length : Int)) ⟨by omega, by omega⟩ (s := (s : Int)) (m := m) ⟨by omega, by omega⟩ ⟨h0, h1⟩
  have es : ∀ s : Nat, ((s + 1 : Nat) : Int) = (s : Int) + 1 := fun s => by omega
  exact { inc := fun s hs a b' hb' hab => by
            have hc := bQP (c.2.2.2.1.getD s false) hd (n := bP c.1 c.2.1) ⟨by omega, a5⟩ (s := (s : Int)) ⟨by omega, by omega⟩ (mi := (b.length : Int)) ⟨by omega, by omega⟩
            unfold bYU at hc
            rw [Bool.and_eq_true, Bool.and_eq_true] at hc
            exact bQM _ (by rw [(aB2 h hs).1]; exact hc.2.2) a b' hb' hab
          x1 := fun s hs m h0 h1 => by rw [eb] at h1; rw [es]; exact (X s hs m h0 h1).1
          x3 := fun s hs m h0 h1 => by rw [eb] at h1; rw [es]; exact ((X s hs m h0 (by omega)).2.2 h1).1
          x4 := fun s hs m h0 h1 => by rw [eb] at h1; rw [es]; exact (X s hs m h0 h1).2.1
          x7 := fun s hs m h0 h1 => by rw [eb] at h1; rw [es]; exact ((X s hs m h0 (by omega)).2.2 h1).2
          x8 := fun s t hs ht i h1 h2 m => cCY ⟨by omega, a5⟩ ⟨by omega, by omega⟩ ⟨by omega, by omega⟩ h1 (by rw [eb] at h2; exact h2)
          o1 := fun s hs => by rw [eb]; exact (D (s + 1) hs).1 (by omega)
          o3 := fun s hs => by rw [eb]; exact (D s (by omega)).2.1 hs
          o4 := fun s hs => by rw [eb]; exact (D s (by omega)).2.2.1 hs
          o7 := fun s hs => by rw [eb]; exact (D (s + 1) hs).2.2.2 (by omega) }
theorem bTR (m:List dU):aIM m (kJ m)=true:=by
 refine bMX.2 ⟨rE m,fun i hi=>?_⟩
 have hl:i<(kJ m).length:=by rw[rE];exact hi
 rw[aO hl,aO hi]
 have e:(kJ m)[i]'hl=List.replicate (m[i]).2.2.2.length 0:=List.getElem_map _
 rw[e,List.length_replicate]
theorem aGZ (h:cH c b=0):PrI (aV c b) (aV c b).2.1.length (oY c) (fun s=>c.2.2.2.1.getD s false) (fun s=>c.2.2.2.2.1.getD s 0) (aV c b) []:=by
 obtain ⟨a1,a2,a3,a4,a5,a6,a7,a8⟩:=pV h
 have hn:=zP h
 have hcl:=aHG a7
 have hS:=zO h
 have q0:∀ (n:Nat) (s:Nat) (w:Int),s<n->QOk (c.2.2.2.2.1.getD s 0) w ((mp n (aCF c)).getD s (aK aI))/\((mp n (aCF c)).getD s (aK aI)).2.length=0:=fun n s w hs=>by
  rw[tJ _ _ _ hs]
  refine ⟨⟨rfl,?_,fun x hx=>by cases hx⟩,rfl⟩
  show (0:Int)<=_
  by_cases hs2:s<List.length c.2.2.2.2.1
  ·have:1<=List.getD c.2.2.2.2.1 s 0/\List.getD c.2.2.2.2.1 s 0<=5:=hS.cp s (by omega)
   omega
  ·rw[List.getD_eq_getElem?_getD,List.getElem?_eq_none (by omega)];exact Int.le_refl _
 have eA:(aV c b).2.2.1=mp c.2.2.2.2.1.length (aCF c):=by rw[<- zT h]
 have eB:(aV c b).2.2.2=mp c.2.2.2.2.1.length (aCF c):=by rw[<- zT h]
 refine ⟨bOF h,rfl,by rw[eA,eX];omega,by rw[eB,eX];omega,fun s hs=>?_,fun s hs=>?_,fun s hs=>?_⟩
 ·obtain ⟨h1,h2,h3,h4,h5,h6⟩:=wP h hs
  obtain ⟨p1,p2⟩:=aB2 h hs
  have hs2:s<(bP c.1 c.2.1).toNat:=by omega
  have est:sY (aV c b) s=(0,rZ c.2.2.1 (bP c.1 c.2.1) (s:Int) (b.length:Int) (c.2.2.2.1.getD s false),oY c s,((s:Int)==bP c.1 c.2.1 - 1),c.2.2.2.1.getD s false,[],[],[],[],[],[],yQ (oY c s)):=by
   unfold sY
   rw[<- zT h]
   dsimp only
   rw[tJ _ _ _ hs2]
   unfold aDX aIZ
   have h4':bY (List.drop (aZ c.1 c.2.1 (s:Int)).1.toNat (List.take (aZ c.1 c.2.1 (s:Int)).2.toNat c.1))=true:=h4
   rw[if_pos h4',Int.toNat_natCast]
   rfl
  have hz:yQ (oY c s)=(kJ (oY c s),0,false):=by unfold yQ;rw[if_pos h4]
  obtain ⟨n1,n2,n3,n4,n5⟩:=(hS.plc s hs).n0
  rw[p2,show (0:Int).toNat=0 from rfl]
  rw[est,hz]
  have el:((s:Int)==bP c.1 c.2.1 - 1)=decide (s+1=(aV c b).2.1.length):=by
   rw[Bool.eq_iff_iff,beq_iff_eq,decide_eq_true_eq];omega
  refine ⟨rfl,p1.symm,rfl,el,rfl,?_,rfl,?_,?_,?_,?_,?_⟩
  ·refine (dB _).2 ⟨h4,⟨Int.le_refl _,by show (0:Int)<=_;omega⟩,bTR _,rfl,rfl,rfl,rfl,rfl⟩
  ·rw[ifP n4,if_neg (by omega)]
  ·rw[ifP n1,if_neg (by omega)]
  ·rw[ifP n2,if_neg (by omega)]
  ·rw[ifP n3,if_neg (by omega)]
  ·rw[ifP n5,if_neg (by omega)]
 ·unfold qA
  rw[eA]
  obtain ⟨x1,x2⟩:=q0 c.2.2.2.2.1.length s (eN (oY c s)) (by omega)
  exact ⟨x1,by rw[x2];rfl⟩
 ·unfold qB
  rw[eB]
  obtain ⟨x1,x2⟩:=q0 c.2.2.2.2.1.length s (eN (oY c s)) (by omega)
  exact ⟨x1,by rw[x2];rfl⟩
end
theorem aMA {f g:Nat->Nat}:(k:Nat)->(∀ i,i<k->f i=g i)->aJM f k=aJM g k
 | 0,_=>rfl
 | k+1,h=>by rw[aJM,aJM,aMA k (fun i hi=>h i (by omega)),h k (by omega)]
theorem bJ9 {f g:Nat->Nat} {σ:Nat}:(k:Nat)->σ<k->g σ=f σ+1->(∀ i,i<k->¬ i=σ->g i=f i)->aJM g k=aJM f k+1
 | 0,h,_,_=>absurd h (Nat.not_lt_zero _)
 | k+1,h,h1,h2=>by
  rw[aJM,aJM]
  rcases Nat.lt_or_eq_of_le (Nat.le_of_lt_succ h) with h3|rfl
  ·rw[bJ9 k h3 h1 (fun i hi hn=>h2 i (by omega) hn),h2 k (by omega) (by omega)];omega
  ·rw[aMA σ (fun i hi=>h2 i (by omega) (by omega)),h1];omega
section
variable {P p:bI} {n:Nat} {ops:Nat->List dU} {redo:Nat->Bool} {caps:Nat->Int} {K:Nat->Nat} {L:List aGK} {tm:Nat->eZ->Int}
theorem TrI.pcs (h:TrI P p L) {σ:Nat} (he:gS p (σ:Int)=true) (t:Nat):rC (fH p (σ:Int)) t=if σ=t then rC p σ+1 else rC p t:=by
 obtain ⟨σ',e,hσ,hc,hi,estN,eB,eA,eR,eSt,mo⟩:=h.on he
 have:σ'=σ:=by omega
 subst this
 show (sY (fH p (σ':Int)) t).1=_
 rw[estN]
 by_cases ht:σ'=t
 ·rw[if_pos ht,if_pos ht]
  show (cZ p (σ':Int)).1+1=_
  rw[aT5,eSt];rfl
 ·rw[if_neg ht,if_neg ht];rfl
theorem aKX {s:Int} (he:gS p s=false):fH p s=p:=by unfold fH;rw[if_neg (by rw[he];simp)]
theorem aR7 (h:TrI P p L):mL p=((aJM (fun s=>(nM P s).length - (rC p s).toNat) P.2.1.length:Nat):Int):=by
 unfold mL
 have e1:(p.2.1.map wV).sum=aJM (fun i=>wV (p.2.1.getD i (aK aC))) p.2.1.length:=by
  rw[<- bL4 wV p.2.1 (aK aC) p.2.1.length (Nat.le_refl _),List.take_length]
 rw[e1,h.ln]
 congr 1
 refine aMA _ fun i hi=>?_
 show (nM p i).length - (rC p i).toNat=_
 rw[h.pl]
theorem bFR (hS:PSt P n ops redo caps K) (h:PrI P n ops redo caps p L) {σ:Nat} (he:gS p (σ:Int)=true):mL (fH p (σ:Int))+1=mL p:=by
 obtain ⟨σ',e,hσ,hc,hi,estN,eB,eA,eR,eSt,mo⟩:=h.tr.on he
 have:σ'=σ:=by omega
 subst this
 have h2:=(h.step hS (σ':Int)).tr
 rw[aR7 h.tr,aR7 h2]
 have hz:=(h.tr.pc σ' hσ).1
 have:=bJ9 (f:=fun s=>(nM P s).length - (rC (fH p (σ':Int)) s).toNat) (g:=fun s=>(nM P s).length - (rC p s).toNat) (σ:=σ') P.2.1.length hσ (by
  try dsimp only
  rw[h.tr.pcs he,if_pos rfl];omega) (fun i hi hn=>by
  try dsimp only
  rw[h.tr.pcs he,if_neg (fun hh=>hn hh.symm)])
 omega
theorem bZ4 (hS:PSt P n ops redo caps K) (h:PrI P n ops redo caps p L) (s:Int):mL (fH p s)<=mL p:=by
 cases he:gS p s with
 | false=>rw[aKX he];exact Int.le_refl _
 | true =>
  obtain ⟨f1,f2,f3⟩:=wT he
  obtain ⟨σ,rfl⟩:∃ σ:Nat,s=(σ:Int):=⟨s.toNat,by omega⟩
  have:=bFR hS h he
  omega
theorem bB6 (hS:PSt P n ops redo caps K):(l:List Int)->{p:bI}->{L:List aGK}->PrI P n ops redo caps p L->mL (nY p l)<=mL p
 | [],p,L,h=>Int.le_refl _
 | s :: l,p,L,h=>Int.le_trans (bB6 hS l (h.step hS s)) (bZ4 hS h s)
theorem bOY (hS:PSt P n ops redo caps K) {s:Nat}:(l:List Int)->{p:bI}->{L:List aGK}->PrI P n ops redo caps p L->(s:Int)∈l->gS p (s:Int)=true->mL (nY p l)<mL p
 | [],p,L,h,hm,_=>by cases hm
 | t :: l,p,L,h,hm,he=>by
  have h1:=bB6 hS l (h.step hS t)
  cases ht:gS p t with
  | true =>
   obtain ⟨f1,f2,f3⟩:=wT ht
   obtain ⟨σ,rfl⟩:∃ σ:Nat,t=(σ:Int):=⟨t.toNat,by omega⟩
   have:=bFR hS h ht
   show mL (nY (fH p (σ:Int)) l)<mL p
   omega
  | false =>
   have hne:¬ (s:Int)=t:=fun e=>by rw[<- e,he] at ht;cases ht
   have hm2:(s:Int)∈l:=(List.mem_cons.1 hm).resolve_left hne
   have h2:=h.step hS t
   rw[aKX ht] at h2
   show mL (nY (fH p t) l)<mL p
   rw[aKX ht]
   exact bOY hS l h2 hm2 he
end
theorem aW1 (p:bI):0<=mL p:=(bXO p).1
theorem bOH {f:Nat->Nat} {B:Nat}:(k:Nat)->(∀ i,i<k->f i<=B)->aJM f k<=B * k
 | 0,_=>Nat.zero_le _
 | k+1,h=>by
  have h1:=bOH k fun i hi=>h i (by omega)
  have h2:=h k (by omega)
  rw[aJM,Nat.mul_succ];omega
theorem bCB {f:Nat->Nat}:(k:Nat)->aJM f k=0->∀ i,i<k->f i=0
 | 0,_,i,hi=>absurd hi (Nat.not_lt_zero _)
 | k+1,h,i,hi=>by
  rw[aJM] at h
  rcases Nat.lt_or_eq_of_le (Nat.le_of_lt_succ hi) with h1|rfl
  ·exact bCB k (by omega) i h1
  ·omega
section
variable {c:bB} {b:List bA}
theorem bU5 (h:cH c b=0):∀ s,s<(aV c b).2.1.length->rC (aV c b) s=0:=fun s hs=>(aB2 h hs).2
noncomputable def aGR (c:bB) (b:List bA):Nat:=aJM (fun s=>(nM (aV c b) s).length) (aV c b).2.1.length
theorem bH8 (h:cH c b=0):aGR c b<=240:=by
 have hl:=wM h
 have:=bOH (f:=fun s=>(nM (aV c b) s).length) (B:=60) (aV c b).2.1.length fun i hi=>by
  rw[(aB2 h hi).1];exact aMO _ _ _ _ _
 unfold aGR
 omega
theorem bWY (h:cH c b=0):mL (aV c b)=(aGR c b:Int):=by
 rw[aR7 (bOF h)]
 unfold aGR
 congr 1
 refine aMA _ fun i hi=>?_
 rw[bU5 h i hi];rfl
theorem bZO {p:bI} {L:List aGK} (hp:TrI (aV c b) p L) (hl:mL p=0) {t:Nat} (ht:t<(aV c b).2.1.length):rC p t=((nM (aV c b) t).length:Int):=by
 rw[aR7 hp] at hl
 have h1:=bCB (f:=fun s=>(nM (aV c b) s).length - (rC p s).toNat) _ (by omega) t ht
 have h2:=hp.pc t ht
 omega
end
def zY (r N:Nat):List Int:=(List.range N).map fun i=>(((i % r:Nat)):Int)
theorem bPS (r k:Nat):(zY r k).length=k:=by unfold zY;simp
theorem bQO {r k:Nat}:zY r (k+1)=zY r k++[((k % r:Nat):Int)]:=by
 unfold zY;rw[List.range_succ,List.map_append];rfl
theorem aVW (r a b:Nat):zY r (a+b)=zY r a++(List.range b).map fun i=>(((a+i) % r:Nat):Int):=by
 unfold zY;rw[List.range_add,List.map_append,List.map_map];rfl
theorem bJK {r k:Nat} (hr:0<r):zY r (r * (k+1))=zY r (r * k)++zY r r:=by
 rw[Nat.mul_succ,aVW]
 congr 1
 unfold zY
 refine List.map_congr_left fun i hi=>?_
 show (((r * k+i) % r:Nat):Int)=((i % r:Nat):Int)
 rw[Nat.mul_add_mod]
noncomputable def xS (p:bI):Nat->dV
 | 0=>([],0,false)
 | k+1=>((xS p k).1++(sY p k).2.2.2.2.2.2.2.2.2.2.2.1,(sY p k).2.2.2.2.2.2.2.2.2.2.2.2.1,(xS p k).2.2 || (sY p k).2.2.2.2.2.2.2.2.2.2.2.2.2)
noncomputable def aP9 (p:bI):dV:=if aLH p=true then xS p p.2.1.length else ([],0,false)
noncomputable def bNP (p:bI) (n:Int):bI:=if 0<p.2.1.length then nY p (zY p.2.1.length (min n.toNat 2000)) else p
noncomputable def zX (c:bB) (b:List bA):bI:=nY (aV c b) (zY (aV c b).2.1.length ((aV c b).2.1.length * aGR c b))
noncomputable def jG (c:bB) (b:List bA):dV × Int:=if cH c b=0 then (aP9 (zX c b),0) else (([],0,false),cH c b)
section
variable {c:bB} {b:List bA}
abbrev PrC (c:bB) (b:List bA) (p:bI) (L:List aGK):Prop:=PrI (aV c b) (aV c b).2.1.length (oY c) (fun s=>c.2.2.2.1.getD s false) (fun s=>c.2.2.2.2.1.getD s 0) p L
theorem bEZ (h:cH c b=0) {r:Nat} (hr:r=(aV c b).2.1.length):(k:Nat)->mL (nY (aV c b) (zY r (r * k)))<=max 0 ((aGR c b:Int) - (k:Int))
 | 0=>by
  have:=bWY h
  show mL (aV c b)<=_
  omega
 | k+1=>by
  have hS:=zO h
  have hT:=bJH h
  have hI:=aGZ h
  have hl:=wM h
  have ih:=bEZ h hr k
  have hk:=hI.run hS (zY r (r * k))
  rw[bJK (show 0<r by omega),aDM]
  have h0:=aW1 (nY (aV c b) (zY r (r * k)))
  by_cases hz:mL (nY (aV c b) (zY r (r * k)))=0
  ·have:=bB6 hS (zY r r) hk
   omega
  ·obtain ⟨s,hs,he⟩:=prog hS hT hk (by omega)
   have:=bOY hS (zY r r) hk (s:=s) (by
    unfold zY
    refine List.mem_map.2 ⟨s,List.mem_range.2 (by omega),?_⟩
    rw[Nat.mod_eq_of_lt (by omega)]) he
   omega
theorem aMX (h:cH c b=0):(l:List Int)->{p:bI}->{L:List aGK}->PrC c b p L->mL p=0->nY p l=p
 | [],p,L,hp,hl=>rfl
 | s :: l,p,L,hp,hl=>by
  have he:gS p s=false:=by
   cases he:gS p s with
   | false=>rfl
   | true =>
    obtain ⟨f1,f2,f3⟩:=wT he
    obtain ⟨σ,rfl⟩:∃ σ:Nat,s=(σ:Int):=⟨s.toNat,by omega⟩
    have h1:=bFR (zO h) hp he
    have h2:=aW1 (fH p (σ:Int))
    omega
  show nY (fH p s) l=p
  rw[aKX he]
  exact aMX h l hp hl
theorem aHB (h:cH c b=0):mL (zX c b)=0:=by
 have h1:=bEZ h rfl (aGR c b)
 have h2:=aW1 (zX c b)
 have h3:mL (zX c b)<=max 0 ((aGR c b:Int) - (aGR c b:Int)):=h1
 omega
theorem bV8 (h:cH c b=0) {k:Nat} (hl:mL (nY (aV c b) (zY (aV c b).2.1.length k))=0):nY (aV c b) (zY (aV c b).2.1.length k)=zX c b:=by
 have hI:=aGZ h
 have hS:=zO h
 rcases Nat.le_total k ((aV c b).2.1.length * aGR c b) with hk|hk
 ·obtain ⟨d,hd⟩:∃ d,(aV c b).2.1.length * aGR c b=k+d:=⟨_,(Nat.add_sub_cancel' hk).symm⟩
  unfold zX
  rw[hd,aVW,aDM]
  exact (aMX h _ (hI.run hS _) hl).symm
 ·obtain ⟨d,hd⟩:∃ d,k=(aV c b).2.1.length * aGR c b+d:=⟨_,(Nat.add_sub_cancel' hk).symm⟩
  rw[hd,aVW,aDM]
  exact aMX h _ (hI.run hS _) (aHB h)
theorem bXI (h:cH c b=0) {k:Nat} (hl:¬ mL (nY (aV c b) (zY (aV c b).2.1.length k))=0):k<(aV c b).2.1.length * aGR c b:=by
 refine Nat.not_le.1 fun hk=>hl ?_
 obtain ⟨d,hd⟩:∃ d,k=(aV c b).2.1.length * aGR c b+d:=⟨_,(Nat.add_sub_cancel' hk).symm⟩
 rw[hd,aVW,aDM]
 have:=aMX h ((List.range d).map fun i=>((((aV c b).2.1.length * aGR c b+i) % (aV c b).2.1.length:Nat):Int)) ((aGZ h).run (zO h) _) (aHB h)
 rw[show nY (nY (aV c b) (zY (aV c b).2.1.length ((aV c b).2.1.length * aGR c b))) _=_ from this]
 exact aHB h
end
set_option maxRecDepth 100000
theorem bG4 {w:World} {cs:List Value} {x0:Ty.D pZ} {x1:Ty.D pZ} {x2:Ty.D pZ} {x3:Ty.D aA} (h:rd bQ w cs (x0,(x1,(x2,x3)))) :
  ∃ p3 n3 q3,cs=[.int .i64 x0,.int .i64 x1,.int .i64 x2,.slice p3 n3 q3]/\(Lit.int .i64 x0).wf=true/\(Lit.int .i64 x1).wf=true/\(Lit.int .i64 x2).wf=true/\jT (Ty.n pZ) (rd pZ w) w p3 n3 q3 x3:=by
 obtain ⟨_,_,hcs,⟨rfl,w0⟩,⟨_,_,rfl,⟨rfl,w1⟩,⟨_,_,rfl,⟨rfl,w2⟩,⟨p3,n3,q3,rfl,s3⟩⟩⟩⟩:=h
 exact ⟨_,_,_,hcs,w0,w1,w2,s3⟩
set_option maxHeartbeats 1000000 in
theorem bVR (cs:Array Value) (d:bQ.D) (w:World) (h:rd bQ w cs.toList d) (hz:bC bQ d<=1048576) :
  Calls Tryz.prog 114 #[.agg cs] w (bPD bQ w d):=by
 obtain ⟨x0,⟨x1,⟨x2,x3⟩⟩⟩:=d
 obtain ⟨p3,n3,q3,hcs,w0,w1,w2,s3⟩:=bG4 h
 obtain rfl:cs = #[.int .i64 x0,.int .i64 x1,.int .i64 x2,.slice p3 n3 q3]:=mF hcs
 have z3:bC aA x3<=1048576:=by simp only[bC] at hz ⊢;omega
 clear hz hcs
 go_enter Tryz.func114,Tryz.ntmps114
 go_wp2_with fail
 refine (aAI _ _ _ x3 _ (by exact s3.below jL) (by simp only[dL] at z3;omega)).mono ?_
 rintro e w93 ⟨r3,rc3,rfl,f3,b3⟩
 obtain ⟨u3,v3⟩:=jS b3
 have y3:=b3.size
 simp only[szy] at u3 v3 y3
 have yy30:w.heap.size<w93.heap.size:=bE
 have yy31:w.heap.size+1<w93.heap.size:=bE
 have yy32:w.heap.size+1+1<w93.heap.size:=bE
 go_wp2
 refine bodyPost_ret (v:=.agg #[.int .i64 x0,.int .i64 x1,.int .i64 x2,.slice r3 (List.length x3) rc3]) (by simp[results,Tryz.results114,go_sem,u3,yy30,yy31,yy32]) rfl ⟨_,rfl,?_,?_⟩
 ·refine cU.cD0 (c1:=[_]) (c2:=[_,_,_]) (mid:=w.heap.size) ?_ ?_ bE bE
  ·exact cU.int w0 bE
  ·refine cU.cD0 (c1:=[_]) (c2:=[_,_]) (mid:=w.heap.size) ?_ ?_ bE bE
   ·exact cU.int w1 bE
   ·refine cU.cD0 (c1:=[_]) (c2:=[_]) (mid:=w.heap.size) ?_ ?_ bE bE
    ·exact cU.int w2 bE
    ·refine cU.mono (lo:=w.heap.size+1+1+1) (hi:=w93.heap.size) ?_ bE bE bE
     (repeat' first|refine cU.set1 ?_ bE _|refine cU.alloc ?_ _)
     exact f3.mono bE (Nat.le_refl _) (Nat.le_refl _)
 ·exact jL
set_option maxHeartbeats 1000000 in
theorem bS7 (p:Option Addr) (len cap:Nat) (l:List bQ.D) (w:World) (h:jT bQ.n (rd bQ w) w p len cap l) (hz:bC (.slice 98 bQ) l<=1048576) :
  Calls Tryz.prog 68 #[.slice p len cap] w (bOU 98 bQ w l):=by
 obtain rfl:=h.lens
 rw[dL] at hz
 have hlen:l.length<=1048576:=by omega
 have hmk:=aBR Tryz.prog 35 98 (.agg #[.int .i64 0,.int .i64 0,.int .i64 0,.slice none 0 0]) 48 bQ Tryz.underlying35 (by kernel_rfl) rfl l.length (by omega) (by omega)
 go_enter Tryz.func68,Tryz.ntmps68
 go_wp2
 go_loopw [4] (fun i wr=>∃ k:Nat,k<=l.length/\i = .int .i64 k/\Below w.heap.size w wr/\cU (.slice 98 bQ) w.heap.size wr.heap.size wr [.slice (some ⟨w.heap.size,0,none⟩) l.length l.length] (l.take k++List.replicate (l.length - k) (aK bQ))) (fun i _=>l.length - (intOf i).toNat)
 case atStart=>exact ⟨0,by omega,rfl,(Below.refl _ _).alloc (Nat.le_refl _) _,(cU.made w bQ _ l.length (by simp[maxLen];omega)).mono (Nat.le_refl _) (by simp) (Nat.le_refl _)⟩
 case round =>
  obtain ⟨k,hk,rfl,hb,hf⟩:=hrel
  by_cases hlt:k<l.length
  ·obtain ⟨b,off,rfl,hlb,cs,hcs,hc,hR⟩:=h.2.2.2.2 k hlt
   have hzk:=aOX (bC bQ) l k hlt
   obtain ⟨x,hx⟩:∃ x,l[k]=x:=⟨_,rfl⟩
   rw[hx] at hR hzk
   have hR0:rd bQ wr cs x:=uS (fun q hq=>hb.block q hq) _ _ _ hR
   obtain ⟨x0,⟨x1,⟨x2,x3⟩⟩⟩:=x
   obtain ⟨p3,n3,q3,rfl,w0,w1,w2,s3⟩:=bG4 hR
   have c0:wr.cell? ⟨b,off+k * 4,none⟩=some (.int .i64 x0):=(hb.cell hlb).trans (by have hh:=hc 0 (by simp);rw[show Ty.n bQ=4 from rfl] at hh;simpa using hh)
   have c1:wr.cell? ⟨b,off+k * 4+1,none⟩=some (.int .i64 x1):=(hb.cell hlb).trans (by have hh:=hc 1 (by simp);rw[show Ty.n bQ=4 from rfl] at hh;simpa using hh)
   have c2:wr.cell? ⟨b,off+k * 4+2,none⟩=some (.int .i64 x2):=(hb.cell hlb).trans (by have hh:=hc 2 (by simp);rw[show Ty.n bQ=4 from rfl] at hh;simpa using hh)
   have c3:wr.cell? ⟨b,off+k * 4+3,none⟩=some (.slice p3 n3 q3):=(hb.cell hlb).trans (by have hh:=hc 3 (by simp);rw[show Ty.n bQ=4 from rfl] at hh;simpa using hh)
   obtain ⟨b',cap',hv,_,hbl,hfz,c,hcl,hcc,_⟩:=hf.at k (by simp;omega)
   simp only[Value.slice.injEq,fL,Addr.mk.injEq,and_true] at hv
   obtain ⟨rfl,-,rfl⟩:=hv
   have HF:=Lib.hid hf;have HX:=Lib.hid hx
   have e0:wr.cell? ⟨w.heap.size,k * 4,none⟩=some (c[0]'(by rw[hcl];decide)):=by simpa [Ty.n] using hcc 0 (by rw[hcl];decide)
   have g0:wr.frozen? ⟨w.heap.size,k * 4,none⟩=false:=hfz _
   have e1:wr.cell? ⟨w.heap.size,k * 4+1,none⟩=some (c[1]'(by rw[hcl];decide)):=by simpa [Ty.n] using hcc 1 (by rw[hcl];decide)
   have g1:wr.frozen? ⟨w.heap.size,k * 4+1,none⟩=false:=hfz _
   have e2:wr.cell? ⟨w.heap.size,k * 4+2,none⟩=some (c[2]'(by rw[hcl];decide)):=by simpa [Ty.n] using hcc 2 (by rw[hcl];decide)
   have g2:wr.frozen? ⟨w.heap.size,k * 4+2,none⟩=false:=hfz _
   have e3:wr.cell? ⟨w.heap.size,k * 4+3,none⟩=some (c[3]'(by rw[hcl];decide)):=by simpa [Ty.n] using hcc 3 (by rw[hcl];decide)
   have g3:wr.frozen? ⟨w.heap.size,k * 4+3,none⟩=false:=hfz _
   clear h hc hcc hfz hf hx
   go_wp2_with fail
   refine (bVR _ (x0,(x1,(x2,x3))) _ (by exact hR0) (by omega)).mono ?_
   rintro e w1 ⟨cs1,rfl,f1,b1⟩
   have rr:=f1.rd
   obtain ⟨rp3,rn3,rq3,rhcs,rw0,rw1,rw2,rs3⟩:=bG4 rr
   obtain rfl:cs1 = #[.int .i64 x0,.int .i64 x1,.int .i64 x2,.slice rp3 rn3 rq3]:=mF rhcs
   have e0':w1.cell? ⟨w.heap.size,k * 4,none⟩=some (c[0]'(by rw[hcl];decide)):=(b1.cell hbl).trans e0
   have g0':w1.frozen? ⟨w.heap.size,k * 4,none⟩=false:=(b1.frozen hbl).trans g0
   have e1':w1.cell? ⟨w.heap.size,k * 4+1,none⟩=some (c[1]'(by rw[hcl];decide)):=(b1.cell hbl).trans e1
   have g1':w1.frozen? ⟨w.heap.size,k * 4+1,none⟩=false:=(b1.frozen hbl).trans g1
   have e2':w1.cell? ⟨w.heap.size,k * 4+2,none⟩=some (c[2]'(by rw[hcl];decide)):=(b1.cell hbl).trans e2
   have g2':w1.frozen? ⟨w.heap.size,k * 4+2,none⟩=false:=(b1.frozen hbl).trans g2
   have e3':w1.cell? ⟨w.heap.size,k * 4+3,none⟩=some (c[3]'(by rw[hcl];decide)):=(b1.cell hbl).trans e3
   have g3':w1.frozen? ⟨w.heap.size,k * 4+3,none⟩=false:=(b1.frozen hbl).trans g3
   clear e0 g0 c0 e1 g1 c1 e2 g2 c2 e3 g3 c3 rhcs
   go_wp2
   go_roundw
   case rel =>
    refine ⟨k+1,by omega,by go_num,?_,?_⟩
    ·(repeat' first|refine Below.setCell ?_ bE _);exact hb.trans (b1.mono hb.size)
    ·have h1:=(HF.out.below b1 (Nat.le_refl _)).set k (by simp;omega) hb.size b1.size (x:=l[k]) (by rw[HX.out];exact f1)
     rw[aR2 l (aK bQ) k hlt] at h1
     refine cU.mono (hi:=w1.heap.size) ?_ (Nat.le_refl _) bE (Nat.le_refl _)
     exact h1
   case measure=>simp[intOf];omega
  ·clear h
   go_wp2
   go_ret
   obtain rfl:k=l.length:=by omega
   exact ⟨_,_,rfl,by simpa using hf,hb⟩
set_option maxHeartbeats 1000000 in
theorem bHK (ca:Array Value) (d:bQ.D) (left:Int) (w:World) (ha:rd bQ w ca.toList d) (h0:0<=left) (h2:left<=9223372036854775807) :
  Calls Tryz.prog 103 #[.agg ca,.int .i64 left] w (tF (.int .i64 (szR left (bC bQ d))) w):=by
 obtain ⟨x0,⟨x1,⟨x2,x3⟩⟩⟩:=d
 obtain ⟨ap3,an3,aq3,ahcs,aw0,aw1,aw2,as3⟩:=bG4 ha
 obtain rfl:ca = #[.int .i64 x0,.int .i64 x1,.int .i64 x2,.slice ap3 an3 aq3]:=mF ahcs
 clear ahcs
 have e0:bC bQ (x0,(x1,(x2,x3)))=bC aA x3:=by first|rfl|(simp only[bC];omega)
 have hl3:bC aA x3=an3:=by rw[as3.lens];exact gY x3
 have hm3:an3<=maxLen:=Nat.le_trans as3.2.1 as3.2.2.1
 have HS:Hid (bC bQ (x0,(x1,(x2,x3)))=an3):=e0.trans (by rw[hl3])
 clear e0 hl3
 by_cases hf3:((an3:Nat):Int)<=left
 rotate_left
 ·go_enter Tryz.func103,Tryz.ntmps103
  go_wp2_with fail
  refine (aCZ _ _ _ _ _ hm3 (by omega) (by omega) (by omega)).mono ?_
  rintro e w93 ⟨rfl,b3⟩
  obtain ⟨u3,v3⟩:=jS b3
  have y3:=b3.size
  try simp only[szy] at u3 v3 y3
  have yy30:w.heap.size<w93.heap.size:=bE
  go_wp2
  go_ret
  exact ⟨iF (by (first|rw[HS.out]|skip);unfold szR;rw[if_neg (by omega)]),jL⟩
 go_enter Tryz.func103,Tryz.ntmps103
 go_wp2_with fail
 refine (sN _ _ _ _ _ hm3 (by omega) (by omega) (by omega)).mono ?_
 rintro e w93 ⟨rfl,b3⟩
 obtain ⟨u3,v3⟩:=jS b3
 have y3:=b3.size
 try simp only[szy] at u3 v3 y3
 have yy30:w.heap.size<w93.heap.size:=bE
 go_wp2
 go_ret
 exact ⟨iF (by (first|rw[HS.out]|skip);unfold szR;rw[if_pos (by omega)];try omega),jL⟩
theorem bZH (ca:Array Value) (d:bQ.D) (left:Int) (w:World) (ha:rd bQ w ca.toList d) (h0:0<=left) (h2:left<=9223372036854775807) (h:((bC bQ d:Nat):Int)<=left) :
  Calls Tryz.prog 103 #[.agg ca,.int .i64 left] w (tF (.int .i64 (left - (bC bQ d:Nat))) w):=by
 have:=bHK ca d left w ha h0 h2
 rwa [aFK h] at this
theorem bZA (ca:Array Value) (d:bQ.D) (left:Int) (w:World) (ha:rd bQ w ca.toList d) (h0:0<=left) (h2:left<=9223372036854775807) (h:¬ ((bC bQ d:Nat):Int)<=left) :
  Calls Tryz.prog 103 #[.agg ca,.int .i64 left] w (tF (.int .i64 (-1)) w):=by
 have:=bHK ca d left w ha h0 h2
 rwa [aFP h] at this
set_option maxHeartbeats 1000000 in
theorem bDA (p:Option Addr) (len cap:Nat) (l:List bQ.D) (left:Int) (w:World) (h:jT bQ.n (rd bQ w) w p len cap l) (h0:0<=left) (h2:left<=9223372036854775807) :
  Calls Tryz.prog 61 #[.slice p len cap,.int .i64 left] w (tF (.int .i64 (szR left (bC (.slice 98 bQ) l))) w):=by
 have hm:len<=maxLen:=Nat.le_trans h.2.1 h.2.2.1
 obtain rfl:=h.lens
 unfold maxLen at hm
 have HS:Hid (bC (.slice 98 bQ) l=l.length+(l.map (bC bQ)).sum):=dL _ _ _
 by_cases hc:(l.length:Int)<=left
 rotate_left
 ·have hc2:(left - l.length<0):=by omega
  clear h
  go_enter Tryz.func61,Tryz.ntmps61
  go_wp2
  go_ret
  exact ⟨iF (by (first|rw[HS.out]|skip);unfold szR;rw[if_neg (by omega)]),Below.refl _ _⟩
 go_enter Tryz.func61,Tryz.ntmps61
 go_wp2
 go_loopw [1,5] (fun q i wr=>∃ k:Nat,k<=l.length/\i = .int .i64 k/\∃ m:Int,q = .int .i64 m/\m=left - l.length - (((l.take k).map (bC bQ)).sum:Nat)/\0<=m/\Below w.heap.size w wr) (fun _ i _=>l.length - (intOf i).toNat)
 case atStart=>exact ⟨0,by omega,rfl,_,rfl,by simp,by omega,Below.refl _ _⟩
 case round =>
  obtain ⟨k,hk,rfl,m,rfl,hm1,hm2,hb⟩:=hrel
  have hmb:m<=left:=by omega
  by_cases hlt:k<l.length
  ·obtain ⟨b,off,rfl,hlb,cs,hcs,hc1,hR⟩:=h.2.2.2.2 k hlt
   have hsum:=gC (bC bQ) l k hlt
   have hsle:=rL (bC bQ) l (k+1)
   obtain ⟨x,hx⟩:∃ x,l[k]=x:=⟨_,rfl⟩
   rw[hx] at hR hsum
   have hR0:rd bQ wr cs x:=uS (fun q hq=>hb.block q hq) _ _ _ hR
   obtain ⟨z,hz⟩:∃ z,bC bQ x=z:=⟨_,rfl⟩
   obtain ⟨s0,hs0⟩:∃ z,((l.take k).map (bC bQ)).sum=z:=⟨_,rfl⟩
   obtain ⟨s1,hs1⟩:∃ z,((l.take (k+1)).map (bC bQ)).sum=z:=⟨_,rfl⟩
   obtain ⟨s2,hs2⟩:∃ z,(l.map (bC bQ)).sum=z:=⟨_,rfl⟩
   rw[hs0] at hsum hm1
   rw[hs1,hz] at hsum
   rw[hs1] at hsle
   rw[hs2] at hsle
   have HZ:=Lib.hid hz;have HR:=Lib.hid hR0;have H1:=Lib.hid hs1;have H2:=Lib.hid hs2;have HM:=Lib.hid hm1;have HU:=Lib.hid hsum;have HX:=Lib.hid hz
   obtain ⟨x0,⟨x1,⟨x2,x3⟩⟩⟩:=x
   obtain ⟨ap3,an3,aq3,rfl,aw0,aw1,aw2,as3⟩:=bG4 hR
   have c0:wr.cell? ⟨b,off+k * 4,none⟩=some (.int .i64 x0):=(hb.cell hlb).trans (by have hh:=hc1 0 (by simp);rw[show Ty.n bQ=4 from rfl] at hh;simpa using hh)
   have c1:wr.cell? ⟨b,off+k * 4+1,none⟩=some (.int .i64 x1):=(hb.cell hlb).trans (by have hh:=hc1 1 (by simp);rw[show Ty.n bQ=4 from rfl] at hh;simpa using hh)
   have c2:wr.cell? ⟨b,off+k * 4+2,none⟩=some (.int .i64 x2):=(hb.cell hlb).trans (by have hh:=hc1 2 (by simp);rw[show Ty.n bQ=4 from rfl] at hh;simpa using hh)
   have c3:wr.cell? ⟨b,off+k * 4+3,none⟩=some (.slice ap3 an3 aq3):=(hb.cell hlb).trans (by have hh:=hc1 3 (by simp);rw[show Ty.n bQ=4 from rfl] at hh;simpa using hh)
   clear h hc1 hcs hx hR0 hz hs0 hs1 hs2 hm1 hsum
   by_cases hfit:(z:Int)<=m
   ·go_wp2_with fail
    refine (bZH _ (x0,(x1,(x2,x3))) _ _ (by exact HR.out) (by omega) (by omega) (by rw[HZ.out];omega)).mono ?_
    rintro e w3 ⟨rfl,b3⟩
    rw[HZ.out]
    have hmz:¬ (m - z<0):=by omega
    go_wp2
    go_roundw
    case rel=>exact ⟨k+1,by omega,by go_num,_,rfl,by rw[H1.out];have:=HM.out;have:=HU.out;omega,by omega,hb.trans (b3.mono hb.size)⟩
    case measure=>simp[intOf];omega
   ·go_wp2_with fail
    refine (bZA _ (x0,(x1,(x2,x3))) _ _ (by exact HR.out) (by omega) (by omega) (by rw[HZ.out];omega)).mono ?_
    rintro e w3 ⟨rfl,b3⟩
    go_wp2
    go_ret
    exact ⟨iF (by rw[HS.out,H2.out];unfold szR;rw[if_neg (by have:=HM.out;have:=HU.out;omega)]),hb.trans (b3.mono hb.size)⟩
  ·clear h
   have HM:=Lib.hid hm1;clear hm1
   go_wp2
   go_ret
   obtain rfl:k=l.length:=by omega
   have hm1:=HM.out
   rw[List.take_length] at hm1
   exact ⟨iF (by (first|rw[HS.out]|skip);unfold szR;rw[if_pos (by omega)];try omega),hb⟩
theorem bW1 (p:Option Addr) (len cap:Nat) (l:List bQ.D) (left:Int) (w:World) (ha:jT bQ.n (rd bQ w) w p len cap l) (h0:0<=left) (h2:left<=9223372036854775807) (h:((bC (.slice 98 bQ) l:Nat):Int)<=left) :
  Calls Tryz.prog 61 #[.slice p len cap,.int .i64 left] w (tF (.int .i64 (left - (bC (.slice 98 bQ) l:Nat))) w):=by
 have:=bDA p len cap l left w ha h0 h2
 rwa [aFK h] at this
theorem bTD (p:Option Addr) (len cap:Nat) (l:List bQ.D) (left:Int) (w:World) (ha:jT bQ.n (rd bQ w) w p len cap l) (h0:0<=left) (h2:left<=9223372036854775807) (h:¬ ((bC (.slice 98 bQ) l:Nat):Int)<=left) :
  Calls Tryz.prog 61 #[.slice p len cap,.int .i64 left] w (tF (.int .i64 (-1)) w):=by
 have:=bDA p len cap l left w ha h0 h2
 rwa [aFP h] at this
set_option maxHeartbeats 1000000 in
theorem bX4 (ca cb:Array Value) (d:bQ.D) (w:World) (ha:rd bQ w ca.toList d) (hb:rd bQ w cb.toList d) :
  Calls Tryz.prog 133 #[.agg ca,.agg cb] w (tF (.bool true) w):=by
 obtain ⟨x0,⟨x1,⟨x2,x3⟩⟩⟩:=d
 obtain ⟨ap3,an3,aq3,ahcs,aw0,aw1,aw2,as3⟩:=bG4 ha
 obtain ⟨bp3,bn3,bq3,bhcs,bw0,bw1,bw2,bs3⟩:=bG4 hb
 obtain rfl:ca = #[.int .i64 x0,.int .i64 x1,.int .i64 x2,.slice ap3 an3 aq3]:=mF ahcs
 obtain rfl:cb = #[.int .i64 x0,.int .i64 x1,.int .i64 x2,.slice bp3 bn3 bq3]:=mF bhcs
 clear ahcs bhcs
 go_enter Tryz.func133,Tryz.ntmps133
 go_wp2_with fail
 refine (yF _ _ _ _ _ _ x3 _ (by exact as3.below jL) (by exact bs3.below jL)).mono ?_
 rintro e w93 ⟨rfl,b3⟩
 obtain ⟨u3,v3⟩:=jS b3
 have y3:=b3.size
 try simp only[szy] at u3 v3 y3
 have yy30:w.heap.size<w93.heap.size:=bE
 have yy31:w.heap.size+1<w93.heap.size:=bE
 go_wp2
 go_ret
 exact ⟨rfl,jL⟩
set_option maxHeartbeats 1000000 in
theorem bR5 (p q:Option Addr) (len cap len' cap':Nat) (l:List bQ.D) (w:World) (h:jT bQ.n (rd bQ w) w p len cap l) (h':jT bQ.n (rd bQ w) w q len' cap' l) :
  Calls Tryz.prog 76 #[.slice p len cap,.slice q len' cap'] w (tF (.bool true) w):=by
 obtain rfl:=h.lens
 obtain rfl:=h'.lens
 have hmx:l.length<=maxLen:=by have:=h.2.1;have:=h.2.2.1;omega
 unfold maxLen at hmx
 go_enter Tryz.func76,Tryz.ntmps76
 go_wp2
 go_loopw [5] (fun i wr=>∃ k:Nat,k<=l.length/\i = .int .i64 k/\Below w.heap.size w wr) (fun i _=>l.length - (intOf i).toNat)
 case atStart=>exact ⟨0,by omega,rfl,Below.refl _ _⟩
 case round =>
  obtain ⟨k,hk,rfl,hb⟩:=hrel
  by_cases hlt:k<l.length
  ·obtain ⟨b,off,rfl,hlb,cs,hcs,hc,hR⟩:=h.2.2.2.2 k hlt
   obtain ⟨b2,off2,rfl,hlb2,cs2,hcs2,hc2,hR2⟩:=h'.2.2.2.2 k hlt
   obtain ⟨x,hx⟩:∃ x,l[k]=x:=⟨_,rfl⟩
   rw[hx] at hR hR2
   have hR0:rd bQ wr.drew cs x:=uS (fun q hq=>hb.block q hq) _ _ _ hR
   have hR20:rd bQ wr.drew cs2 x:=uS (fun q hq=>hb.block q hq) _ _ _ hR2
   obtain ⟨x0,⟨x1,⟨x2,x3⟩⟩⟩:=x
   obtain ⟨ap3,an3,aq3,rfl,aw0,aw1,aw2,as3⟩:=bG4 hR
   obtain ⟨bp3,bn3,bq3,rfl,bw0,bw1,bw2,bs3⟩:=bG4 hR2
   have c0:wr.cell? ⟨b,off+k * 4,none⟩=some (.int .i64 x0):=(hb.cell hlb).trans (by have hh:=hc 0 (by simp);rw[show Ty.n bQ=4 from rfl] at hh;simpa using hh)
   have c1:wr.cell? ⟨b,off+k * 4+1,none⟩=some (.int .i64 x1):=(hb.cell hlb).trans (by have hh:=hc 1 (by simp);rw[show Ty.n bQ=4 from rfl] at hh;simpa using hh)
   have c2:wr.cell? ⟨b,off+k * 4+2,none⟩=some (.int .i64 x2):=(hb.cell hlb).trans (by have hh:=hc 2 (by simp);rw[show Ty.n bQ=4 from rfl] at hh;simpa using hh)
   have c3:wr.cell? ⟨b,off+k * 4+3,none⟩=some (.slice ap3 an3 aq3):=(hb.cell hlb).trans (by have hh:=hc 3 (by simp);rw[show Ty.n bQ=4 from rfl] at hh;simpa using hh)
   have d0:wr.cell? ⟨b2,off2+k * 4,none⟩=some (.int .i64 x0):=(hb.cell hlb2).trans (by have hh:=hc2 0 (by simp);rw[show Ty.n bQ=4 from rfl] at hh;simpa using hh)
   have d1:wr.cell? ⟨b2,off2+k * 4+1,none⟩=some (.int .i64 x1):=(hb.cell hlb2).trans (by have hh:=hc2 1 (by simp);rw[show Ty.n bQ=4 from rfl] at hh;simpa using hh)
   have d2:wr.cell? ⟨b2,off2+k * 4+2,none⟩=some (.int .i64 x2):=(hb.cell hlb2).trans (by have hh:=hc2 2 (by simp);rw[show Ty.n bQ=4 from rfl] at hh;simpa using hh)
   have d3:wr.cell? ⟨b2,off2+k * 4+3,none⟩=some (.slice bp3 bn3 bq3):=(hb.cell hlb2).trans (by have hh:=hc2 3 (by simp);rw[show Ty.n bQ=4 from rfl] at hh;simpa using hh)
   have HR:=Lib.hid hR0;have HR2:=Lib.hid hR20
   clear h h' hc hc2 hx hcs hcs2 hR0 hR20
   go_wp2
   go_still_tail 8,(by kernel_rfl)
   change wpList _ _ _ _ _ wr.drew
   have hb2:Below w.heap.size w wr.drew:=hb.drew
   generalize wr.drew=w2 at hb2 HR HR2 ⊢
   go_wp2_with fail
   refine (bX4 _ _ (x0,(x1,(x2,x3))) _ (by exact HR.out) (by exact HR2.out)).mono ?_
   rintro e w3 ⟨rfl,b3⟩
   go_wp2
   go_roundw
   case rel=>exact ⟨k+1,by omega,by go_num,hb2.trans (b3.mono hb2.size)⟩
   case measure=>simp[intOf];omega
  ·clear h h'
   go_wp2
   go_ret
   exact ⟨rfl,hb⟩
set_option maxRecDepth 100000
set_option maxHeartbeats 1000000 in
theorem bJS (cs:Array Value) (d:aB.D) (w:World) (h:rd aB w cs.toList d) (hz:bC aB d<=1048576) :
  Calls Tryz.prog 31 #[.agg cs] w (bPD aB w d):=by
 obtain ⟨x0,hx0⟩:∃ x,x=d:=⟨_,rfl⟩
 subst hx0
 obtain ⟨p0,n0,q0,hcs,s0⟩:=h
 obtain rfl:cs = #[.slice p0 n0 q0]:=mF hcs
 have z0:bC (.slice 98 bQ) x0<=1048576:=by simp only[bC] at hz ⊢;omega
 clear hz hcs
 go_enter Tryz.func31,Tryz.ntmps31
 go_wp2_with fail
 refine (bS7 _ _ _ x0 _ (by exact s0.below jL) z0).mono ?_
 rintro e w90 ⟨r0,rc0,rfl,f0,b0⟩
 obtain ⟨u0,v0⟩:=jS b0
 have y0:=b0.size
 simp only[szy] at u0 v0 y0
 have yy00:w.heap.size<w90.heap.size:=bE
 have yy01:w.heap.size+1<w90.heap.size:=bE
 have yy02:w.heap.size+1+1<w90.heap.size:=bE
 go_wp2
 refine bodyPost_ret (v:=.agg #[.slice r0 (List.length x0) rc0]) (by simp[results,Tryz.results31,go_sem,u0,yy00,yy01,yy02]) rfl ⟨_,rfl,?_,?_⟩
 ·refine cU.mono (lo:=w.heap.size+1+1+1) (hi:=w90.heap.size) ?_ bE bE bE
  (repeat' first|refine cU.set1 ?_ bE _|refine cU.alloc ?_ _)
  exact f0.mono bE (Nat.le_refl _) (Nat.le_refl _)
 ·exact jL
set_option maxHeartbeats 1000000 in
theorem aUP (ca:Array Value) (d:aB.D) (left:Int) (w:World) (ha:rd aB w ca.toList d) (h0:0<=left) (h2:left<=9223372036854775807) :
  Calls Tryz.prog 25 #[.agg ca,.int .i64 left] w (tF (.int .i64 (szR left (bC aB d))) w):=by
 obtain ⟨x0,hx0⟩:∃ y,y=d:=⟨_,rfl⟩
 subst hx0
 obtain ⟨ap0,an0,aq0,ahcs,as0⟩:=ha
 obtain rfl:ca = #[.slice ap0 an0 aq0]:=mF ahcs
 clear ahcs
 have e0:bC aB x0=bC (.slice 98 bQ) x0:=by first|rfl|(simp only[bC];omega)
 have e9:bC aB x0=bC (.slice 98 bQ) x0:=rfl
 rw[e9]
 have HS:Hid (bC aB x0=bC (.slice 98 bQ) x0):=e0.trans (by rfl)
 clear e0
 by_cases hf0:((bC (.slice 98 bQ) x0:Nat):Int)<=left
 rotate_left
 ·go_enter Tryz.func25,Tryz.ntmps25
  go_wp2_with fail
  refine (bTD _ _ _ x0 _ _ (by exact as0.below jL) (by omega) (by omega) (by omega)).mono ?_
  rintro e w90 ⟨rfl,b0⟩
  obtain ⟨u0,v0⟩:=jS b0
  have y0:=b0.size
  try simp only[szy] at u0 v0 y0
  have yy00:w.heap.size<w90.heap.size:=bE
  go_wp2
  go_ret
  exact ⟨iF (by (first|rw[HS.out]|skip);unfold szR;rw[if_neg (by omega)]),jL⟩
 go_enter Tryz.func25,Tryz.ntmps25
 go_wp2_with fail
 refine (bW1 _ _ _ x0 _ _ (by exact as0.below jL) (by omega) (by omega) (by omega)).mono ?_
 rintro e w90 ⟨rfl,b0⟩
 obtain ⟨u0,v0⟩:=jS b0
 have y0:=b0.size
 try simp only[szy] at u0 v0 y0
 have yy00:w.heap.size<w90.heap.size:=bE
 go_wp2
 go_ret
 exact ⟨iF (by (first|rw[HS.out]|skip);unfold szR;rw[if_pos (by omega)];try omega),jL⟩
theorem aE1 (ca:Array Value) (d:aB.D) (left:Int) (w:World) (ha:rd aB w ca.toList d) (h0:0<=left) (h2:left<=9223372036854775807) (h:((bC aB d:Nat):Int)<=left) :
  Calls Tryz.prog 25 #[.agg ca,.int .i64 left] w (tF (.int .i64 (left - (bC aB d:Nat))) w):=by
 have:=aUP ca d left w ha h0 h2
 rwa [aFK h] at this
theorem bO4 (ca:Array Value) (d:aB.D) (left:Int) (w:World) (ha:rd aB w ca.toList d) (h0:0<=left) (h2:left<=9223372036854775807) (h:¬ ((bC aB d:Nat):Int)<=left) :
  Calls Tryz.prog 25 #[.agg ca,.int .i64 left] w (tF (.int .i64 (-1)) w):=by
 have:=aUP ca d left w ha h0 h2
 rwa [aFP h] at this
set_option maxHeartbeats 1000000 in
theorem bHU (ca cb:Array Value) (d:aB.D) (w:World) (ha:rd aB w ca.toList d) (hb:rd aB w cb.toList d) :
  Calls Tryz.prog 38 #[.agg ca,.agg cb] w (tF (.bool true) w):=by
 obtain ⟨x0,hx0⟩:∃ y,y=d:=⟨_,rfl⟩
 subst hx0
 obtain ⟨ap0,an0,aq0,ahcs,as0⟩:=ha
 obtain ⟨bp0,bn0,bq0,bhcs,bs0⟩:=hb
 obtain rfl:ca = #[.slice ap0 an0 aq0]:=mF ahcs
 obtain rfl:cb = #[.slice bp0 bn0 bq0]:=mF bhcs
 clear ahcs bhcs
 go_enter Tryz.func38,Tryz.ntmps38
 go_wp2_with fail
 refine (bR5 _ _ _ _ _ _ x0 _ (by exact as0.below jL) (by exact bs0.below jL)).mono ?_
 rintro e w90 ⟨rfl,b0⟩
 obtain ⟨u0,v0⟩:=jS b0
 have y0:=b0.size
 try simp only[szy] at u0 v0 y0
 have yy00:w.heap.size<w90.heap.size:=bE
 have yy01:w.heap.size+1<w90.heap.size:=bE
 go_wp2
 go_ret
 exact ⟨rfl,jL⟩
set_option maxRecDepth 100000
set_option maxHeartbeats 1000000 in
theorem bRO (ca cb:Array Value) (d:eF.D) (w:World) (ha:rd eF w ca.toList d) (hb:rd eF w cb.toList d) :
  Calls Tryz.prog 132 #[.agg ca,.agg cb] w (tF (.bool true) w):=by
 obtain ⟨x0,hx0⟩:∃ y,y=d:=⟨_,rfl⟩
 subst hx0
 obtain ⟨ap0,an0,aq0,ahcs,as0⟩:=ha
 obtain ⟨bp0,bn0,bq0,bhcs,bs0⟩:=hb
 obtain rfl:ca = #[.slice ap0 an0 aq0]:=mF ahcs
 obtain rfl:cb = #[.slice bp0 bn0 bq0]:=mF bhcs
 clear ahcs bhcs
 go_enter Tryz.func132,Tryz.ntmps132
 go_wp2_with fail
 refine (yF _ _ _ _ _ _ x0 _ (by exact as0.below jL) (by exact bs0.below jL)).mono ?_
 rintro e w90 ⟨rfl,b0⟩
 obtain ⟨u0,v0⟩:=jS b0
 have y0:=b0.size
 try simp only[szy] at u0 v0 y0
 have yy00:w.heap.size<w90.heap.size:=bE
 have yy01:w.heap.size+1<w90.heap.size:=bE
 go_wp2
 go_ret
 exact ⟨rfl,jL⟩
set_option maxHeartbeats 1000000 in
theorem bM5 (p q:Option Addr) (len cap len' cap':Nat) (l:List eF.D) (w:World) (h:jT eF.n (rd eF w) w p len cap l) (h':jT eF.n (rd eF w) w q len' cap' l) :
  Calls Tryz.prog 75 #[.slice p len cap,.slice q len' cap'] w (tF (.bool true) w):=by
 obtain rfl:=h.lens
 obtain rfl:=h'.lens
 have hmx:l.length<=maxLen:=by have:=h.2.1;have:=h.2.2.1;omega
 unfold maxLen at hmx
 go_enter Tryz.func75,Tryz.ntmps75
 go_wp2
 go_loopw [5] (fun i wr=>∃ k:Nat,k<=l.length/\i = .int .i64 k/\Below w.heap.size w wr) (fun i _=>l.length - (intOf i).toNat)
 case atStart=>exact ⟨0,by omega,rfl,Below.refl _ _⟩
 case round =>
  obtain ⟨k,hk,rfl,hb⟩:=hrel
  by_cases hlt:k<l.length
  ·obtain ⟨b,off,rfl,hlb,cs,hcs,hc,hR⟩:=h.2.2.2.2 k hlt
   obtain ⟨b2,off2,rfl,hlb2,cs2,hcs2,hc2,hR2⟩:=h'.2.2.2.2 k hlt
   obtain ⟨x,hx⟩:∃ x,l[k]=x:=⟨_,rfl⟩
   rw[hx] at hR hR2
   have hR0:rd eF wr.drew cs x:=uS (fun q hq=>hb.block q hq) _ _ _ hR
   have hR20:rd eF wr.drew cs2 x:=uS (fun q hq=>hb.block q hq) _ _ _ hR2
   obtain ⟨x0,hx0⟩:∃ y,y=x:=⟨_,rfl⟩
   subst hx0
   obtain ⟨ap0,an0,aq0,rfl,as0⟩:=hR
   obtain ⟨bp0,bn0,bq0,rfl,bs0⟩:=hR2
   have c0:wr.cell? ⟨b,off+k,none⟩=some (.slice ap0 an0 aq0):=(hb.cell hlb).trans (by have hh:=hc 0 (by simp);rw[show Ty.n eF=1 from rfl] at hh;simpa using hh)
   have d0:wr.cell? ⟨b2,off2+k,none⟩=some (.slice bp0 bn0 bq0):=(hb.cell hlb2).trans (by have hh:=hc2 0 (by simp);rw[show Ty.n eF=1 from rfl] at hh;simpa using hh)
   have HR:=Lib.hid hR0;have HR2:=Lib.hid hR20
   clear h h' hc hc2 hx hcs hcs2 hR0 hR20
   go_wp2
   go_still_tail 8,(by kernel_rfl)
   change wpList _ _ _ _ _ wr.drew
   have hb2:Below w.heap.size w wr.drew:=hb.drew
   generalize wr.drew=w2 at hb2 HR HR2 ⊢
   go_wp2_with fail
   refine (bRO _ _ x0 _ (by exact HR.out) (by exact HR2.out)).mono ?_
   rintro e w3 ⟨rfl,b3⟩
   go_wp2
   go_roundw
   case rel=>exact ⟨k+1,by omega,by go_num,hb2.trans (b3.mono hb2.size)⟩
   case measure=>simp[intOf];omega
  ·clear h h'
   go_wp2
   go_ret
   exact ⟨rfl,hb⟩
set_option maxRecDepth 100000
theorem aRK {w:World} {cs:List Value} {x0:Ty.D (.slice 117 eF)} {x1:Ty.D pZ} {x2:Ty.D .bool} (h:rd aG w cs (x0,(x1,x2))) :
  ∃ p0 n0 q0,cs=[.slice p0 n0 q0,.int .i64 x1,.bool x2]/\jT (Ty.n eF) (rd eF w) w p0 n0 q0 x0/\(Lit.int .i64 x1).wf=true:=by
 obtain ⟨_,_,hcs,⟨p0,n0,q0,rfl,s0⟩,⟨_,_,rfl,⟨rfl,w1⟩,rfl⟩⟩:=h
 exact ⟨_,_,_,hcs,s0,w1⟩
set_option maxHeartbeats 1000000 in
theorem bHF (ca cb:Array Value) (d:aG.D) (w:World) (ha:rd aG w ca.toList d) (hb:rd aG w cb.toList d) :
  Calls Tryz.prog 37 #[.agg ca,.agg cb] w (tF (.bool true) w):=by
 obtain ⟨x0,⟨x1,x2⟩⟩:=d
 obtain ⟨ap0,an0,aq0,ahcs,as0,aw1⟩:=aRK ha
 obtain ⟨bp0,bn0,bq0,bhcs,bs0,bw1⟩:=aRK hb
 obtain rfl:ca = #[.slice ap0 an0 aq0,.int .i64 x1,.bool x2]:=mF ahcs
 obtain rfl:cb = #[.slice bp0 bn0 bq0,.int .i64 x1,.bool x2]:=mF bhcs
 clear ahcs bhcs
 go_enter Tryz.func37,Tryz.ntmps37
 go_wp2_with fail
 refine (bM5 _ _ _ _ _ _ x0 _ (by exact as0.below jL) (by exact bs0.below jL)).mono ?_
 rintro e w90 ⟨rfl,b0⟩
 obtain ⟨u0,v0⟩:=jS b0
 have y0:=b0.size
 try simp only[szy] at u0 v0 y0
 have yy00:w.heap.size<w90.heap.size:=bE
 have yy01:w.heap.size+1<w90.heap.size:=bE
 go_wp2
 go_ret
 exact ⟨rfl,jL⟩
set_option maxHeartbeats 1000000 in
theorem aIK (p q:Option Addr) (len cap len' cap':Nat) (l:List aG.D) (w:World) (h:jT aG.n (rd aG w) w p len cap l) (h':jT aG.n (rd aG w) w q len' cap' l) :
  Calls Tryz.prog 11 #[.slice p len cap,.slice q len' cap'] w (tF (.bool true) w):=by
 obtain rfl:=h.lens
 obtain rfl:=h'.lens
 have hmx:l.length<=maxLen:=by have:=h.2.1;have:=h.2.2.1;omega
 unfold maxLen at hmx
 go_enter Tryz.func11,Tryz.ntmps11
 go_wp2
 go_loopw [5] (fun i wr=>∃ k:Nat,k<=l.length/\i = .int .i64 k/\Below w.heap.size w wr) (fun i _=>l.length - (intOf i).toNat)
 case atStart=>exact ⟨0,by omega,rfl,Below.refl _ _⟩
 case round =>
  obtain ⟨k,hk,rfl,hb⟩:=hrel
  by_cases hlt:k<l.length
  ·obtain ⟨b,off,rfl,hlb,cs,hcs,hc,hR⟩:=h.2.2.2.2 k hlt
   obtain ⟨b2,off2,rfl,hlb2,cs2,hcs2,hc2,hR2⟩:=h'.2.2.2.2 k hlt
   obtain ⟨x,hx⟩:∃ x,l[k]=x:=⟨_,rfl⟩
   rw[hx] at hR hR2
   have hR0:rd aG wr.drew cs x:=uS (fun q hq=>hb.block q hq) _ _ _ hR
   have hR20:rd aG wr.drew cs2 x:=uS (fun q hq=>hb.block q hq) _ _ _ hR2
   obtain ⟨x0,⟨x1,x2⟩⟩:=x
   obtain ⟨ap0,an0,aq0,rfl,as0,aw1⟩:=aRK hR
   obtain ⟨bp0,bn0,bq0,rfl,bs0,bw1⟩:=aRK hR2
   have c0:wr.cell? ⟨b,off+k * 3,none⟩=some (.slice ap0 an0 aq0):=(hb.cell hlb).trans (by have hh:=hc 0 (by simp);rw[show Ty.n aG=3 from rfl] at hh;simpa using hh)
   have c1:wr.cell? ⟨b,off+k * 3+1,none⟩=some (.int .i64 x1):=(hb.cell hlb).trans (by have hh:=hc 1 (by simp);rw[show Ty.n aG=3 from rfl] at hh;simpa using hh)
   have c2:wr.cell? ⟨b,off+k * 3+2,none⟩=some (.bool x2):=(hb.cell hlb).trans (by have hh:=hc 2 (by simp);rw[show Ty.n aG=3 from rfl] at hh;simpa using hh)
   have d0:wr.cell? ⟨b2,off2+k * 3,none⟩=some (.slice bp0 bn0 bq0):=(hb.cell hlb2).trans (by have hh:=hc2 0 (by simp);rw[show Ty.n aG=3 from rfl] at hh;simpa using hh)
   have d1:wr.cell? ⟨b2,off2+k * 3+1,none⟩=some (.int .i64 x1):=(hb.cell hlb2).trans (by have hh:=hc2 1 (by simp);rw[show Ty.n aG=3 from rfl] at hh;simpa using hh)
   have d2:wr.cell? ⟨b2,off2+k * 3+2,none⟩=some (.bool x2):=(hb.cell hlb2).trans (by have hh:=hc2 2 (by simp);rw[show Ty.n aG=3 from rfl] at hh;simpa using hh)
   have HR:=Lib.hid hR0;have HR2:=Lib.hid hR20
   clear h h' hc hc2 hx hcs hcs2 hR0 hR20
   go_wp2
   go_still_tail 8,(by kernel_rfl)
   change wpList _ _ _ _ _ wr.drew
   have hb2:Below w.heap.size w wr.drew:=hb.drew
   generalize wr.drew=w2 at hb2 HR HR2 ⊢
   go_wp2_with fail
   refine (bHF _ _ (x0,(x1,x2)) _ (by exact HR.out) (by exact HR2.out)).mono ?_
   rintro e w3 ⟨rfl,b3⟩
   go_wp2
   go_roundw
   case rel=>exact ⟨k+1,by omega,by go_num,hb2.trans (b3.mono hb2.size)⟩
   case measure=>simp[intOf];omega
  ·clear h h'
   go_wp2
   go_ret
   exact ⟨rfl,hb⟩
def aS0:Ty->List Bool->Ty
 | .cD0 a _,false :: π=>aS0 a π
 | .cD0 _ b,true :: π=>aS0 b π
 | t,_=>t
def bUE:(t:Ty)->(π:List Bool)->t.D->(aS0 t π).D
 | .cD0 a _,false :: π,x=>bUE a π x.1
 | .cD0 _ b,true :: π,x=>bUE b π x.2
 | .cD0 _ _,[],x=>x
 | .int _,_,x=>x
 | .bool,_,x=>x
 | .str,_,x=>x
 | .slice _ _,_,x=>x
def aVI:(t:Ty)->(π:List Bool)->t.D->(aS0 t π).D->t.D
 | .cD0 a _,false :: π,x,v=>(aVI a π x.1 v,x.2)
 | .cD0 _ b,true :: π,x,v=>(x.1,aVI b π x.2 v)
 | .cD0 _ _,[],_,v=>v
 | .int _,_,_,v=>v
 | .bool,_,_,v=>v
 | .str,_,_,v=>v
 | .slice _ _,_,_,v=>v
def aXW:Ty->List Bool->Nat
 | .cD0 a _,false :: π=>aXW a π
 | .cD0 a b,true :: π=>a.n+aXW b π
 | _,_=>0
def cCF (t:Ty) (π:List Bool) (w:World) (c:List Value) (d:t.D) (bl:List Nat):Prop :=
 ∃ c1 cu c2 b1 bu b2,c=c1++(cu++c2)/\c1.length=aXW t π/\bl=b1++(bu++b2)/\Un (aS0 t π) w cu (bUE t π d) bu /\
  ∀ w' cu' v',(∀ q,q∈b1\/q∈b2->w'.heap[q]?=w.heap[q]?)->Un (aS0 t π) w' cu' v' bu->Un t w' (c1++(cu'++c2)) (aVI t π d v') bl
theorem aWB:(t:Ty)->(π:List Bool)->(w:World)->(c:List Value)->(d:t.D)->(bl:List Nat)->Un t w c d bl->cCF t π w c d bl
 | .cD0 a b,false :: π,w,c,d,bl,h=>by
  obtain ⟨x1,x2,y1,y2,rfl,rfl,h1,h2⟩:=h
  obtain ⟨c1,cu,c2,b1,bu,b2,rfl,hl,rfl,hu,hk⟩:=aWB a π w x1 d.1 y1 h1
  refine ⟨c1,cu,c2++x2,b1,bu,b2++y2,by simp,hl,by simp,hu,fun w' cu' v' hw hv=>?_⟩
  refine ⟨c1++(cu'++c2),x2,b1++(bu++b2),y2,by simp,rfl,hk w' cu' v' (fun q hq=>hw q ?_) hv,Un.keep _ _ _ _ (fun q hq=>hw q ?_) h2⟩
  ·rcases hq with hq|hq
   ·exact .inl hq
   ·exact .inr (by simp[hq])
  ·exact .inr (by simp[hq])
 | .cD0 a b,true :: π,w,c,d,bl,h=>by
  obtain ⟨x1,x2,y1,y2,rfl,rfl,h1,h2⟩:=h
  obtain ⟨c1,cu,c2,b1,bu,b2,rfl,hl,rfl,hu,hk⟩:=aWB b π w x2 d.2 y2 h2
  refine ⟨x1++c1,cu,c2,y1++b1,bu,b2,by simp,by rw[List.length_append,Un.length h1,hl];rfl,by simp,hu,fun w' cu' v' hw hv=>?_⟩
  refine ⟨x1,c1++(cu'++c2),y1,b1++(bu++b2),by simp,by simp,Un.keep _ _ _ _ (fun q hq=>hw q ?_) h1,hk w' cu' v' (fun q hq=>hw q ?_) hv⟩
  ·exact .inl (by simp[hq])
  ·rcases hq with hq|hq
   ·exact .inl (by simp[hq])
   ·exact .inr hq
 | .cD0 a b,[],w,c,d,bl,h=>⟨[],c,[],[],bl,[],by simp,rfl,by simp,h,fun w' cu' v' _ hv=>by rw[List.nil_append,List.append_nil];exact hv⟩
 | .int k,π,w,c,d,bl,h=>⟨[],c,[],[],bl,[],by simp,rfl,by simp,h,fun w' cu' v' _ hv=>by rw[List.nil_append,List.append_nil];exact hv⟩
 | .bool,π,w,c,d,bl,h=>⟨[],c,[],[],bl,[],by simp,rfl,by simp,h,fun w' cu' v' _ hv=>by rw[List.nil_append,List.append_nil];exact hv⟩
 | .str,π,w,c,d,bl,h=>⟨[],c,[],[],bl,[],by simp,rfl,by simp,h,fun w' cu' v' _ hv=>by rw[List.nil_append,List.append_nil];exact hv⟩
 | .slice e t,π,w,c,d,bl,h=>⟨[],c,[],[],bl,[],by simp,rfl,by simp,h,fun w' cu' v' _ hv=>by rw[List.nil_append,List.append_nil];exact hv⟩
theorem bEJ {b1 bu b2:List Nat} (h:(b1++(bu++b2)).Nodup):bu.Nodup/\∀ q,q∈b1\/q∈b2->q ∉ bu:=by
 simp only[List.nodup_append,List.mem_append] at h
 obtain ⟨h1,⟨h2,h3,h4⟩,h5⟩:=h
 exact ⟨h2,fun q hq hb=>hq.elim (fun h=>h5 q h q (.inl hb) rfl) (fun h=>h4 q hb q h rfl)⟩
section
variable {t:Ty} {e:TypeId} {w:World} {v:Value} {M:List t.D} {bl:List Nat} {x:t.D} {k:Nat}
theorem zH (h:Un (.slice e t) w [v] (M.set k x) bl) (hnd:bl.Nodup) (hk:k<M.length) (π:List Bool) :
  ∃ b cap cu bu,v = .slice (some ⟨b,0,none⟩) M.length cap/\b∈bl/\(∀ j,w.frozen? ⟨b,j,none⟩=false)/\(∀ j (hj:j<cu.length),w.cell? ⟨b,k * t.n+(aXW t π+j),none⟩=some cu[j]) /\
   Un (aS0 t π) w cu (bUE t π x) bu/\bu.Nodup/\(∀ q∈bu,q∈bl) /\
   (∀ w' v',(∀ q,q ∉ bu->q<w.heap.size->w'.heap[q]?=w.heap[q]?)->Un (aS0 t π) w' cu v' bu->Un (.slice e t) w' [v] (M.set k (aVI t π x v')) bl) /\
   (∀ u v',cu.length=1->Un (aS0 t π) w [u] v' bu->Un (.slice e t) (w.setCell ⟨b,k * t.n+aXW t π,none⟩ u) [v] (M.set k (aVI t π x v')) bl):=by
 have hk':k<(M.set k x).length:=by rw[List.length_set];exact hk
 obtain ⟨b,cap,c,bk,hv,hb,hz,hfz,hcl,hc,hR,hsub,hnb,hno,hU,hV⟩:=aQ8 h hnd k hk'
 rw[List.getElem_set_self] at hR
 have hlt:=aF2 _ _ _ _ _ hR
 obtain ⟨c1,cu,c2,b1,bu,b2,rfl,hl,rfl,hu,hp⟩:=aWB t π w c x bk hR
 obtain ⟨n1,n2⟩:=bEJ hnb
 refine ⟨b,cap,cu,bu,by rw[hv,List.length_set],hb,hfz,fun j hj=>?_,hu,n1,fun q hq=>hsub q (by simp[hq]),fun w' v' hw hv'=>?_,fun u v' h1 hv'=>?_⟩
 ·have h2:=hc (aXW t π+j) (by simp only[List.length_append];omega)
  rw[h2]
  congr 1
  rw[List.getElem_append_right (by omega),List.getElem_append_left (by omega)]
  congr 1;omega
 ·have h3:=hU w' _ (fun q hq hz=>hw q (fun hm=>hq (by simp[hm])) hz) (hp w' cu v' (fun q hq=>hw q (n2 q hq) (hlt q (by rcases hq with hq|hq <;> simp[hq]))) hv')
  rwa [List.set_set] at h3
 ·obtain ⟨z,rfl⟩:∃ z,cu=[z]:=by
   match cu,h1 with
   | [z],_=>exact ⟨z,rfl⟩
  have h3:=hV (aXW t π) u _ (by simp only[List.length_append,List.length_cons];omega) (by
   have h4:=hp w [u] v' (fun _ _=>rfl) hv'
   rw[List.set_append_right _ _ (by omega),hl,Nat.sub_self]
   exact h4)
  rwa [List.set_set] at h3
end
section
variable {t:Ty} {w:World} {c:List Value} {d:t.D} {bl:List Nat}
theorem cC3 (h:Un t w c d bl):rd t w c d:=kE.rd (fun b hb=>aF2 _ _ _ _ _ h b hb) (Un.rdg _ _ _ _ h)
theorem aTH (h:Un t w c d bl) (hnd:bl.Nodup) (π:List Bool):∃ bu,Un (aS0 t π) w ((c.drop (aXW t π)).take (aS0 t π).n) (bUE t π d) bu/\bu.Nodup/\(∀ q∈bu,q∈bl) /\
  ∀ w' v',(∀ q,q ∉ bu->q<w.heap.size->w'.heap[q]?=w.heap[q]?)->Un (aS0 t π) w' ((c.drop (aXW t π)).take (aS0 t π).n) v' bu->Un t w' c (aVI t π d v') bl:=by
 have hlt:=aF2 _ _ _ _ _ h
 obtain ⟨c1,cu,c2,b1,bu,b2,rfl,hl,rfl,hu,hp⟩:=aWB t π w c d bl h
 obtain ⟨n1,n2⟩:=bEJ hnd
 have e:((c1++(cu++c2)).drop (aXW t π)).take (aS0 t π).n=cu:=by
  rw[<- hl,List.drop_left,<- Un.length hu,List.take_left]
 rw[e]
 exact ⟨bu,hu,n1,fun q hq=>by simp[hq],fun w' v' hw hv=>hp w' cu v' (fun q hq=>hw q (n2 q hq) (hlt q (by rcases hq with hq|hq <;> simp[hq]))) hv⟩
end
noncomputable section
set_option maxRecDepth 100000
theorem bJU (p:bI):(k:Nat)->k<=p.2.1.length->List.length (xS p k).1<=((p.2.1.take k).map (bC aC)).sum
 | 0,_=>Nat.zero_le _
 | k+1,h=>by
  have ih:=bJU p k (by omega)
  have hk:k<p.2.1.length:=by omega
  have e:sY p k=p.2.1[k]:=aO hk
  rw[gC (bC aC) p.2.1 k hk]
  show List.length ((xS p k).1++(sY p k).2.2.2.2.2.2.2.2.2.2.2.1)<=_
  rw[List.length_append,<- e]
  have h1:List.length (sY p k).2.2.2.2.2.2.2.2.2.2.2.1<=bC aJ (sY p k).2.2.2.2.2.2.2.2.2.2.2.1:=wE (e:=117) (t:=eF) _
  have h2:=mP (sY p k)
  omega
theorem aE9 (p:bI):(p.2.1.map (bC aC)).sum+p.2.1.length<=bC aR p:=by
 have e:=aPY p
 have e2:bC (.slice 145 aC) p.2.1=p.2.1.length+(p.2.1.map (bC aC)).sum:=rfl
 omega
theorem bTB (p:bI) {k:Nat} (h:k<=p.2.1.length):List.length (xS p k).1<=bC aR p:=by
 have h1:=bJU p k h
 have h2:=nZ (bC aC) p.2.1 k
 have h3:=aE9 p
 omega
theorem cA1 (p:bI) {k:Nat} (h:k<p.2.1.length):bC aJ (sY p k).2.2.2.2.2.2.2.2.2.2.2.1<=bC aR p:=by
 have h1:=gC (bC aC) p.2.1 k h
 have h2:=nZ (bC aC) p.2.1 (k+1)
 have h3:=aE9 p
 have e:sY p k=p.2.1[k]:=aO h
 have h4:=mP (sY p k)
 rw[e] at h4 ⊢
 omega
theorem bUK {R:dG} {n:Nat} (h:bC aJ R<=n):List.length R<=n/\∀ y∈R,List.length y<=n:=by
 have h1:List.length R<=bC aJ R:=wE (e:=117) (t:=eF) _
 refine ⟨by omega,fun y hy=>?_⟩
 have h2:=bK7 R
 have h3:List.length y<=aY9 R:=by
  obtain ⟨i,hi,rfl⟩:=List.getElem_of_mem hy
  have h4:=bN2 hi
  have h5:=nZ List.length R (i+1)
  unfold aY9;omega
 omega
theorem bTU {c:bB} {b:List bA} (h1:bC aH c<=2000000) (h2:bC aE b<=2000000) (r:Nat) {k:Nat} (hk:k<=4000):bC aR (nY (aV c b) (zY r k))<=100000000:=by
 have h3:=bTS h1 h2
 have h4:=bFO (aV c b) (zY r k)
 rw[bPS] at h4
 omega
theorem cA5 {c:bB} {b:List bA} (h:cH c b=0) (r k:Nat):(nY (aV c b) (zY r k)).2.1.length=(aV c b).2.1.length :=
 ((aGZ h).run (zO h) (zY r k)).tr.ln
def aYG:Con:=⟨112,aR,.bool,[.val ⟨true,aR,[]⟩],[⟨false,.bool,[0]⟩],false,none,
 ((fun x=>bC aR x<=1000000000):(bI)->Prop),
 ((fun x=>aLH x):(bI)->(Bool))⟩
def bJF:T:=bT 145 aC oK <| dY aX 0 <| gV 2 <| dE 0 0 <| oR qN 0 <| cM 4
theorem bUC:Con.Holds Tryz.prog aYG:=tk ⟨[],[]⟩ bJF (aD bK6 aL) fun (x:bI) hx hp=>by
 dsimp only [aYG] at hx hp ⊢
 have hp:bC aR x<=1000000000:=hp
 delta bJF aR6;refine gH ?_
 (refine iC ?_;try with_reducible exact True.intro)
 (repeat' first|intro _|(with_reducible apply And.intro))
 all_goals first|exact hp|skip
 ·unfold aLH;rw[decide_eq_true (show 0<List.length x.2.1 by omega),Bool.true_and];rfl
 ·unfold aLH;rw[decide_eq_false (show ¬ 0<List.length x.2.1 by omega),Bool.false_and]
def aHK:Con:=⟨74,aR,aG,[.val ⟨true,aR,[]⟩],[⟨true,aG,[2,0,0]⟩],false,none,
 ((fun x=>bC aR x<=100000000):(bI)->Prop),
 ((fun x=>aP9 x):(bI)->(dV))⟩
def aR9:T:=dC 0 cX 1 2 (cO aG jF aM cL) <| iN 145 aC oK (kL aG) (vQ aG [aM,jF,aM,cL]) <| nR aG 4 3 5 (cR 145 aC bU oK aG 4 <| .call 1 (bS 11 6) <| dM (tH 117 aA) aJ aJ (cJ aG 1 4) 7 <| .ite (fQ aG 3 4) (uM (bO aG 4) 1 0 aG [mT,gP,bS 12 6,bK]) <| uM (bO aG 4) 1 0 aG [mT,gP,fV aC 12 6]) (dN aG 4)
theorem bG0:Con.Holds Tryz.prog aHK:=tk ⟨[(2986,2004,[.dr 11,.dr 10]++oS 8 6++[.dr 1,.dr 0,.tm 14 0,.sl 6,.bx 4 1,.bx 4 2])],[]⟩ aR9 (aD bIX (aD aCG aL)) fun (x:bI) hx hp=>by
 dsimp only [aHK] at hx hp ⊢
 have hp:bC aR x<=100000000:=hp
 delta aR9 aRO wJ;refine gH ?_
 refine iC ?_
 refine ⟨by show bC aR x<=_;omega,fun h=>by unfold aP9;rw[if_neg (by rw[h];decide)],fun h _=>?_⟩
 have hR:aP9 x=xS x x.2.1.length:=by unfold aP9;rw[if_pos h]
 rw[hR]
 refine fN (fun k=>((k:Int),xS x k)) x.2.1.length rfl fun I μ k hk _ go=>?_
 have hb:=bTB x hk
 have hlx:x.2.1.length<=bC aR x:=by have:=aE9 x;omega
 dsimp only
 refine iC ?_
 by_cases hk':k<List.length x.2.1
 ·have hs:=cA1 x hk'
  have hr:=bUK hs
  have e0:List.getD x.2.1 k (aK aC)=sY x k:=rfl
  rw[e0]
  have en:xS x (k+1)=((xS x k).1++(sY x k).2.2.2.2.2.2.2.2.2.2.2.1,(sY x k).2.2.2.2.2.2.2.2.2.2.2.2.1,(xS x k).2.2 || (sY x k).2.2.2.2.2.2.2.2.2.2.2.2.2):=rfl
  rw[en] at go
  clear hs hR h en e0
  generalize sY x k=s at *
  generalize xS x k=R at *
  obtain ⟨r1,r2,r3⟩:=R
  dsimp only at *
  (repeat' first|intro _|(refine go _ ?_ ?_ ?_)|(refine go _ ?_ ?_)|(with_reducible apply And.intro))
  all_goals first|omega|(unfold maxLen;omega)|(have:=hr.2 _ (by assumption);omega)|exact Prod.ext rfl (Prod.ext rfl (Prod.ext rfl (by first|(simp_all;done)|(rename_i hh;rw[hh];rfl))))|skip
 ·have:k=List.length x.2.1:=by omega
  subst this
  (repeat' first|intro _|(refine go _ ?_ ?_ ?_)|(refine go _ ?_ ?_)|(with_reducible apply And.intro))
  all_goals first|omega|rfl|skip
def aJE:Con:=⟨67,aR,aG,[.val ⟨true,aR,[]⟩],[⟨true,aG,[2,0,0]⟩],false,none,
 ((fun x=>bC aR x<=100000000):(bI)->Prop),
 ((fun x=>aP9 x):(bI)->(dV))⟩
def aQE:T:=dC 0 cX 1 2 (cO aG jF aM cL) <| dX (kL aG) (vQ aG [aM,jF,aM,cL]) 145 aC oK <| nR aG 3 4 5 (cR 145 aC bU oK aG 3 <| .call 1 (bS 11 6) <| dM (tH 117 aA) aJ aJ (cJ aG 1 3) 7 <| .ite (fQ aG 3 3) (cR 145 aC bU oK aG 3 <| uM (bO aG 3) 1 0 aG [gN,gP,bS 12 9,bK]) <| cR 145 aC bU oK aG 3 <| cR 145 aC bU oK aG 3 <| uM (bO aG 3) 1 0 aG [iX,gP,bS 12 10,fV aC 13 9]) (dN aG 3)
theorem bFF:Con.Holds Tryz.prog aJE:=tk ⟨[(2986,2003,oS 8 5++[.dr 0,.tm 4 0,.sl 6,.bx 4 1,.bx 4 2])],[]⟩ aQE (aD bUC (aD aU7 aL)) fun (x:bI) hx hp=>by
 dsimp only [aJE] at hx hp ⊢
 have hp:bC aR x<=100000000:=hp
 delta aQE aYG aEY;refine gH ?_
 refine iC ?_
 refine ⟨by show bC aR x<=_;omega,fun h=>by unfold aP9;rw[if_neg (by rw[h];decide)],fun h=>?_⟩
 have hR:aP9 x=xS x x.2.1.length:=by unfold aP9;rw[if_pos h]
 rw[hR]
 refine fN (fun k=>((k:Int),xS x k)) x.2.1.length rfl fun I μ k hk _ go=>?_
 have hb:=bTB x hk
 have hlx:x.2.1.length<=bC aR x:=by have:=aE9 x;omega
 dsimp only
 refine iC ?_
 by_cases hk':k<List.length x.2.1
 ·have hs:=cA1 x hk'
  have hr:=bUK hs
  have e0:List.getD x.2.1 k (aK aC)=sY x k:=rfl
  rw[e0]
  have en:xS x (k+1)=((xS x k).1++(sY x k).2.2.2.2.2.2.2.2.2.2.2.1,(sY x k).2.2.2.2.2.2.2.2.2.2.2.2.1,(xS x k).2.2 || (sY x k).2.2.2.2.2.2.2.2.2.2.2.2.2):=rfl
  rw[en] at go
  clear hs hR h en e0
  generalize sY x k=s at *
  generalize xS x k=R at *
  obtain ⟨r1,r2,r3⟩:=R
  dsimp only at *
  (repeat' first|intro _|(refine go _ ?_ ?_ ?_)|(refine go _ ?_ ?_)|(with_reducible apply And.intro))
  all_goals first|omega|(unfold maxLen;omega)|(have:=hr.2 _ (by assumption);omega)|exact Prod.ext rfl (Prod.ext rfl (Prod.ext rfl (by first|(simp_all;done)|(rename_i hh;rw[hh];rfl))))|skip
 ·have:k=List.length x.2.1:=by omega
  subst this
  (repeat' first|intro _|(refine go _ ?_ ?_ ?_)|(refine go _ ?_ ?_)|(with_reducible apply And.intro))
  all_goals first|omega|rfl|skip
def aOY:Con:=⟨66,(.cD0 aR tI),aR,[.val ⟨true,aR,[]⟩,.val ⟨false,tI,[]⟩],[⟨true,aR,[0,0,0,0]⟩],true,none,
 ((fun x=>bC aR x.1<=100000000):(bI × Int)->Prop),
 ((fun x=>bNP x.1 x.2):(bI × Int)->(bI))⟩
def bA2:T:=gG 0 aR tI 0 <| yG aR (gM aR aX) <| bX bM (bO aR 2) eT <| fY 3 (iS bM (bO aR 2) 2000 <| fY 4 (bT 145 aC (fK aR 1 aR tI) <| dY iR 0 <| fY 6 (bT 145 aC (fK aR 1 aR tI) <| aAK aPE aR 2 7 <| cI 1 aR (dN aR 2) gP <| fE aR 2 1 0 aR 10 9) (dN aR 2)) (dN aR 2)) (dN aR 2)
theorem bMQ:Con.Holds Tryz.prog aOY:=tk ⟨[(2991,1002,[.dr 8,.dr 7,.dr 0,.tm 6 0,.sl 7,.nb 7,.sl 8,.nq 8,.nb 8,.sl 9,.nq 9,.nb 9,.sl 10,.nq 10,.nb 10])],[(2983,15007,[],[7,8,9,10])]⟩ bA2 (aD aUD (aD bUZ aL)) fun (x:bI × Int) hx hp=>by
 dsimp only [aOY] at hx hp ⊢
 obtain ⟨p,n⟩:=x
 have hp:bC aR p<=100000000:=hp
 delta bA2 aFM bAR;refine gH ?_
 refine iC ?_
 refine ⟨by show bC aR p<=_;omega,fun _=>?_⟩
 by_cases h0:0<p.2.1.length
 ·have hR:bNP p n=nY p (zY p.2.1.length (min n.toNat 2000)):=by unfold bNP;rw[if_pos h0]
  rw[hR]
  refine fN (fun k=>((k:Int),nY p (zY p.2.1.length k))) (min n.toNat 2000) rfl fun I μ k hk _ go=>?_
  have hz:=bFO p (zY p.2.1.length k)
  rw[bPS] at hz
  have e1:(k:Int).tmod (p.2.1.length:Int)=((k % p.2.1.length:Nat):Int):=(Int.ofNat_tmod _ _).symm
  have en:nY p (zY p.2.1.length (k+1))=fH (nY p (zY p.2.1.length k)) ((k % p.2.1.length:Nat):Int):=by rw[bQO,bHN]
  dsimp only
  (refine iC ?_;try with_reducible exact True.intro)
  (repeat' first|intro _|(refine go _ ?_ ?_ ?_)|(refine go _ ?_ ?_)|(with_reducible apply And.intro))
  all_goals first|omega|(show bC aR (nY p (zY p.2.1.length k))<=_;omega)|(refine Prod.ext rfl ?_;exact ((congrArg _ e1).trans en.symm))|exact congrArg (fun j=>nY p (zY p.2.1.length j)) (show k=min n.toNat 2000 by omega)|skip
 ·have hR:bNP p n=p:=by unfold bNP;rw[if_neg h0]
  rw[hR]
  refine fN (fun k=>((k:Int),p)) 0 rfl fun I μ k hk _ go=>?_
  dsimp only
  (refine iC ?_;try with_reducible exact True.intro)
  (repeat' first|intro _|(refine go _ ?_ ?_ ?_)|(refine go _ ?_ ?_)|(with_reducible apply And.intro))
  all_goals first|exact True.intro|omega|rfl|skip
def aB9:Con:=⟨36,bCL,(.cD0 aG tI),[.val ⟨true,aH,[]⟩,.val ⟨false,aE,[]⟩],[⟨true,aG,[2,0,0]⟩,⟨false,tI,[0]⟩],false,none,
 ((fun x=>bC aH x.1<=2000000/\bC aE x.2<=2000000):(bB × bW)->Prop),
 ((fun x=>jG x.1 x.2):(bB × bW)->(dV × Int))⟩
def aNQ:T:=dE 0 0 <| wA aX 0 <| cE 2 (qO aG (cO aG jF aM cL) aX) <| dE 1 0 <| yG aR (gM aR qN) <| iS bM (bO aR 4) 2000 <| cG 5 (bM3 2 (dN aR 4) 6 <| cG 7 (bT 145 aC (cJ aR 2 4) <| aAK aPE aR 4 8 <| cI 3 aR (dN aR 4) mT <| fE aR 4 1 0 aR 11 10) <| .call 4 (dN aR 4) <| .ret (qO aG gP aM)) <| .call 4 (dN aR 4) <| .ret (qO aG fB aM)
theorem aNH:Con.Holds Tryz.prog aB9:=tk ⟨[(2984,2004,oS 18 16++[.dr 13,.dr 12,.dr 6]++oS 11 9++[.dr 2,.dr 0,.dr 1,.tm 8 0,.fz 4,.fz 5,.fz 6,.fz 7,.bx 8 0,.dk 4,.bx 8 1,.dk 5,.bx 8 2,.dk 6,.bx 8 3,.dk 7])],[]⟩ aNQ (aD bDH (aD bI1 (aD bIX (aD bTN (aD bG0 aL))))) fun (x:bB × bW) hx hp=>by
 dsimp only [aB9] at hx hp ⊢
 obtain ⟨c,b⟩:=x
 obtain ⟨hp1,hp2⟩:bC aH c<=2000000/\bC aE b<=2000000:=hp
 delta aNQ aN2 aM3 aRO bAM aHK;refine gH ?_
 refine iC ?_
 have hP:tA c:=aRR (by omega)
 refine ⟨hP,fun _=>⟨fun h=>by unfold jG;rw[if_neg h],fun ha=>⟨⟨by omega,by omega⟩,fun _=>?_⟩⟩⟩
 have hg:jG c b=(aP9 (zX c b),0):=by unfold jG;rw[if_pos ha]
 have hl:=wM ha
 have hT:=bH8 ha
 rw[hg]
 refine xL (fun k=>((k:Int),nY (aV c b) (zY (aV c b).2.1.length k))) (fun k=>∀ j,j<k->¬ mL (nY (aV c b) (zY (aV c b).2.1.length j))=0) 2000 rfl (fun j hj=>absurd hj (Nat.not_lt_zero _)) fun I μ k hk hG _ go=>?_
 have hz:=bTU hp1 hp2 (aV c b).2.1.length (k:=k) (by omega)
 have hln:=cA5 ha (aV c b).2.1.length k
 have e1:(k:Int).tmod (((aV c b).2.1.length:Nat):Int)=((k % (aV c b).2.1.length:Nat):Int):=(Int.ofNat_tmod _ _).symm
 have en:nY (aV c b) (zY (aV c b).2.1.length (k+1))=fH (nY (aV c b) (zY (aV c b).2.1.length k)) ((k % (aV c b).2.1.length:Nat):Int):=by rw[bQO,bHN]
 have hd:aLH (nY (aV c b) (zY (aV c b).2.1.length k))=decide (mL (nY (aV c b) (zY (aV c b).2.1.length k))=0):=by
  unfold aLH;rw[hln,decide_eq_true (show 0<(aV c b).2.1.length by omega),Bool.true_and]
 have hfin:mL (nY (aV c b) (zY (aV c b).2.1.length k))=0->nY (aV c b) (zY (aV c b).2.1.length k)=zX c b:=bV8 ha
 have hlast:¬ mL (nY (aV c b) (zY (aV c b).2.1.length k))=0->k<960:=fun h=>by
  have h1:=bXI ha h
  have h2:(aV c b).2.1.length * aGR c b<=4 * 240:=Nat.mul_le_mul (by omega) hT
  omega
 have hnext:¬ mL (nY (aV c b) (zY (aV c b).2.1.length k))=0->∀ j,j<k+1->¬ mL (nY (aV c b) (zY (aV c b).2.1.length j))=0:=fun h j hj=>by
  rcases Nat.lt_or_eq_of_le (Nat.le_of_lt_succ hj) with h'|rfl
  ·exact hG j h'
  ·exact h
 dsimp only at *
 refine iC ?_
 rw[hd]
 rw[en] at go
 rw[hln,e1]
 clear hG hd en e1
 generalize nY (aV c b) (zY (aV c b).2.1.length k)=q at *
 (repeat' first|intro _|(refine go _ ?_ ?_ ?_)|(refine go _ ?_ ?_)|(with_reducible apply And.intro))
 all_goals first|omega|exact hnext (of_decide_eq_false (by assumption)) _ (by assumption) (by assumption)|rfl|(rw[hfin (of_decide_eq_true (by assumption))])|(rw[hfin (Classical.byContradiction fun hh=>by have:=hlast hh;omega)])|skip
def aG5:Con:=⟨30,bCL,(.cD0 aG tI),[.val ⟨true,aH,[]⟩,.val ⟨false,aE,[]⟩],[⟨true,aG,[2,0,0]⟩,⟨false,tI,[0]⟩],false,none,
 ((fun x=>bC aH x.1<=2000000/\bC aE x.2<=2000000):(bB × bW)->Prop),
 ((fun x=>jG x.1 x.2):(bB × bW)->(dV × Int))⟩
def aO3:T:=dE 0 0 <| wA aX 0 <| cE 2 (qO aG (cO aG jF aM cL) aX) <| dE 1 0 <| .loop aR qN <| dE 2 4 <| dY iR 0 <| cG 6 (bT 145 aC (bLP 4) <| cI 3 aR gD lN <| .cD3 0 gP) <| dE 4 4 <| .ret (qO aG lN aX)
theorem bBO:Con.Holds Tryz.prog aG5:=tk ⟨[(2986,2004,oS 17 15++oS 12 8++[.dr 2,.dr 0,.dr 1,.fz 4,.fz 5,.fz 6,.fz 7,.nb 8,.bx 8 0,.dk 4,.bx 8 1,.dk 5,.bx 8 2,.dk 6,.bx 8 3,.dk 7])],[]⟩ aO3 (aD bCE (aD bKJ (aD bK6 (aD bMQ (aD bFF aL))))) fun (x:bB × bW) hx hp=>by
 dsimp only [aG5] at hx hp ⊢
 obtain ⟨c,b⟩:=x
 obtain ⟨hp1,hp2⟩:bC aH c<=2000000/\bC aE b<=2000000:=hp
 delta aO3 aMP aJU aR6 aOY aJE;refine gH ?_
 refine iC ?_
 have hP:tA c:=aRR (by omega)
 refine ⟨hP,fun _=>⟨fun h=>by unfold jG;rw[if_neg h],fun ha=>⟨⟨by omega,by omega⟩,fun _=>?_⟩⟩⟩
 have hg:jG c b=(aP9 (zX c b),0):=by unfold jG;rw[if_pos ha]
 have hl:=wM ha
 have hT:=bH8 ha
 rw[hg]
 refine fN (fun r=>nY (aV c b) (zY (aV c b).2.1.length ((aV c b).2.1.length * r))) (aGR c b) rfl fun I μ r hr _ go=>?_
 have hm:(aV c b).2.1.length * r<=4 * 240:=Nat.mul_le_mul (by omega) (by omega)
 have hz:=bTU hp1 hp2 (aV c b).2.1.length (k:=(aV c b).2.1.length * r) (by omega)
 have hln:=cA5 ha (aV c b).2.1.length ((aV c b).2.1.length * r)
 have hle:=bEZ ha rfl r
 have hfin:mL (nY (aV c b) (zY (aV c b).2.1.length ((aV c b).2.1.length * r)))=0->nY (aV c b) (zY (aV c b).2.1.length ((aV c b).2.1.length * r))=zX c b:=bV8 ha
 have hnn:=aW1 (nY (aV c b) (zY (aV c b).2.1.length ((aV c b).2.1.length * r)))
 have en:nY (aV c b) (zY (aV c b).2.1.length ((aV c b).2.1.length * (r+1)))=bNP (nY (aV c b) (zY (aV c b).2.1.length ((aV c b).2.1.length * r))) (((aV c b).2.1.length:Nat):Int):=by
  unfold bNP
  rw[hln,if_pos (by omega),bJK (by omega),aDM,Int.toNat_natCast,Nat.min_eq_left (by omega)]
 refine iC ?_
 rw[en] at go
 rw[hln]
 clear en
 generalize nY (aV c b) (zY (aV c b).2.1.length ((aV c b).2.1.length * r))=q at *
 (repeat' first|intro _|(refine go _ ?_ ?_ ?_)|(refine go _ ?_ ?_)|(with_reducible apply And.intro))
 all_goals first|omega|rfl|(rw[hfin (by omega),ha])|skip
end
end Go.Proofs.YtlhaoiaieiladaaGreat
