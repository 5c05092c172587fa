/- CoreM: lemmas. No conditions. -/
import Derived.Test.YtpafjioccjpmfaaGreatCoreS
namespace Go.Proofs.YtpafjioccjpmfaaGreat
noncomputable section
open Go.ChangeShapes Go.WideShapes Go.ChangeAt Go.RowKit Go.Deep
set_option linter.unusedVariables false
set_option linter.unusedSimpArgs false
def bQ (p:bF):Nat→bF
 | 0=>p
 | k+1=>hK (bQ p k) (iY (bQ p k))
def qN (l b:List Int):Nat→List Int
 | 0=>b
 | j+1=>(qN l b j).set (l.getD j 0).toNat ((qN l b j).getD (l.getD j 0).toNat 0+1)
def kG (p:bF):Nat→List Int
 | 0=>List.replicate p.2.1.length 0
 | k+1=>qN (iY (bQ p k)) (kG p k) (iY (bQ p k)).length
def upK (q:bF) (b:List Int):Nat→List Int
 | 0=>b
 | j+1=>(upK q b j).set j (max ((upK q b j).getD j 0) (vC (q.2.1.getD j (aP aA))))
def iU (p:bF):Nat→List Int
 | 0=>List.replicate p.2.1.length 0
 | k+1=>upK (bQ p (k+1)) (iU p k) (bQ p (k+1)).2.1.length
def aY3 (p:bF) (k:Nat):bNX:=((k:Int),kG p k,iU p k,decide (dD (bQ p k)=0))
def zI (p:bF):Nat→Nat→bNX
 | 0,k=>aY3 p k
 | f+1,k=>if dD (bQ p k)=0 then aY3 p k else zI p f (k+1)
def xB (c:bB) (b:List cB):bNX:=if cE c b=0 then zI (bA c b) 1000 0 else (0,[],[],false)
theorem aPN (p:bF) (s:Int):(bR p s).2.1.length=p.2.1.length:=by unfold bR;split <;> simp
theorem aT5 (p:bF):(l:List Int)→(hK p l).2.1.length=p.2.1.length
 | []=>rfl
 | s :: l=>by show (hK (bR p s) l).2.1.length=_;rw[aT5 (bR p s) l,aPN]
theorem aGY (p:bF):(k:Nat)→(bQ p k).2.1.length=p.2.1.length
 | 0=>rfl
 | k+1=>by rw[bQ,aT5,aGY p k]
theorem aF0 (p:bF):(k:Nat)→bS aK (bQ p k)≤bS aK p+800 * k
 | 0=>Nat.le_refl _
 | k+1=>by
  have h1:=aF0 p k
  have h2:=aIW (bQ p k) (iY (bQ p k))
  have h3:=aIX (bQ p k)
  rw[bQ];omega
theorem aCF (l b:List Int):(j:Nat)→(qN l b j).length=b.length
 | 0=>rfl
 | j+1=>by rw[qN,List.length_set,aCF l b j]
theorem aIZ (q:bF) (b:List Int):(j:Nat)→(upK q b j).length=b.length
 | 0=>rfl
 | j+1=>by rw[upK,List.length_set,aIZ q b j]
theorem aBQ (p:bF):(k:Nat)→(kG p k).length=p.2.1.length
 | 0=>List.length_replicate
 | k+1=>by rw[kG,aCF,aBQ p k]
theorem wN (p:bF):(k:Nat)→(iU p k).length=p.2.1.length
 | 0=>List.length_replicate
 | k+1=>by rw[iU,aIZ,wN p k]
theorem aKP {l:List Int} {i:Nat} {x:Int} {A B:Int} (h:∀ j,A≤l.getD j 0∧l.getD j 0≤B) (hx:A≤x∧x≤B) (j:Nat):A≤(l.set i x).getD j 0∧(l.set i x).getD j 0≤B:=by
 by_cases hj:j<l.length
 ·rw[aW (show j<(l.set i x).length by rw[List.length_set];exact hj),List.getElem_set]
  split
  ·exact hx
  ·have:=h j;rw[aW hj] at this;exact this
 ·have:=h j
  rw[aBV (by omega)] at this
  rw[aBV (by rw[List.length_set];omega)];exact this
theorem aR5 {l b:List Int} {M:Int} (h:∀ j,0≤b.getD j 0∧b.getD j 0≤M):(k:Nat)→∀ j,0≤(qN l b k).getD j 0∧(qN l b k).getD j 0≤M+(k:Int)
 | 0=>fun j=>by have:=h j;show 0≤b.getD j 0∧_;unfold qN;omega
 | k+1=>fun j=>by
  have h1:=aR5 (l:=l) h k
  have h2:=h1 (l.getD k 0).toNat
  have h3:=aKP (l:=qN l b k) (i:=(l.getD k 0).toNat) (x:=(qN l b k).getD (l.getD k 0).toNat 0+1) (A:=0) (B:=M+((k+1:Nat):Int)) (fun j=>by have:=h1 j;omega) (by omega) j
  exact h3
theorem bBY (p:bF):(k:Nat)→∀ j,0≤(kG p k).getD j 0∧(kG p k).getD j 0≤4 * (k:Int)
 | 0=>fun j=>by
  have:(kG p 0).getD j 0=0:=by
   show (List.replicate p.2.1.length (0:Int)).getD j 0=0
   by_cases hj:j<p.2.1.length
   ·rw[aW (by rw[List.length_replicate];exact hj),List.getElem_replicate]
   ·rw[aBV (by rw[List.length_replicate];omega)]
  omega
 | k+1=>fun j=>by
  have h1:=aR5 (l:=iY (bQ p k)) (bBY p k) (iY (bQ p k)).length j
  have h2:=aIX (bQ p k)
  rw[kG];omega
theorem bGH (p:bF):(k:Nat)→∀ s∈jU p k,0≤s∧s<(k:Int)
 | 0,s,h=>by cases h
 | k+1,s,h=>by
  rw[jU,List.mem_append] at h
  rcases h with h|h
  ·have:=bGH p k s h;omega
  ·split at h
   ·have:=List.mem_singleton.1 h;omega
   ·cases h
theorem bOL {x M:Int} (h:0≤x∧x≤M):-9223372036854775808≤x+1:=by omega
theorem bO5 {x M:Int} (h:0≤x∧x≤M) (hM:M≤1000000):x+1≤9223372036854775807:=by omega
theorem bNA {p:bF} {j:Nat} (h:j<(iY p).length):0≤(iY p)[j]∧(iY p)[j]<(p.2.1.length:Int):=bGH p _ _ (List.getElem_mem h)
theorem bHC {p:bF} (h:0<p.2.1.length):aPD p=decide (dD p=0):=by unfold aPD;rw[decide_eq_true h,Bool.true_and]
theorem aGN {p:bF} {k:Nat} (h:dD (bQ p k)=0):(f:Nat)→zI p f k=aY3 p k
 | 0=>rfl
 | f+1=>if_pos h
theorem aYJ {p:bF} {k:Nat} (hk:k<1000) (h:¬ dD (bQ p k)=0):zI p (1000 - k) k=zI p (1000 - (k+1)) (k+1):=by
 rw[show 1000 - k=(1000 - (k+1))+1 by omega]
 exact if_neg h
theorem aOG (p:bF):(f k:Nat)→∃ m,m≤f+k∧zI p f k=aY3 p m
 | 0,k=>⟨k,by omega,rfl⟩
 | f+1,k=>by
  by_cases h:dD (bQ p k)=0
  ·exact ⟨k,by omega,if_pos h⟩
  ·obtain ⟨m,hm,e⟩:=aOG p f (k+1)
   exact ⟨m,by omega,(if_neg h).trans e⟩
theorem bMU {e:TypeId} {t:Ty} (n:Nat) (g:Nat→t.D) (B:Nat) (h:∀ i,i<n→bS t (g i)≤B):bS (.slice e t) (mp n g)≤n+n * B:=by
 have h1:=aE5 (bS t) B (mp n g) (fun x hx=>by
  unfold mp at hx
  obtain ⟨i,hi,rfl⟩:=List.mem_map.1 hx
  exact h i (List.mem_range.1 hi))
 have h2:=fL n g
 rw[h2] at h1
 rw[dK,h2];omega
theorem bL9 (l:List cP):bS aR l=l.length:=by
 have e:bS aR l=l.length+(l.map (bS aD)).sum:=rfl
 rw[e,aM9 (bS aD) l (fun _=>rfl)];rfl
theorem bLJ (c:bB) (n:Nat) (s:Int):bS aA (aB9 c n s)≤bS aE c.1+400:=by
 unfold aB9 aBH
 split
 ·rw[fN]
  dsimp only
  have h1:=bL9 (fU c.2.2.1 (bC c.1 c.2.1) s (n:Int) (c.2.2.2.1.getD s.toNat false))
  have h2:=lY c.2.2.1 (bC c.1 c.2.1) s (n:Int) (c.2.2.2.1.getD s.toNat false)
  have h3:=bFZ (m:=c.1) (aY c.1 c.2.1 s).1.toNat (aY c.1 c.2.1 s).2.toNat
  have h4:=bIB (List.drop (aY c.1 c.2.1 s).1.toNat (List.take (aY c.1 c.2.1 s).2.toNat c.1))
  have h5:=aSR (e:=134) h4.1 h4.2
  have e0:bS qX ([]:List gK)=0:=rfl
  have e1:bS aO ([]:dG)=0:=rfl
  have h5':bS aO (zD (List.drop (aY c.1 c.2.1 s).1.toNat (List.take (aY c.1 c.2.1 s).2.toNat c.1))).1≤8+8 * 36:=h5
  simp only[List.length_nil]
  rw[e0,e1];omega
 ·exact Nat.zero_le _
theorem aMS {c:bB} {b:List cB} (h1:bS aC c≤2000000) (h2:bS aF b≤2000000):bS aK (bA c b)≤90000000:=by
 unfold bA
 split
 ·rename_i h
  obtain ⟨a1,a2,a3,a4,a5,a6,a7,a8⟩:=iZ h
  have hcl:=aF5 a7
  have hmm:bS aE c.1≤bS aC c:=Nat.le_add_right _ _
  have s1:=bMU (e:=66) (t:=aA) (bC c.1 c.2.1).toNat (fun s=>aB9 c b.length (s:Int)) (bS aE c.1+400) (fun i _=>bLJ _ _ _)
  have s2:=bMU (e:=98) (t:=aM) c.2.2.2.2.1.length (aFR c) 0 (fun i _=>Nat.le_refl _)
  have s3:(bC c.1 c.2.1).toNat * (bS aE c.1+400)≤4 * (bS aE c.1+400):=Nat.mul_le_mul_right _ (by omega)
  rw[xY]
  dsimp only
  have s2':bS aU (mp c.2.2.2.2.1.length (aFR c))≤c.2.2.2.2.1.length+c.2.2.2.2.1.length * 0:=s2
  omega
 ·exact Nat.zero_le _
theorem pG {c:bB} {b:List cB} (h:cE c b=0):1≤(bA c b).2.1.length∧(bA c b).2.1.length≤4:=by
 obtain ⟨a1,a2,a3,a4,a5,a6,a7,a8⟩:=iZ h
 rw[← qW h]
 show 1≤(mp _ _).length∧(mp _ _).length≤4
 rw[fL];omega
theorem bAW {c:bB} {b:List cB} (h:¬ cE c b=0):(0,[],[],false)=xB c b:=(if_neg h).symm
theorem bIG {c:bB} {b:List cB} (h:cE c b=0):zI (bA c b) 1000 0=xB c b:=(if_pos h).symm
def iR:Con:=⟨7,(.bPW aC aF),(.bPW tI (.bPW aB (.bPW aB .bool))),[.val ⟨true,aC,[]⟩,.val ⟨false,aF,[]⟩],[⟨true,(.bPW tI (.bPW aB (.bPW aB .bool))),[0,2,2,0]⟩],false,none,
 ((fun x=>bS aC x.1≤2000000∧bS aF x.2≤2000000):(bB × bL)→Prop),
 ((fun x=>xB x.1 x.2):(bB × bL)→(Int × (bK × (bK × Bool))))⟩
def xZ:T:=.call 0 (.Z 0) <|
 .bPX (.cmp .neq .i64) (.bPY tI tI (.Z 1) (.ci .i64 0)) <|
 .ite (.Z 2) (
  .ret (bP (.bPW tI (.bPW aB (.bPW aB .bool))) [(.ci .i64 0),(.nl 3 tI),(.nl 3 tI),(.cb false)])) (
  .call 1 (.Z 0) <|
  .bPX (.bQ0 66 aA) (aH aK 1 (.Z 3)) <|
  .bPX (.bQ0 66 aA) (aH aK 1 (.Z 3)) <|
  .bPX (.rep 3 tI 8) (.Z 4) <|
  .bPX (.rep 3 tI 8) (.Z 5) <|
  .loop (.bPW aB (.bPW aB (.bPW tI aK))) (bP (.bPW aB (.bPW aB (.bPW tI aK))) [(.Z 7),(.Z 6),(.ci .i64 0),(.Z 3)]) <|
   .bPX (.cmp .lss .i64) (.bPY tI tI (aH (.bPW aB (.bPW aB (.bPW tI aK))) 2 (.Z 8)) (.ci .i64 1000)) <|
   .ite (.Z 9) (
    .call 2 (aS (.bPW aB (.bPW aB (.bPW tI aK))) 3 (.Z 8)) <|
    .bPX .not (.Z 10) <|
    .ite (.Z 11) (
     .call 3 (aS (.bPW aB (.bPW aB (.bPW tI aK))) 3 (.Z 8)) <|
     .bPX (.ar .add .i64) (.bPY tI tI (aH (.bPW aB (.bPW aB (.bPW tI aK))) 2 (.Z 8)) (.ci .i64 1)) <|
     .bPX (.bQ0 3 tI) (aS (.bPW aK aB) 1 (.Z 12)) <|
     .loop aI (.bPY tI aB (.ci .i64 0) (aH (.bPW aB (.bPW aB (.bPW tI aK))) 1 (.Z 8))) <|
      .bPX (.cmp .lss .i64) (.bPY tI tI (.p1 tI aB (.Z 15)) (.Z 14)) <|
      .ite (.Z 16) (
       .bPX (.bQ1 3 tI) (.bPY aB tI (aS (.bPW aK aB) 1 (.Z 12)) (.p1 tI aB (.Z 15))) <|
       .bPX (.bQ1 3 tI) (.bPY aB tI (aS aI 1 (.Z 15)) (.Z 17)) <|
       .bPX (.bQ1 3 tI) (.bPY aB tI (aS aI 1 (.Z 15)) (.Z 17)) <|
       .bPX (.ar .add .i64) (.bPY tI tI (.Z 19) (.ci .i64 1)) <|
       .bPX (.bQ1 3 tI) (.bPY aB tI (aS aI 1 (.Z 15)) (.Z 17)) <|
       .bPX (.bQ4 3 tI) (bP (.bPW aB aD) [(aS aI 1 (.Z 15)),(.Z 17),(.Z 20)]) <|
       .bPX (.ar .add .i64) (.bPY tI tI (.p1 tI aB (.Z 15)) (.ci .i64 1)) <|
       .bPZ 0 (.bPY tI aB (.Z 23) (.Z 22))) (
       .bPX (.bQ0 66 aA) (aH aK 1 (.p1 aK aB (.Z 12))) <|
       .loop aI (.bPY tI aB (.ci .i64 0) (.p1 aB (.bPW aB (.bPW tI aK)) (.Z 8))) <|
        .bPX (.cmp .lss .i64) (.bPY tI tI (.p1 tI aB (.Z 18)) (.Z 17)) <|
        .ite (.Z 19) (
         .bPX (.bQ1 66 aA) (.bPY (.slice 66 aA) tI (aH aK 1 (.p1 aK aB (.Z 12))) (.p1 tI aB (.Z 18))) <|
         .bPX (.bQ1 3 tI) (.bPY aB tI (aS aI 1 (.Z 18)) (.p1 tI aB (.Z 18))) <|
         .bPX (.bQ1 3 tI) (.bPY aB tI (aS aI 1 (.Z 18)) (.p1 tI aB (.Z 18))) <|
         .call 4 (.Z 20) <|
         .bPX (.mx .i64) (.bPY tI tI (.Z 22) (.Z 23)) <|
         .bPX (.bQ1 3 tI) (.bPY aB tI (aS aI 1 (.Z 18)) (.p1 tI aB (.Z 18))) <|
         .bPX (.bQ4 3 tI) (bP (.bPW aB aD) [(aS aI 1 (.Z 18)),(.p1 tI aB (.Z 18)),(.Z 24)]) <|
         .bPX (.ar .add .i64) (.bPY tI tI (.p1 tI aB (.Z 18)) (.ci .i64 1)) <|
         .bPZ 0 (.bPY tI aB (.Z 27) (.Z 26))) (
         .bPZ 2 (bP (.bPW aB (.bPW aB (.bPW tI aK))) [(aS aI 1 (.Z 18)),(aS aI 1 (.Z 15)),(.Z 13),(.p1 aK aB (.Z 12))])))) (
     .call 2 (aS (.bPW aB (.bPW aB (.bPW tI aK))) 3 (.Z 8)) <|
     .ret (bP (.bPW tI (.bPW aB (.bPW aB .bool))) [(aH (.bPW aB (.bPW aB (.bPW tI aK))) 2 (.Z 8)),(aH (.bPW aB (.bPW aB (.bPW tI aK))) 1 (.Z 8)),(.p1 aB (.bPW aB (.bPW tI aK)) (.Z 8)),(.Z 12)]))) (
    .call 2 (aS (.bPW aB (.bPW aB (.bPW tI aK))) 3 (.Z 8)) <|
    .ret (bP (.bPW tI (.bPW aB (.bPW aB .bool))) [(aH (.bPW aB (.bPW aB (.bPW tI aK))) 2 (.Z 8)),(aH (.bPW aB (.bPW aB (.bPW tI aK))) 1 (.Z 8)),(.p1 aB (.bPW aB (.bPW tI aK)) (.Z 8)),(.Z 10)])))
set_option maxRecDepth 100000 in
theorem aQH:bW Tryz.prog [jL,jZ,aA0,qC,lO] iR false 3000 ⟨[(2986,2008,[.dr 29,.dr 28,.dr 24,.dr 27,.dr 26,.dr 23,.dr 22,.dr 25]++jV 21 18++jV 16 13++[.dr 2,.dr 0,.dr 1,.sl 18,.sl 17,.bx 14 0,.fz 5,.fz 6,.fz 7,.fz 8,.bx 9 0,.dk 5,.bx 9 1,.dk 6,.bx 9 2,.dk 7,.bx 9 3,.dk 8]),(2969,14015,[.tm 50 0,.sl 17]),(2960,22018,[.tm 65 0,.sl 18])],[]⟩ = .ok xZ:=by kernel_rfl
set_option maxHeartbeats 1000000 in
theorem aS9 (x:bB × bL) (hx:okD (.bPW aC aF) x) (hp:(fun x=>bS aC x.1≤2000000∧bS aF x.2≤2000000) x):xZ.wp [jL,jZ,aA0,qC,lO] [⟨(.bPW aC aF),x⟩] [] (fun v=>v.as (.bPW tI (.bPW aB (.bPW aB .bool)))=(fun x=>xB x.1 x.2) x):=by
 obtain ⟨c,b⟩:=x
 obtain ⟨hp1,hp2⟩:bS aC c≤2000000∧bS aF b≤2000000:=hp
 have hcp:dO c:=aAV (by omega)
 delta xZ jL jZ aA0 qC lO;refine dY ?_
 refine eD ?_
 refine ⟨hcp,fun _=>⟨fun h=>bAW h,fun h=>⟨⟨by omega,by omega⟩,fun _=>?_⟩⟩⟩
 have hps:=aMS hp1 hp2
 have hpl:=pG h
 have hsy:=bIG h
 rw[← hsy]
 generalize bA c b=P at *
 (repeat' first|intro _|(with_reducible apply And.intro))
 all_goals first|omega|(unfold repC;omega)|(unfold repC maxLen;omega)|skip
 first
  | refine aAT (fun k=>((k:Int),iU P k,kG P k,bQ P k)) (fun k=>zI P (1000 - k) k=zI P 1000 0) 1000 rfl rfl fun I μ k hk hG _ go=>?_
  | refine aAT (fun k=>(iU P k,kG P k,(k:Int),bQ P k)) (fun k=>zI P (1000 - k) k=zI P 1000 0) 1000 rfl rfl fun I μ k hk hG _ go=>?_
 dsimp only
 refine eD ?_
 have hz:=aF0 P k
 have htl:=aGY P k
 have htl2:=aGY P (k+1)
 have hbl:=aBQ P k
 have hml:=wN P k
 have hbb:=bBY P k
 have hz2:=aF0 P (k+1)
 have hdn:=bHC (p:=bQ P k) (by omega)
 constructor
 ·intro hlt
  refine ⟨by omega,fun hd=>⟨by omega,fun _=>?_⟩,fun hd=>⟨by omega,?_⟩⟩
  rotate_left
  ·rw[hd] at hdn
   have hl0:dD (bQ P k)=0:=of_decide_eq_true hdn.symm
   rw[← hG,aGN hl0]
   unfold aY3;rw[hd,decide_eq_true hl0]
  have hl1:¬ dD (bQ P k)=0:=fun h=>by rw[hd,decide_eq_true h] at hdn;cases hdn
  have hG2:=(aYJ (by omega) hl1).symm.trans hG
  refine ⟨by omega,fun _ _=>?_⟩
  refine eW (fun j=>((j:Int),qN (iY (bQ P k)) (kG P k) j)) (List.length (iY (bQ P k))) rfl fun I2 μ2 j hj _ go2=>?_
  dsimp only
  refine eD ?_
  have hbj:=aR5 (l:=iY (bQ P k)) hbb j
  have hbjl:=aCF (iY (bQ P k)) (kG P k) j
  have hwl:=aIX (bQ P k)
  by_cases hj':j<List.length (iY (bQ P k))
  ·have hat:=bNA hj'
   have hbx:=hbj ((iY (bQ P k))[j]).toNat
   have hst:qN (iY (bQ P k)) (kG P k) (j+1)=(qN (iY (bQ P k)) (kG P k) j).set ((iY (bQ P k))[j]).toNat ((qN (iY (bQ P k)) (kG P k) j).getD ((iY (bQ P k))[j]).toNat 0+1):=by rw[qN,aW hj']
   simp only[aW hj']
   (repeat' first|intro _|(refine go2 _ ?_ ?_ ?_)|(refine go2 _ ?_ ?_)|(with_reducible apply And.intro))
   all_goals first|omega|exact bOL hbx|exact bO5 hbx (by omega)|(rw[hst];rfl)|skip
  have ej2:j=(iY (bQ P k)).length:=by omega
  subst ej2
  (repeat' first|intro _|(with_reducible apply And.intro))
  all_goals first|omega|skip
  refine eW (fun j=>((j:Int),upK (bQ P (k+1)) (iU P k) j)) (bQ P (k+1)).2.1.length rfl fun I3 μ3 j hj _ go3=>?_
  dsimp only
  refine eD ?_
  have hul:=aIZ (bQ P (k+1)) (iU P k) j
  rw[show hK (bQ P k) (iY (bQ P k))=bQ P (k+1) from rfl]
  by_cases hj':j<(bQ P (k+1)).2.1.length
  ·have hsz:bS aA ((bQ P (k+1)).2.1.getD j (aP aA))≤1000000000:=by
    rw[aW hj']
    have h5:bS aA ((bQ P (k+1)).2.1[j])≤bS (.slice 66 aA) (bQ P (k+1)).2.1:=rN (List.getElem_mem hj')
    have h6:=xY (bQ P (k+1))
    omega
   (repeat' first|intro _|(refine go3 _ ?_ ?_ ?_)|(refine go3 _ ?_ ?_)|(with_reducible apply And.intro))
   all_goals first|omega|exact hsz|rfl|skip
  ·skip
   have ej:j=(bQ P (k+1)).2.1.length:=by omega
   subst ej
   (repeat' first|intro _|(refine go _ ?_ ?_ ?_)|(refine go _ ?_ ?_)|(with_reducible apply And.intro))
   all_goals first|omega|exact hG2|rfl|skip
 ·intro hge
  have ek:k=1000:=by omega
  subst ek
  refine ⟨by omega,?_⟩
  rw[← hG,hdn];rfl
set_option maxHeartbeats 1000000 in
theorem aFZ:Con.Holds Tryz.prog iR:=aX aZ (aG aHW (aG aIG (aG bH8 (aG aWT (aG aL9 aT))))) aQH aS9
end
end Go.Proofs.YtpafjioccjpmfaaGreat
