/- CoreM: lemmas. No conditions. -/
import Derived.Test.YtmfpkkbhnmkfdaaGreatCoreS
namespace Go.Proofs.YtmfpkkbhnmkfdaaGreat
noncomputable section
set_option maxRecDepth 100000
open Go.ChangeShapes Go.WideShapes Go.ChangeAt Go.RowKit Go.Deep
set_option linter.unusedVariables false
set_option linter.unusedSimpArgs false
def cC (p:bF):Nat→bF
 | 0=>p
 | k+1=>uP (cC p k) (fW (cC p k))
def nR (l b:List Int):Nat→List Int
 | 0=>b
 | j+1=>(nR l b j).set (l.getD j 0).toNat ((nR l b j).getD (l.getD j 0).toNat 0+1)
def mY (p:bF):Nat→List Int
 | 0=>List.replicate p.2.1.length 0
 | k+1=>nR (fW (cC p k)) (mY p k) (fW (cC p k)).length
def upK (q:bF) (b:List Int):Nat→List Int
 | 0=>b
 | j+1=>(upK q b j).set j (max ((upK q b j).getD j 0) (aOV (q.2.1.getD j (aX aA))))
def qC (p:bF):Nat→List Int
 | 0=>List.replicate p.2.1.length 0
 | k+1=>upK (cC p (k+1)) (qC p k) (cC p (k+1)).2.1.length
def bEH (p:bF) (k:Nat):aTI:=((k:Int),mY p k,qC p k,decide (oX (cC p k)=0))
def aAB (p:bF):Nat→Nat→aTI
 | 0,k=>bEH p k
 | f+1,k=>if oX (cC p k)=0 then bEH p k else aAB p f (k+1)
def iJ (c:bI) (b:List bP):aTI:=if eL c b=0 then aAB (lG c b) 1000 0 else (0,[],[],false)
theorem bEN (p:bF) (s:Int):(fY p s).2.1.length=p.2.1.length:=by unfold fY;split <;> simp
theorem aXB (p:bF):(l:List Int)→(uP p l).2.1.length=p.2.1.length
 | []=>rfl
 | s :: l=>by show (uP (fY p s) l).2.1.length=_;rw[aXB (fY p s) l,bEN]
theorem xS (p:bF):(k:Nat)→(cC p k).2.1.length=p.2.1.length
 | 0=>rfl
 | k+1=>by rw[cC,aXB,xS p k]
theorem xW (p:bF):(k:Nat)→aY aG (cC p k)≤aY aG p+800 * k
 | 0=>Nat.le_refl _
 | k+1=>by
  have h1:=xW p k
  have h2:=aS0 (cC p k) (fW (cC p k))
  have h3:=aCR (cC p k)
  rw[cC];omega
theorem aCS (l b:List Int):(j:Nat)→(nR l b j).length=b.length
 | 0=>rfl
 | j+1=>by rw[nR,List.length_set,aCS l b j]
theorem aJZ (q:bF) (b:List Int):(j:Nat)→(upK q b j).length=b.length
 | 0=>rfl
 | j+1=>by rw[upK,List.length_set,aJZ q b j]
theorem aDA (p:bF):(k:Nat)→(mY p k).length=p.2.1.length
 | 0=>List.length_replicate
 | k+1=>by rw[mY,aCS,aDA p k]
theorem wV (p:bF):(k:Nat)→(qC p k).length=p.2.1.length
 | 0=>List.length_replicate
 | k+1=>by rw[qC,aJZ,wV p k]
theorem aN6 {l:List Int} {i:Nat} {x:Int} {A B:Int} (h:∀ j,A≤l.getD j 0∧l.getD j 0≤B) (hx:A≤x∧x≤B) (j:Nat):A≤(l.set i x).getD j 0∧(l.set i x).getD j 0≤B:=by
 by_cases hj:j<l.length
 ·rw[aZ (show j<(l.set i x).length by rw[List.length_set];exact hj),List.getElem_set]
  split
  ·exact hx
  ·have:=h j;rw[aZ hj] at this;exact this
 ·have:=h j
  rw[aDE (by omega)] at this
  rw[aDE (by rw[List.length_set];omega)];exact this
theorem aJP {l b:List Int} {M:Int} (h:∀ j,0≤b.getD j 0∧b.getD j 0≤M):(k:Nat)→∀ j,0≤(nR l b k).getD j 0∧(nR l b k).getD j 0≤M+(k:Int)
 | 0=>fun j=>by have:=h j;show 0≤b.getD j 0∧_;unfold nR;omega
 | k+1=>fun j=>by
  have h1:=aJP (l:=l) h k
  have h2:=h1 (l.getD k 0).toNat
  have h3:=aN6 (l:=nR l b k) (i:=(l.getD k 0).toNat) (x:=(nR l b k).getD (l.getD k 0).toNat 0+1) (A:=0) (B:=M+((k+1:Nat):Int)) (fun j=>by have:=h1 j;omega) (by omega) j
  exact h3
theorem aRH (p:bF):(k:Nat)→∀ j,0≤(mY p k).getD j 0∧(mY p k).getD j 0≤4 * (k:Int)
 | 0=>fun j=>by
  have:(mY p 0).getD j 0=0:=by
   show (List.replicate p.2.1.length (0:Int)).getD j 0=0
   by_cases hj:j<p.2.1.length
   ·rw[aZ (by rw[List.length_replicate];exact hj),List.getElem_replicate]
   ·rw[aDE (by rw[List.length_replicate];omega)]
  omega
 | k+1=>fun j=>by
  have h1:=aJP (l:=fW (cC p k)) (aRH p k) (fW (cC p k)).length j
  have h2:=aCR (cC p k)
  rw[mY];omega
theorem bKA (p:bF):(k:Nat)→∀ s∈aG0 p k,0≤s∧s<(k:Int)
 | 0,s,h=>by cases h
 | k+1,s,h=>by
  rw[aG0,List.mem_append] at h
  rcases h with h|h
  ·have:=bKA p k s h;omega
  ·split at h
   ·have:=List.mem_singleton.1 h;omega
   ·cases h
theorem bI2 {x M:Int} (h:0≤x∧x≤M):-9223372036854775808≤x+1:=by omega
theorem bK9 {x M:Int} (h:0≤x∧x≤M) (hM:M≤1000000):x+1≤9223372036854775807:=by omega
theorem bH6 {p:bF} {j:Nat} (h:j<(fW p).length):0≤(fW p)[j]∧(fW p)[j]<(p.2.1.length:Int):=bKA p _ _ (List.getElem_mem h)
theorem bKJ {p:bF} (h:0<p.2.1.length):aPC p=decide (oX p=0):=by unfold aPC;rw[decide_eq_true h,Bool.true_and]
theorem aQ4 {p:bF} {k:Nat} (h:oX (cC p k)=0):(f:Nat)→aAB p f k=bEH p k
 | 0=>rfl
 | f+1=>if_pos h
theorem aLH {p:bF} {k:Nat} (hk:k<1000) (h:¬ oX (cC p k)=0):aAB p (1000 - k) k=aAB p (1000 - (k+1)) (k+1):=by
 rw[show 1000 - k=(1000 - (k+1))+1 by omega]
 exact if_neg h
theorem aH3 (p:bF):(f k:Nat)→∃ m,m≤f+k∧aAB p f k=bEH p m
 | 0,k=>⟨k,by omega,rfl⟩
 | f+1,k=>by
  by_cases h:oX (cC p k)=0
  ·exact ⟨k,by omega,if_pos h⟩
  ·obtain ⟨m,hm,e⟩:=aH3 p f (k+1)
   exact ⟨m,by omega,(if_neg h).trans e⟩
theorem bNL {e:TypeId} {t:Ty} (n:Nat) (g:Nat→t.D) (B:Nat) (h:∀ i,i<n→aY t (g i)≤B):aY (.slice e t) (mp n g)≤n+n * B:=by
 have h1:=aER (aY t) B (mp n g) (fun x hx=>by
  unfold mp at hx
  obtain ⟨i,hi,rfl⟩:=List.mem_map.1 hx
  exact h i (List.mem_range.1 hi))
 have h2:=eM n g
 rw[h2] at h1
 rw[bZ,h2];omega
theorem bMW (l:List gI):aY aU l=l.length:=by
 have e:aY aU l=l.length+(l.map (aY aP)).sum:=rfl
 rw[e,aKH (aY aP) l (fun _=>rfl)];rfl
theorem bLM (c:bI) (n:Nat) (s:Int):aY aA (aDG c n s)≤aY aE c.1+400:=by
 unfold aDG aAX
 split
 ·rw[fR]
  dsimp only
  have h1:=bMW (zZ c.2.2.1 (bS c.1 c.2.1) s (n:Int) (c.2.2.2.1.getD s.toNat false))
  have h2:=aHV c.2.2.1 (bS c.1 c.2.1) s (n:Int) (c.2.2.2.1.getD s.toNat false)
  have h3:=aZ8 (m:=c.1) (bE c.1 c.2.1 s).1.toNat (bE c.1 c.2.1 s).2.toNat
  have h4:=bI3 (List.drop (bE c.1 c.2.1 s).1.toNat (List.take (bE c.1 c.2.1 s).2.toNat c.1))
  have h5:=aQJ (e:=188) h4.1 h4.2
  have e0:aY pK ([]:List fJ)=0:=rfl
  have e1:aY aJ ([]:cZ)=0:=rfl
  have h5':aY aJ (xM (List.drop (bE c.1 c.2.1 s).1.toNat (List.take (bE c.1 c.2.1 s).2.toNat c.1))).1≤8+8 * 36:=h5
  simp only[List.length_nil]
  rw[e0,e1];omega
 ·exact Nat.zero_le _
theorem aKX {c:bI} {b:List bP} (h1:aY aC c≤2000000) (h2:aY aM b≤2000000):aY aG (lG c b)≤90000000:=by
 unfold lG
 split
 ·rename_i h
  obtain ⟨a1,a2,a3,a4,a5,a6,a7,a8⟩:=aNK h
  have hcl:=aL6 a7
  have hmm:aY aE c.1≤aY aC c:=Nat.le_add_right _ _
  have s1:=bNL (e:=121) (t:=aA) (bS c.1 c.2.1).toNat (fun s=>aDG c b.length (s:Int)) (aY aE c.1+400) (fun i _=>bLM _ _ _)
  have s2:=bNL (e:=157) (t:=aO) c.2.2.2.2.1.length (yS c) 0 (fun i _=>Nat.le_refl _)
  have s3:(bS c.1 c.2.1).toNat * (aY aE c.1+400)≤4 * (aY aE c.1+400):=Nat.mul_le_mul_right _ (by omega)
  rw[tE]
  dsimp only
  have s2':aY aL (mp c.2.2.2.2.1.length (yS c))≤c.2.2.2.2.1.length+c.2.2.2.2.1.length * 0:=s2
  omega
 ·exact Nat.zero_le _
theorem aCX {c:bI} {b:List bP} (h:eL c b=0):1≤(lG c b).2.1.length∧(lG c b).2.1.length≤4:=by
 obtain ⟨a1,a2,a3,a4,a5,a6,a7,a8⟩:=aNK h
 rw[← aT5 h]
 show 1≤(mp _ _).length∧(mp _ _).length≤4
 rw[eM];omega
theorem aVP {c:bI} {b:List bP} (h:¬ eL c b=0):(0,[],[],false)=iJ c b:=(if_neg h).symm
theorem bCQ {c:bI} {b:List bP} (h:eL c b=0):aAB (lG c b) 1000 0=iJ c b:=(if_pos h).symm
def dC:Con:=⟨37,(.bP9 aC aM),(.bP9 tI (.bP9 aB (.bP9 aB .bool))),[.val ⟨true,aC,[]⟩,.val ⟨false,aM,[]⟩],[⟨true,(.bP9 tI (.bP9 aB (.bP9 aB .bool))),[0,2,2,0]⟩],false,none,
 ((fun x=>aY aC x.1≤2000000∧aY aM x.2≤2000000):(bI × dI)→Prop),
 ((fun x=>iJ x.1 x.2):(bI × dI)→(Int × (cF × (cF × Bool))))⟩
def zR:T:=.call 0 (.Z 0) <|
 .bPA (.cmp .neq .i64) (.bPB tI tI (.Z 1) (.ci .i64 0)) <|
 .ite (.Z 2) (
  .ret (bG (.bP9 tI (.bP9 aB (.bP9 aB .bool))) [(.ci .i64 0),(.nl 3 tI),(.nl 3 tI),(.cb false)])) (
  .call 1 (.Z 0) <|
  .bPA (.bPD 121 aA) (aK aG 1 (.Z 3)) <|
  .bPA (.bPD 121 aA) (aK aG 1 (.Z 3)) <|
  .bPA (.rep 3 tI 8) (.Z 4) <|
  .bPA (.rep 3 tI 8) (.Z 5) <|
  .loop (.bP9 tI (.bP9 aB (.bP9 aB aG))) (bG (.bP9 tI (.bP9 aB (.bP9 aB aG))) [(.ci .i64 0),(.Z 7),(.Z 6),(.Z 3)]) <|
   .bPA (.cmp .lss .i64) (.bPB tI tI (.p1 tI (.bP9 aB (.bP9 aB aG)) (.Z 8)) (.ci .i64 1000)) <|
   .ite (.Z 9) (
    .call 2 (aQ (.bP9 tI (.bP9 aB (.bP9 aB aG))) 3 (.Z 8)) <|
    .bPA .not (.Z 10) <|
    .ite (.Z 11) (
     .call 3 (aQ (.bP9 tI (.bP9 aB (.bP9 aB aG))) 3 (.Z 8)) <|
     .bPA (.ar .add .i64) (.bPB tI tI (.p1 tI (.bP9 aB (.bP9 aB aG)) (.Z 8)) (.ci .i64 1)) <|
     .bPA (.bPD 3 tI) (aQ (.bP9 aG aB) 1 (.Z 12)) <|
     .loop aF (.bPB tI aB (.ci .i64 0) (aK (.bP9 tI (.bP9 aB (.bP9 aB aG))) 2 (.Z 8))) <|
      .bPA (.cmp .lss .i64) (.bPB tI tI (.p1 tI aB (.Z 15)) (.Z 14)) <|
      .ite (.Z 16) (
       .bPA (.bPE 3 tI) (.bPB aB tI (aQ (.bP9 aG aB) 1 (.Z 12)) (.p1 tI aB (.Z 15))) <|
       .bPA (.bPE 3 tI) (.bPB aB tI (aQ aF 1 (.Z 15)) (.Z 17)) <|
       .bPA (.bPE 3 tI) (.bPB aB tI (aQ aF 1 (.Z 15)) (.Z 17)) <|
       .bPA (.ar .add .i64) (.bPB tI tI (.Z 19) (.ci .i64 1)) <|
       .bPA (.bPE 3 tI) (.bPB aB tI (aQ aF 1 (.Z 15)) (.Z 17)) <|
       .bPA (.bPH 3 tI) (bG (.bP9 aB aP) [(aQ aF 1 (.Z 15)),(.Z 17),(.Z 20)]) <|
       .bPA (.ar .add .i64) (.bPB tI tI (.p1 tI aB (.Z 15)) (.ci .i64 1)) <|
       .bPC 0 (.bPB tI aB (.Z 23) (.Z 22))) (
       .bPA (.bPD 121 aA) (aK aG 1 (.p1 aG aB (.Z 12))) <|
       .loop aF (.bPB tI aB (.ci .i64 0) (aK (.bP9 tI (.bP9 aB (.bP9 aB aG))) 1 (.Z 8))) <|
        .bPA (.cmp .lss .i64) (.bPB tI tI (.p1 tI aB (.Z 18)) (.Z 17)) <|
        .ite (.Z 19) (
         .bPA (.bPE 121 aA) (.bPB (.slice 121 aA) tI (aK aG 1 (.p1 aG aB (.Z 12))) (.p1 tI aB (.Z 18))) <|
         .bPA (.bPE 3 tI) (.bPB aB tI (aQ aF 1 (.Z 18)) (.p1 tI aB (.Z 18))) <|
         .bPA (.bPE 3 tI) (.bPB aB tI (aQ aF 1 (.Z 18)) (.p1 tI aB (.Z 18))) <|
         .call 4 (.Z 20) <|
         .bPA (.mx .i64) (.bPB tI tI (.Z 22) (.Z 23)) <|
         .bPA (.bPE 3 tI) (.bPB aB tI (aQ aF 1 (.Z 18)) (.p1 tI aB (.Z 18))) <|
         .bPA (.bPH 3 tI) (bG (.bP9 aB aP) [(aQ aF 1 (.Z 18)),(.p1 tI aB (.Z 18)),(.Z 24)]) <|
         .bPA (.ar .add .i64) (.bPB tI tI (.p1 tI aB (.Z 18)) (.ci .i64 1)) <|
         .bPC 0 (.bPB tI aB (.Z 27) (.Z 26))) (
         .bPC 2 (bG (.bP9 tI (.bP9 aB (.bP9 aB aG))) [(.Z 13),(aQ aF 1 (.Z 18)),(aQ aF 1 (.Z 15)),(.p1 aG aB (.Z 12))])))) (
     .call 2 (aQ (.bP9 tI (.bP9 aB (.bP9 aB aG))) 3 (.Z 8)) <|
     .ret (bG (.bP9 tI (.bP9 aB (.bP9 aB .bool))) [(.p1 tI (.bP9 aB (.bP9 aB aG)) (.Z 8)),(aK (.bP9 tI (.bP9 aB (.bP9 aB aG))) 2 (.Z 8)),(aK (.bP9 tI (.bP9 aB (.bP9 aB aG))) 1 (.Z 8)),(.Z 12)]))) (
    .call 2 (aQ (.bP9 tI (.bP9 aB (.bP9 aB aG))) 3 (.Z 8)) <|
    .ret (bG (.bP9 tI (.bP9 aB (.bP9 aB .bool))) [(.p1 tI (.bP9 aB (.bP9 aB aG)) (.Z 8)),(aK (.bP9 tI (.bP9 aB (.bP9 aB aG))) 2 (.Z 8)),(aK (.bP9 tI (.bP9 aB (.bP9 aB aG))) 1 (.Z 8)),(.Z 10)])))
theorem aSI:bN Tryz.prog [kF,qR,aCE,qG,uI] dC false 3000 ⟨[(2986,2008,[.dr 29,.dr 28,.dr 24,.dr 27,.dr 26,.dr 23,.dr 22,.dr 25]++iL 21 18++iL 16 13++[.dr 2,.dr 0,.dr 1,.bx 16 0,.sl 15,.sl 14,.fz 5,.fz 6,.fz 7,.fz 8,.bx 9 0,.dk 5,.bx 9 1,.dk 6,.bx 9 2,.dk 7,.bx 9 3,.dk 8]),(2969,14015,[.tm 50 0,.sl 14]),(2960,22018,[.tm 65 0,.sl 15])],[]⟩ = .ok zR:=by kernel_rfl
set_option maxHeartbeats 1000000 in
theorem aST (x:bI × dI) (hx:okD (.bP9 aC aM) x) (hp:(fun x=>aY aC x.1≤2000000∧aY aM x.2≤2000000) x):zR.wp [kF,qR,aCE,qG,uI] [⟨(.bP9 aC aM),x⟩] [] (fun v=>v.as (.bP9 tI (.bP9 aB (.bP9 aB .bool)))=(fun x=>iJ x.1 x.2) x):=by
 obtain ⟨c,b⟩:=x
 obtain ⟨hp1,hp2⟩:aY aC c≤2000000∧aY aM b≤2000000:=hp
 have hcp:fF c:=xY (by omega)
 delta zR kF qR aCE qG uI;refine dD ?_
 refine dM ?_
 refine ⟨hcp,fun _=>⟨fun h=>aVP h,fun h=>⟨⟨by omega,by omega⟩,fun _=>?_⟩⟩⟩
 have hps:=aKX hp1 hp2
 have hpl:=aCX h
 have hsy:=bCQ h
 rw[← hsy]
 generalize lG c b=P at *
 (repeat' first|intro _|(with_reducible apply And.intro))
 all_goals first|omega|(unfold repC;omega)|(unfold repC maxLen;omega)|skip
 refine rL (fun k=>((k:Int),qC P k,mY P k,cC P k)) (fun k=>aAB P (1000 - k) k=aAB P 1000 0) 1000 rfl rfl fun I μ k hk hG _ go=>?_
 dsimp only
 refine dM ?_
 have hz:=xW P k
 have htl:=xS P k
 have htl2:=xS P (k+1)
 have hbl:=aDA P k
 have hml:=wV P k
 have hbb:=aRH P k
 have hz2:=xW P (k+1)
 have hdn:=bKJ (p:=cC P k) (by omega)
 constructor
 ·intro hlt
  refine ⟨by omega,fun hd=>⟨by omega,fun _=>?_⟩,fun hd=>⟨by omega,?_⟩⟩
  rotate_left
  ·rw[hd] at hdn
   have hl0:oX (cC P k)=0:=of_decide_eq_true hdn.symm
   rw[← hG,aQ4 hl0]
   unfold bEH;rw[hd,decide_eq_true hl0]
  have hl1:¬ oX (cC P k)=0:=fun h=>by rw[hd,decide_eq_true h] at hdn;cases hdn
  have hG2:=(aLH (by omega) hl1).symm.trans hG
  refine ⟨by omega,fun _ _=>?_⟩
  refine cJ (fun j=>((j:Int),nR (fW (cC P k)) (mY P k) j)) (List.length (fW (cC P k))) rfl fun I2 μ2 j hj _ go2=>?_
  dsimp only
  refine dM ?_
  have hbj:=aJP (l:=fW (cC P k)) hbb j
  have hbjl:=aCS (fW (cC P k)) (mY P k) j
  have hwl:=aCR (cC P k)
  by_cases hj':j<List.length (fW (cC P k))
  ·have hat:=bH6 hj'
   have hbx:=hbj ((fW (cC P k))[j]).toNat
   have hst:nR (fW (cC P k)) (mY P k) (j+1)=(nR (fW (cC P k)) (mY P k) j).set ((fW (cC P k))[j]).toNat ((nR (fW (cC P k)) (mY P k) j).getD ((fW (cC P k))[j]).toNat 0+1):=by rw[nR,aZ hj']
   simp only[aZ hj']
   (repeat' first|intro _|(refine go2 _ ?_ ?_ ?_)|(refine go2 _ ?_ ?_)|(with_reducible apply And.intro))
   all_goals first|omega|exact bI2 hbx|exact bK9 hbx (by omega)|(rw[hst];rfl)|skip
  have ej2:j=(fW (cC P k)).length:=by omega
  subst ej2
  (repeat' first|intro _|(with_reducible apply And.intro))
  all_goals first|omega|skip
  refine cJ (fun j=>((j:Int),upK (cC P (k+1)) (qC P k) j)) (cC P (k+1)).2.1.length rfl fun I3 μ3 j hj _ go3=>?_
  dsimp only
  refine dM ?_
  have hul:=aJZ (cC P (k+1)) (qC P k) j
  rw[show uP (cC P k) (fW (cC P k))=cC P (k+1) from rfl]
  by_cases hj':j<(cC P (k+1)).2.1.length
  ·have hsz:aY aA ((cC P (k+1)).2.1.getD j (aX aA))≤1000000000:=by
    rw[aZ hj']
    have h5:aY aA ((cC P (k+1)).2.1[j])≤aY (.slice 121 aA) (cC P (k+1)).2.1:=pR (List.getElem_mem hj')
    have h6:=tE (cC P (k+1))
    omega
   (repeat' first|intro _|(refine go3 _ ?_ ?_ ?_)|(refine go3 _ ?_ ?_)|(with_reducible apply And.intro))
   all_goals first|omega|exact hsz|rfl|skip
  ·skip
   have ej:j=(cC P (k+1)).2.1.length:=by omega
   subst ej
   (repeat' first|intro _|(refine go _ ?_ ?_ ?_)|(refine go _ ?_ ?_)|(with_reducible apply And.intro))
   all_goals first|omega|exact hG2|rfl|skip
 ·intro hge
  have ek:k=1000:=by omega
  subst ek
  refine ⟨by omega,?_⟩
  rw[← hG,hdn];rfl
set_option maxHeartbeats 1000000 in
theorem yK:Con.Holds Tryz.prog dC:=aS aV (aH aIF (aH aVS (aH bLA (aH aUM (aH aY8 aT))))) aSI aST
def dB:Con:=⟨36,(.bP9 aC aM),(.bP9 tI (.bP9 aB (.bP9 aB .bool))),[.val ⟨true,aC,[]⟩,.val ⟨false,aM,[]⟩],[⟨true,(.bP9 tI (.bP9 aB (.bP9 aB .bool))),[0,2,2,0]⟩],false,none,
 ((fun x=>aY aC x.1≤2000000∧aY aM x.2≤2000000):(bI × dI)→Prop),
 ((fun x=>iJ x.1 x.2):(bI × dI)→(Int × (cF × (cF × Bool))))⟩
def yL:T:=.call 0 (.Z 0) <|
 .bPA (.cmp .neq .i64) (.bPB tI tI (.Z 1) (.ci .i64 0)) <|
 .ite (.Z 2) (
  .ret (bG (.bP9 tI (.bP9 aB (.bP9 aB .bool))) [(.ci .i64 0),(.nl 3 tI),(.nl 3 tI),(.cb false)])) (
  .call 1 (.Z 0) <|
  .bPA (.bPD 121 aA) (aK aG 1 (.Z 3)) <|
  .bPA (.rep 3 tI 8) (.Z 4) <|
  .bPA (.bPD 121 aA) (aK aG 1 (.Z 3)) <|
  .bPA (.rep 3 tI 8) (.Z 6) <|
  .loop (.bP9 aB (.bP9 aB (.bP9 tI aG))) (bG (.bP9 aB (.bP9 aB (.bP9 tI aG))) [(.Z 7),(.Z 5),(.ci .i64 0),(.Z 3)]) <|
   .bPA (.cmp .lss .i64) (.bPB tI tI (aK (.bP9 aB (.bP9 aB (.bP9 tI aG))) 2 (.Z 8)) (.ci .i64 1000)) <|
   .ite (.Z 9) (
    .call 2 (aQ (.bP9 aB (.bP9 aB (.bP9 tI aG))) 3 (.Z 8)) <|
    .bPA (.cmp .gtr .i64) (.bPB tI tI (.Z 10) (.ci .i64 0)) <|
    .ite (.Z 11) (
     .call 3 (aQ (.bP9 aB (.bP9 aB (.bP9 tI aG))) 3 (.Z 8)) <|
     .loop aF (.bPB tI aB (.ci .i64 0) (aK (.bP9 aB (.bP9 aB (.bP9 tI aG))) 1 (.Z 8))) <|
      .bPA (.bPD 3 tI) (aQ (.bP9 aG aB) 1 (.Z 12)) <|
      .bPA (.cmp .lss .i64) (.bPB tI tI (.p1 tI aB (.Z 13)) (.Z 14)) <|
      .ite (.Z 15) (
       .bPA (.bPE 3 tI) (.bPB aB tI (aQ (.bP9 aG aB) 1 (.Z 12)) (.p1 tI aB (.Z 13))) <|
       .bPA (.bPE 3 tI) (.bPB aB tI (aQ (.bP9 aG aB) 1 (.Z 12)) (.p1 tI aB (.Z 13))) <|
       .bPA (.bPE 3 tI) (.bPB aB tI (aQ aF 1 (.Z 13)) (.Z 17)) <|
       .bPA (.bPE 3 tI) (.bPB aB tI (aQ aF 1 (.Z 13)) (.Z 17)) <|
       .bPA (.ar .add .i64) (.bPB tI tI (.Z 19) (.ci .i64 1)) <|
       .bPA (.bPE 3 tI) (.bPB aB tI (aQ aF 1 (.Z 13)) (.Z 16)) <|
       .bPA (.bPH 3 tI) (bG (.bP9 aB aP) [(aQ aF 1 (.Z 13)),(.Z 16),(.Z 20)]) <|
       .bPA (.ar .add .i64) (.bPB tI tI (.p1 tI aB (.Z 13)) (.ci .i64 1)) <|
       .bPC 0 (.bPB tI aB (.Z 23) (.Z 22))) (
       .loop aF (.bPB tI aB (.ci .i64 0) (.p1 aB (.bP9 aB (.bP9 tI aG)) (.Z 8))) <|
        .bPA (.bPD 121 aA) (aK aG 1 (.p1 aG aB (.Z 12))) <|
        .bPA (.cmp .lss .i64) (.bPB tI tI (.p1 tI aB (.Z 16)) (.Z 17)) <|
        .ite (.Z 18) (
         .bPA (.bPE 3 tI) (.bPB aB tI (aQ aF 1 (.Z 16)) (.p1 tI aB (.Z 16))) <|
         .bPA (.bPE 3 tI) (.bPB aB tI (aQ aF 1 (.Z 16)) (.p1 tI aB (.Z 16))) <|
         .bPA (.bPE 121 aA) (.bPB (.slice 121 aA) tI (aK aG 1 (.p1 aG aB (.Z 12))) (.p1 tI aB (.Z 16))) <|
         .call 4 (.Z 21) <|
         .bPA (.mx .i64) (.bPB tI tI (.Z 20) (.Z 22)) <|
         .bPA (.bPE 3 tI) (.bPB aB tI (aQ aF 1 (.Z 16)) (.p1 tI aB (.Z 16))) <|
         .bPA (.bPH 3 tI) (bG (.bP9 aB aP) [(aQ aF 1 (.Z 16)),(.p1 tI aB (.Z 16)),(.Z 23)]) <|
         .bPA (.ar .add .i64) (.bPB tI tI (.p1 tI aB (.Z 16)) (.ci .i64 1)) <|
         .bPC 0 (.bPB tI aB (.Z 26) (.Z 25))) (
         .bPA (.ar .add .i64) (.bPB tI tI (aK (.bP9 aB (.bP9 aB (.bP9 tI aG))) 2 (.Z 8)) (.ci .i64 1)) <|
         .bPC 2 (bG (.bP9 aB (.bP9 aB (.bP9 tI aG))) [(aQ aF 1 (.Z 16)),(aQ aF 1 (.Z 13)),(.Z 19),(.p1 aG aB (.Z 12))])))) (
     .call 2 (aQ (.bP9 aB (.bP9 aB (.bP9 tI aG))) 3 (.Z 8)) <|
     .bPA (.cmp .eql .i64) (.bPB tI tI (.Z 12) (.ci .i64 0)) <|
     .ret (bG (.bP9 tI (.bP9 aB (.bP9 aB .bool))) [(aK (.bP9 aB (.bP9 aB (.bP9 tI aG))) 2 (.Z 8)),(aK (.bP9 aB (.bP9 aB (.bP9 tI aG))) 1 (.Z 8)),(.p1 aB (.bP9 aB (.bP9 tI aG)) (.Z 8)),(.Z 13)]))) (
    .call 2 (aQ (.bP9 aB (.bP9 aB (.bP9 tI aG))) 3 (.Z 8)) <|
    .bPA (.cmp .eql .i64) (.bPB tI tI (.Z 10) (.ci .i64 0)) <|
    .ret (bG (.bP9 tI (.bP9 aB (.bP9 aB .bool))) [(aK (.bP9 aB (.bP9 aB (.bP9 tI aG))) 2 (.Z 8)),(aK (.bP9 aB (.bP9 aB (.bP9 tI aG))) 1 (.Z 8)),(.p1 aB (.bP9 aB (.bP9 tI aG)) (.Z 8)),(.Z 11)])))
theorem aSK:bN Tryz.prog [nN,qW,aAC,qH,sX] dB false 3000 ⟨[(2982,2008,iL 29 17++iL 15 11++[.dr 2,.dr 0,.dr 1,.sl 20,.sl 19,.fz 10,.fz 11,.fz 12,.fz 13,.bx 5 0,.nb 14,.bx 14 0,.dk 10,.bx 14 1,.dk 11,.bx 14 2,.dk 12,.bx 14 3,.dk 13]),(2969,14013,[.tm 9 0,.sl 19]),(2959,22016,[.tm 10 0,.sl 20])],[]⟩ = .ok yL:=by kernel_rfl
set_option maxHeartbeats 1000000 in
theorem aT1 (x:bI × dI) (hx:okD (.bP9 aC aM) x) (hp:(fun x=>aY aC x.1≤2000000∧aY aM x.2≤2000000) x):yL.wp [nN,qW,aAC,qH,sX] [⟨(.bP9 aC aM),x⟩] [] (fun v=>v.as (.bP9 tI (.bP9 aB (.bP9 aB .bool)))=(fun x=>iJ x.1 x.2) x):=by
 obtain ⟨c,b⟩:=x
 obtain ⟨hp1,hp2⟩:aY aC c≤2000000∧aY aM b≤2000000:=hp
 have hcp:fF c:=xY (by omega)
 delta yL nN qW aAC qH sX;refine dD ?_
 refine dM ?_
 refine ⟨hcp,fun _=>⟨fun h=>aVP h,fun h=>⟨⟨by omega,by omega⟩,fun _=>?_⟩⟩⟩
 have hps:=aKX hp1 hp2
 have hpl:=aCX h
 have hsy:=bCQ h
 rw[← hsy]
 generalize lG c b=P at *
 (repeat' first|intro _|(with_reducible apply And.intro))
 all_goals first|omega|(unfold repC;omega)|(unfold repC maxLen;omega)|skip
 refine rL (fun k=>(qC P k,mY P k,(k:Int),cC P k)) (fun k=>aAB P (1000 - k) k=aAB P 1000 0) 1000 rfl rfl fun I μ k hk hG _ go=>?_
 dsimp only
 refine dM ?_
 have hz:=xW P k
 have htl:=xS P k
 have htl2:=xS P (k+1)
 have hbl:=aDA P k
 have hml:=wV P k
 have hbb:=aRH P k
 have hz2:=xW P (k+1)
 have hlb:=bM0 (cC P k)
 constructor
 ·intro hlt
  refine ⟨by omega,fun _=>⟨fun hd=>⟨by omega,fun _=>?_⟩,fun hd=>⟨by omega,fun _=>?_⟩⟩⟩
  rotate_left
  ·have hl0:oX (cC P k)=0:=by omega
   rw[← hG,aQ4 hl0]
   unfold bEH;rw[hl0];rfl
  have hl1:¬ oX (cC P k)=0:=by omega
  have hG2:=(aLH (by omega) hl1).symm.trans hG
  refine cJ (fun j=>((j:Int),nR (fW (cC P k)) (mY P k) j)) (List.length (fW (cC P k))) rfl fun I2 μ2 j hj _ go2=>?_
  dsimp only
  refine dM ?_
  have hbj:=aJP (l:=fW (cC P k)) hbb j
  have hbjl:=aCS (fW (cC P k)) (mY P k) j
  have hwl:=aCR (cC P k)
  by_cases hj':j<List.length (fW (cC P k))
  ·have hat:=bH6 hj'
   have hbx:=hbj ((fW (cC P k))[j]).toNat
   have hst:nR (fW (cC P k)) (mY P k) (j+1)=(nR (fW (cC P k)) (mY P k) j).set ((fW (cC P k))[j]).toNat ((nR (fW (cC P k)) (mY P k) j).getD ((fW (cC P k))[j]).toNat 0+1):=by rw[nR,aZ hj']
   simp only[aZ hj']
   (repeat' first|intro _|(refine go2 _ ?_ ?_ ?_)|(refine go2 _ ?_ ?_)|(with_reducible apply And.intro))
   all_goals first|omega|exact bI2 hbx|exact bK9 hbx (by omega)|(rw[hst];rfl)|skip
  have ej2:j=(fW (cC P k)).length:=by omega
  subst ej2
  (repeat' first|intro _|(with_reducible apply And.intro))
  all_goals first|omega|skip
  refine cJ (fun j=>((j:Int),upK (cC P (k+1)) (qC P k) j)) (cC P (k+1)).2.1.length rfl fun I3 μ3 j hj _ go3=>?_
  dsimp only
  refine dM ?_
  have hul:=aJZ (cC P (k+1)) (qC P k) j
  rw[show uP (cC P k) (fW (cC P k))=cC P (k+1) from rfl]
  by_cases hj':j<(cC P (k+1)).2.1.length
  ·have hsz:aY aA ((cC P (k+1)).2.1.getD j (aX aA))≤1000000000:=by
    rw[aZ hj']
    have h5:aY aA ((cC P (k+1)).2.1[j])≤aY (.slice 121 aA) (cC P (k+1)).2.1:=pR (List.getElem_mem hj')
    have h6:=tE (cC P (k+1))
    omega
   (repeat' first|intro _|(refine go3 _ ?_ ?_ ?_)|(refine go3 _ ?_ ?_)|(with_reducible apply And.intro))
   all_goals first|omega|exact hsz|rfl|skip
  ·skip
   have ej:j=(cC P (k+1)).2.1.length:=by omega
   subst ej
   (repeat' first|intro _|(refine go _ ?_ ?_ ?_)|(refine go _ ?_ ?_)|(with_reducible apply And.intro))
   all_goals first|omega|exact hG2|rfl|skip
 ·intro hge
  have ek:k=1000:=by omega
  subst ek
  refine ⟨by omega,fun _=>?_⟩
  rw[← hG];rfl
set_option maxHeartbeats 1000000 in
theorem zA:Con.Holds Tryz.prog dB:=aS aV (aH aPR (aH aX1 (aH bI8 (aH aV0 (aH aYZ aT))))) aSK aT1
end
end Go.Proofs.YtmfpkkbhnmkfdaaGreat
