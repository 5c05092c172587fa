/- CoreM: lemmas. No conditions. -/
import Derived.Test.YtabamggdmdednaaGreatCoreS
namespace Go.Proofs.YtabamggdmdednaaGreat
noncomputable section
set_option maxRecDepth 100000
open Go.ChangeShapes Go.WideShapes Go.ChangeAt Go.RowKit Go.Deep
set_option linter.unusedVariables false
set_option linter.unusedSimpArgs false
def cC (p:bE):Nat→bE
 | 0=>p
 | k+1=>uW (cC p k) (fF (cC p k))
def nQ (l b:List Int):Nat→List Int
 | 0=>b
 | j+1=>(nQ l b j).set (l.getD j 0).toNat ((nQ l b j).getD (l.getD j 0).toNat 0+1)
def mM (p:bE):Nat→List Int
 | 0=>List.replicate p.2.1.length 0
 | k+1=>nQ (fF (cC p k)) (mM p k) (fF (cC p k)).length
def upK (q:bE) (b:List Int):Nat→List Int
 | 0=>b
 | j+1=>(upK q b j).set j (max ((upK q b j).getD j 0) (bC6 (q.2.1.getD j (aW aA))))
def aAF (p:bE):Nat→List Int
 | 0=>List.replicate p.2.1.length 0
 | k+1=>upK (cC p (k+1)) (aAF p k) (cC p (k+1)).2.1.length
def bN1 (p:bE) (k:Nat):bDX:=((k:Int),mM p k,aAF p k,decide (qL (cC p k)=0))
def vB (p:bE):Nat→Nat→bDX
 | 0,k=>bN1 p k
 | f+1,k=>if qL (cC p k)=0 then bN1 p k else vB p f (k+1)
def uV (c:bG) (b:List bT):bDX:=if fJ c b=0 then vB (vK c b) 1000 0 else (0,[],[],false)
theorem bGR (p:bE) (s:Int):(fI p s).2.1.length=p.2.1.length:=by unfold fI;split <;> simp
theorem aZ3 (p:bE):(l:List Int)→(uW p l).2.1.length=p.2.1.length
 | []=>rfl
 | s :: l=>by show (uW (fI p s) l).2.1.length=_;rw[aZ3 (fI p s) l,bGR]
theorem yJ (p:bE):(k:Nat)→(cC p k).2.1.length=p.2.1.length
 | 0=>rfl
 | k+1=>by rw[cC,aZ3,yJ p k]
theorem aCI (p:bE):(k:Nat)→bM aJ (cC p k)≤bM aJ p+800 * k
 | 0=>Nat.le_refl _
 | k+1=>by
  have h1:=aCI p k
  have h2:=aU9 (cC p k) (fF (cC p k))
  have h3:=aDV (cC p k)
  rw[cC];omega
theorem aE3 (l b:List Int):(j:Nat)→(nQ l b j).length=b.length
 | 0=>rfl
 | j+1=>by rw[nQ,List.length_set,aE3 l b j]
theorem aKY (q:bE) (b:List Int):(j:Nat)→(upK q b j).length=b.length
 | 0=>rfl
 | j+1=>by rw[upK,List.length_set,aKY q b j]
theorem aJC (p:bE):(k:Nat)→(mM p k).length=p.2.1.length
 | 0=>List.length_replicate
 | k+1=>by rw[mM,aE3,aJC p k]
theorem aIL (p:bE):(k:Nat)→(aAF p k).length=p.2.1.length
 | 0=>List.length_replicate
 | k+1=>by rw[aAF,aKY,aIL p k]
theorem bCW {l:List Int} {i:Nat} {x:Int} {A B:Int} (h:∀ j,A≤l.getD j 0∧l.getD j 0≤B) (hx:A≤x∧x≤B) (j:Nat):A≤(l.set i x).getD j 0∧(l.set i x).getD j 0≤B:=by
 by_cases hj:j<l.length
 ·rw[aZ (show j<(l.set i x).length by rw[List.length_set];exact hj),List.getElem_set]
  split
  ·exact hx
  ·have:=h j;rw[aZ hj] at this;exact this
 ·have:=h j
  rw[aH6 (by omega)] at this
  rw[aH6 (by rw[List.length_set];omega)];exact this
theorem aKU {l b:List Int} {M:Int} (h:∀ j,0≤b.getD j 0∧b.getD j 0≤M):(k:Nat)→∀ j,0≤(nQ l b k).getD j 0∧(nQ l b k).getD j 0≤M+(k:Int)
 | 0=>fun j=>by have:=h j;show 0≤b.getD j 0∧_;unfold nQ;omega
 | k+1=>fun j=>by
  have h1:=aKU (l:=l) h k
  have h2:=h1 (l.getD k 0).toNat
  have h3:=bCW (l:=nQ l b k) (i:=(l.getD k 0).toNat) (x:=(nQ l b k).getD (l.getD k 0).toNat 0+1) (A:=0) (B:=M+((k+1:Nat):Int)) (fun j=>by have:=h1 j;omega) (by omega) j
  exact h3
theorem aT6 (p:bE):(k:Nat)→∀ j,0≤(mM p k).getD j 0∧(mM p k).getD j 0≤4 * (k:Int)
 | 0=>fun j=>by
  have:(mM p 0).getD j 0=0:=by
   show (List.replicate p.2.1.length (0:Int)).getD j 0=0
   by_cases hj:j<p.2.1.length
   ·rw[aZ (by rw[List.length_replicate];exact hj),List.getElem_replicate]
   ·rw[aH6 (by rw[List.length_replicate];omega)]
  omega
 | k+1=>fun j=>by
  have h1:=aKU (l:=fF (cC p k)) (aT6 p k) (fF (cC p k)).length j
  have h2:=aDV (cC p k)
  rw[mM];omega
theorem bKX (p:bE):(k:Nat)→∀ s∈aH2 p k,0≤s∧s<(k:Int)
 | 0,s,h=>by cases h
 | k+1,s,h=>by
  rw[aH2,List.mem_append] at h
  rcases h with h|h
  ·have:=bKX p k s h;omega
  ·split at h
   ·have:=List.mem_singleton.1 h;omega
   ·cases h
theorem bKS {x M:Int} (h:0≤x∧x≤M):-9223372036854775808≤x+1:=by omega
theorem bKH {x M:Int} (h:0≤x∧x≤M) (hM:M≤1000000):x+1≤9223372036854775807:=by omega
theorem bMZ {p:bE} {j:Nat} (h:j<(fF p).length):0≤(fF p)[j]∧(fF p)[j]<(p.2.1.length:Int):=bKX p _ _ (List.getElem_mem h)
theorem bKG {p:bE} (h:0<p.2.1.length):aQO p=decide (qL p=0):=by unfold aQO;rw[decide_eq_true h,Bool.true_and]
theorem aQR {p:bE} {k:Nat} (h:qL (cC p k)=0):(f:Nat)→vB p f k=bN1 p k
 | 0=>rfl
 | f+1=>if_pos h
theorem aOR {p:bE} {k:Nat} (hk:k<1000) (h:¬ qL (cC p k)=0):vB p (1000 - k) k=vB p (1000 - (k+1)) (k+1):=by
 rw[show 1000 - k=(1000 - (k+1))+1 by omega]
 exact if_neg h
theorem bQ0 {e:TypeId} {t:Ty} (n:Nat) (g:Nat→t.D) (B:Nat) (h:∀ i,i<n→bM t (g i)≤B):bM (.slice e t) (mp n g)≤n+n * B:=by
 have h1:=aG7 (bM t) B (mp n g) (fun x hx=>by
  unfold mp at hx
  obtain ⟨i,hi,rfl⟩:=List.mem_map.1 hx
  exact h i (List.mem_range.1 hi))
 have h2:=fL n g
 rw[h2] at h1
 rw[dG,h2];omega
theorem bNT (l:List fX):bM aU l=l.length:=by
 have e:bM aU l=l.length+(l.map (bM aD)).sum:=rfl
 rw[e,aWF (bM aD) l (fun _=>rfl)];rfl
theorem bPL (c:bG) (n:Nat) (s:Int):bM aA (aE5 c n s)≤bM aE c.1+400:=by
 unfold aE5 aBI
 split
 ·rw[fN]
  dsimp only
  have h1:=bNT (aAG c.2.2.1 (bW c.1 c.2.1) s (n:Int) (c.2.2.2.1.getD s.toNat false))
  have h2:=aJM c.2.2.1 (bW c.1 c.2.1) s (n:Int) (c.2.2.2.1.getD s.toNat false)
  have h3:=bDR (m:=c.1) (bD c.1 c.2.1 s).1.toNat (bD c.1 c.2.1 s).2.toNat
  have h4:=bL1 (List.drop (bD c.1 c.2.1 s).1.toNat (List.take (bD c.1 c.2.1 s).2.toNat c.1))
  have h5:=aSE (e:=119) h4.1 h4.2
  have e0:bM pI ([]:List eX)=0:=rfl
  have e1:bM aL ([]:cZ)=0:=rfl
  have h5':bM aL (yD (List.drop (bD c.1 c.2.1 s).1.toNat (List.take (bD c.1 c.2.1 s).2.toNat c.1))).1≤8+8 * 36:=h5
  simp only[List.length_nil]
  rw[e0,e1];omega
 ·exact Nat.zero_le _
theorem aWE {c:bG} {b:List bT} (h1:bM aC c≤2000000) (h2:bM aG b≤2000000):bM aJ (vK c b)≤90000000:=by
 unfold vK
 split
 ·rename_i h
  obtain ⟨a1,a2,a3,a4,a5,a6,a7,a8⟩:=aT0 h
  have hcl:=aNN a7
  have hmm:bM aE c.1≤bM aC c:=Nat.le_add_right _ _
  have s1:=bQ0 (e:=55) (t:=aA) (bW c.1 c.2.1).toNat (fun s=>aE5 c b.length (s:Int)) (bM aE c.1+400) (fun i _=>bPL _ _ _)
  have s2:=bQ0 (e:=75) (t:=aN) c.2.2.2.2.1.length (zP c) 0 (fun i _=>Nat.le_refl _)
  have s3:(bW c.1 c.2.1).toNat * (bM aE c.1+400)≤4 * (bM aE c.1+400):=Nat.mul_le_mul_right _ (by omega)
  rw[wV]
  dsimp only
  have s2':bM aM (mp c.2.2.2.2.1.length (zP c))≤c.2.2.2.2.1.length+c.2.2.2.2.1.length * 0:=s2
  omega
 ·exact Nat.zero_le _
theorem aQP {c:bG} {b:List bT} (h:fJ c b=0):1≤(vK c b).2.1.length∧(vK c b).2.1.length≤4:=by
 obtain ⟨a1,a2,a3,a4,a5,a6,a7,a8⟩:=aT0 h
 rw[← bAU h]
 show 1≤(mp _ _).length∧(mp _ _).length≤4
 rw[fL];omega
theorem bPO {c:bG} {b:List bT} (h:¬ fJ c b=0):(0,[],[],false)=uV c b:=(if_neg h).symm
theorem bQ3 {c:bG} {b:List bT} (h:fJ c b=0):vB (vK c b) 1000 0=uV c b:=(if_pos h).symm
def jA:Con:=⟨7,(.bRW aC aG),(.bRW tI (.bRW aB (.bRW aB .bool))),[.val ⟨true,aC,[]⟩,.val ⟨false,aG,[]⟩],[⟨true,(.bRW tI (.bRW aB (.bRW aB .bool))),[0,2,2,0]⟩],false,none,
 ((fun x=>bM aC x.1≤2000000∧bM aG x.2≤2000000):(bG × bO)→Prop),
 ((fun x=>uV x.1 x.2):(bG × bO)→(Int × (bK × (bK × Bool))))⟩
def zC:T:=.call 0 (.Z 0) <|
 .bRX (.cmp .neq .i64) (.bRY tI tI (.Z 1) (.ci .i64 0)) <|
 .ite (.Z 2) (
  .ret (bB (.bRW tI (.bRW aB (.bRW aB .bool))) [(.ci .i64 0),(.nl 3 tI),(.nl 3 tI),(.cb false)])) (
  .call 1 (.Z 0) <|
  .bRX (.bS0 55 aA) (aK aJ 1 (.Z 3)) <|
  .bRX (.bS0 55 aA) (aK aJ 1 (.Z 3)) <|
  .bRX (.rep 3 tI 8) (.Z 4) <|
  .bRX (.rep 3 tI 8) (.Z 5) <|
  .loop (.bRW aB (.bRW aB (.bRW tI aJ))) (bB (.bRW aB (.bRW aB (.bRW tI aJ))) [(.Z 7),(.Z 6),(.ci .i64 0),(.Z 3)]) <|
   .bRX (.cmp .lss .i64) (.bRY tI tI (aK (.bRW aB (.bRW aB (.bRW tI aJ))) 2 (.Z 8)) (.ci .i64 1000)) <|
   .ite (.Z 9) (
    .call 2 (aP (.bRW aB (.bRW aB (.bRW tI aJ))) 3 (.Z 8)) <|
    .bRX .not (.Z 10) <|
    .ite (.Z 11) (
     .call 3 (aP (.bRW aB (.bRW aB (.bRW tI aJ))) 3 (.Z 8)) <|
     .bRX (.ar .add .i64) (.bRY tI tI (aK (.bRW aB (.bRW aB (.bRW tI aJ))) 2 (.Z 8)) (.ci .i64 1)) <|
     .bRX (.bS0 3 tI) (aP (.bRW aJ aB) 1 (.Z 12)) <|
     .loop aH (.bRY tI aB (.ci .i64 0) (aK (.bRW aB (.bRW aB (.bRW tI aJ))) 1 (.Z 8))) <|
      .bRX (.cmp .lss .i64) (.bRY tI tI (.p1 tI aB (.Z 15)) (.Z 14)) <|
      .ite (.Z 16) (
       .bRX (.bS1 3 tI) (.bRY aB tI (aP (.bRW aJ aB) 1 (.Z 12)) (.p1 tI aB (.Z 15))) <|
       .bRX (.bS1 3 tI) (.bRY aB tI (aP aH 1 (.Z 15)) (.Z 17)) <|
       .bRX (.bS1 3 tI) (.bRY aB tI (aP aH 1 (.Z 15)) (.Z 17)) <|
       .bRX (.ar .add .i64) (.bRY tI tI (.Z 19) (.ci .i64 1)) <|
       .bRX (.bS1 3 tI) (.bRY aB tI (aP aH 1 (.Z 15)) (.Z 17)) <|
       .bRX (.bS4 3 tI) (bB (.bRW aB aD) [(aP aH 1 (.Z 15)),(.Z 17),(.Z 20)]) <|
       .bRX (.ar .add .i64) (.bRY tI tI (.p1 tI aB (.Z 15)) (.ci .i64 1)) <|
       .bRZ 0 (.bRY tI aB (.Z 23) (.Z 22))) (
       .bRX (.bS0 55 aA) (aK aJ 1 (.p1 aJ aB (.Z 12))) <|
       .loop aH (.bRY tI aB (.ci .i64 0) (.p1 aB (.bRW aB (.bRW tI aJ)) (.Z 8))) <|
        .bRX (.cmp .lss .i64) (.bRY tI tI (.p1 tI aB (.Z 18)) (.Z 17)) <|
        .ite (.Z 19) (
         .bRX (.bS1 55 aA) (.bRY (.slice 55 aA) tI (aK aJ 1 (.p1 aJ aB (.Z 12))) (.p1 tI aB (.Z 18))) <|
         .bRX (.bS1 3 tI) (.bRY aB tI (aP aH 1 (.Z 18)) (.p1 tI aB (.Z 18))) <|
         .bRX (.bS1 3 tI) (.bRY aB tI (aP aH 1 (.Z 18)) (.p1 tI aB (.Z 18))) <|
         .call 4 (.Z 20) <|
         .bRX (.mx .i64) (.bRY tI tI (.Z 22) (.Z 23)) <|
         .bRX (.bS1 3 tI) (.bRY aB tI (aP aH 1 (.Z 18)) (.p1 tI aB (.Z 18))) <|
         .bRX (.bS4 3 tI) (bB (.bRW aB aD) [(aP aH 1 (.Z 18)),(.p1 tI aB (.Z 18)),(.Z 24)]) <|
         .bRX (.ar .add .i64) (.bRY tI tI (.p1 tI aB (.Z 18)) (.ci .i64 1)) <|
         .bRZ 0 (.bRY tI aB (.Z 27) (.Z 26))) (
         .bRZ 2 (bB (.bRW aB (.bRW aB (.bRW tI aJ))) [(aP aH 1 (.Z 18)),(aP aH 1 (.Z 15)),(.Z 13),(.p1 aJ aB (.Z 12))])))) (
     .call 2 (aP (.bRW aB (.bRW aB (.bRW tI aJ))) 3 (.Z 8)) <|
     .ret (bB (.bRW tI (.bRW aB (.bRW aB .bool))) [(aK (.bRW aB (.bRW aB (.bRW tI aJ))) 2 (.Z 8)),(aK (.bRW aB (.bRW aB (.bRW tI aJ))) 1 (.Z 8)),(.p1 aB (.bRW aB (.bRW tI aJ)) (.Z 8)),(.Z 12)]))) (
    .call 2 (aP (.bRW aB (.bRW aB (.bRW tI aJ))) 3 (.Z 8)) <|
    .ret (bB (.bRW tI (.bRW aB (.bRW aB .bool))) [(aK (.bRW aB (.bRW aB (.bRW tI aJ))) 2 (.Z 8)),(aK (.bRW aB (.bRW aB (.bRW tI aJ))) 1 (.Z 8)),(.p1 aB (.bRW aB (.bRW tI aJ)) (.Z 8)),(.Z 10)])))
theorem aV3:bI Tryz.prog [nS,rA,aBU,qR,tU] jA false 3000 ⟨[(2986,2008,[.dr 29,.dr 28,.dr 24,.dr 27,.dr 26,.dr 23,.dr 22,.dr 25]++gQ 21 18++gQ 16 13++[.dr 2,.dr 0,.dr 1,.sl 18,.sl 17,.bx 14 0,.fz 5,.fz 6,.fz 7,.fz 8,.bx 9 0,.dk 5,.bx 9 1,.dk 6,.bx 9 2,.dk 7,.bx 9 3,.dk 8]),(2969,14015,[.tm 50 0,.sl 17]),(2960,22018,[.tm 65 0,.sl 18])],[]⟩ = .ok zC:=by kernel_rfl
set_option maxHeartbeats 1000000 in
theorem aTY (x:bG × bO) (hx:okD (.bRW aC aG) x) (hp:(fun x=>bM aC x.1≤2000000∧bM aG x.2≤2000000) x):zC.wp [nS,rA,aBU,qR,tU] [⟨(.bRW aC aG),x⟩] [] (fun v=>v.as (.bRW tI (.bRW aB (.bRW aB .bool)))=(fun x=>uV x.1 x.2) x):=by
 obtain ⟨c,b⟩:=x
 obtain ⟨hp1,hp2⟩:bM aC c≤2000000∧bM aG b≤2000000:=hp
 have hcp:fO c:=aHK (by omega)
 delta zC nS rA aBU qR tU;refine cW ?_
 refine dB ?_
 refine ⟨hcp,fun _=>⟨fun h=>bPO h,fun h=>⟨⟨by omega,by omega⟩,fun _=>?_⟩⟩⟩
 have hps:=aWE hp1 hp2
 have hpl:=aQP h
 have hsy:=bQ3 h
 rw[← hsy]
 generalize vK c b=P at *
 (repeat' first|intro _|(with_reducible apply And.intro))
 all_goals first|omega|(unfold repC;omega)|(unfold repC maxLen;omega)|skip
 first
  | refine pA (fun k=>((k:Int),aAF P k,mM P k,cC P k)) (fun k=>vB P (1000 - k) k=vB P 1000 0) 1000 rfl rfl fun I μ k hk hG _ go=>?_
  | refine pA (fun k=>(aAF P k,mM P k,(k:Int),cC P k)) (fun k=>vB P (1000 - k) k=vB P 1000 0) 1000 rfl rfl fun I μ k hk hG _ go=>?_
 dsimp only
 refine dB ?_
 have hz:=aCI P k
 have htl:=yJ P k
 have htl2:=yJ P (k+1)
 have hbl:=aJC P k
 have hml:=aIL P k
 have hbb:=aT6 P k
 have hz2:=aCI P (k+1)
 have hdn:=bKG (p:=cC P k) (by omega)
 constructor
 ·intro hlt
  refine ⟨by omega,fun hd=>⟨by omega,fun _=>?_⟩,fun hd=>⟨by omega,?_⟩⟩
  rotate_left
  ·rw[hd] at hdn
   have hl0:qL (cC P k)=0:=of_decide_eq_true hdn.symm
   rw[← hG,aQR hl0]
   unfold bN1;rw[hd,decide_eq_true hl0]
  have hl1:¬ qL (cC P k)=0:=fun h=>by rw[hd,decide_eq_true h] at hdn;cases hdn
  have hG2:=(aOR (by omega) hl1).symm.trans hG
  refine ⟨by omega,fun _ _=>?_⟩
  refine cN (fun j=>((j:Int),nQ (fF (cC P k)) (mM P k) j)) (List.length (fF (cC P k))) rfl fun I2 μ2 j hj _ go2=>?_
  dsimp only
  refine dB ?_
  have hbj:=aKU (l:=fF (cC P k)) hbb j
  have hbjl:=aE3 (fF (cC P k)) (mM P k) j
  have hwl:=aDV (cC P k)
  by_cases hj':j<List.length (fF (cC P k))
  ·have hat:=bMZ hj'
   have hbx:=hbj ((fF (cC P k))[j]).toNat
   have hst:nQ (fF (cC P k)) (mM P k) (j+1)=(nQ (fF (cC P k)) (mM P k) j).set ((fF (cC P k))[j]).toNat ((nQ (fF (cC P k)) (mM P k) j).getD ((fF (cC P k))[j]).toNat 0+1):=by rw[nQ,aZ hj']
   simp only[aZ hj']
   (repeat' first|intro _|(refine go2 _ ?_ ?_ ?_)|(refine go2 _ ?_ ?_)|(with_reducible apply And.intro))
   all_goals first|omega|exact bKS hbx|exact bKH hbx (by omega)|(rw[hst];rfl)|skip
  have ej2:j=(fF (cC P k)).length:=by omega
  subst ej2
  (repeat' first|intro _|(with_reducible apply And.intro))
  all_goals first|omega|skip
  refine cN (fun j=>((j:Int),upK (cC P (k+1)) (aAF P k) j)) (cC P (k+1)).2.1.length rfl fun I3 μ3 j hj _ go3=>?_
  dsimp only
  refine dB ?_
  have hul:=aKY (cC P (k+1)) (aAF P k) j
  rw[show uW (cC P k) (fF (cC P k))=cC P (k+1) from rfl]
  by_cases hj':j<(cC P (k+1)).2.1.length
  ·have hsz:bM aA ((cC P (k+1)).2.1.getD j (aW aA))≤1000000000:=by
    rw[aZ hj']
    have h5:bM aA ((cC P (k+1)).2.1[j])≤bM (.slice 55 aA) (cC P (k+1)).2.1:=sC (List.getElem_mem hj')
    have h6:=wV (cC P (k+1))
    omega
   (repeat' first|intro _|(refine go3 _ ?_ ?_ ?_)|(refine go3 _ ?_ ?_)|(with_reducible apply And.intro))
   all_goals first|omega|exact hsz|rfl|skip
  ·skip
   have ej:j=(cC P (k+1)).2.1.length:=by omega
   subst ej
   (repeat' first|intro _|(refine go _ ?_ ?_ ?_)|(refine go _ ?_ ?_)|(with_reducible apply And.intro))
   all_goals first|omega|exact hG2|rfl|skip
 ·intro hge
  have ek:k=1000:=by omega
  subst ek
  refine ⟨by omega,?_⟩
  rw[← hG,hdn];rfl
set_option maxHeartbeats 1000000 in
theorem aHW:Con.Holds Tryz.prog jA:=aS aV (aI aR5 (aI aVP (aI bKC (aI aXG (aI bAE aQ))))) aV3 aTY
def oQ:Con:=⟨16,(.bRW aC aG),(.bRW tI (.bRW aB (.bRW aB .bool))),[.val ⟨true,aC,[]⟩,.val ⟨false,aG,[]⟩],[⟨true,(.bRW tI (.bRW aB (.bRW aB .bool))),[0,2,2,0]⟩],false,none,
 ((fun x=>bM aC x.1≤2000000∧bM aG x.2≤2000000):(bG × bO)→Prop),
 ((fun x=>uV x.1 x.2):(bG × bO)→(Int × (bK × (bK × Bool))))⟩
def zM:T:=.call 0 (.Z 0) <|
 .bRX (.cmp .neq .i64) (.bRY tI tI (.Z 1) (.ci .i64 0)) <|
 .ite (.Z 2) (
  .ret (bB (.bRW tI (.bRW aB (.bRW aB .bool))) [(.ci .i64 0),(.nl 3 tI),(.nl 3 tI),(.cb false)])) (
  .call 1 (.Z 0) <|
  .bRX (.bS0 55 aA) (aK aJ 1 (.Z 3)) <|
  .bRX (.rep 3 tI 8) (.Z 4) <|
  .bRX (.bS0 55 aA) (aK aJ 1 (.Z 3)) <|
  .bRX (.rep 3 tI 8) (.Z 6) <|
  .loop (.bRW aB (.bRW aB (.bRW tI aJ))) (bB (.bRW aB (.bRW aB (.bRW tI aJ))) [(.Z 7),(.Z 5),(.ci .i64 0),(.Z 3)]) <|
   .bRX (.cmp .lss .i64) (.bRY tI tI (aK (.bRW aB (.bRW aB (.bRW tI aJ))) 2 (.Z 8)) (.ci .i64 1000)) <|
   .ite (.Z 9) (
    .call 2 (aP (.bRW aB (.bRW aB (.bRW tI aJ))) 3 (.Z 8)) <|
    .bRX (.cmp .gtr .i64) (.bRY tI tI (.Z 10) (.ci .i64 0)) <|
    .ite (.Z 11) (
     .call 3 (aP (.bRW aB (.bRW aB (.bRW tI aJ))) 3 (.Z 8)) <|
     .loop aH (.bRY tI aB (.ci .i64 0) (aK (.bRW aB (.bRW aB (.bRW tI aJ))) 1 (.Z 8))) <|
      .bRX (.bS0 3 tI) (aP (.bRW aJ aB) 1 (.Z 12)) <|
      .bRX (.cmp .lss .i64) (.bRY tI tI (.p1 tI aB (.Z 13)) (.Z 14)) <|
      .ite (.Z 15) (
       .bRX (.bS1 3 tI) (.bRY aB tI (aP (.bRW aJ aB) 1 (.Z 12)) (.p1 tI aB (.Z 13))) <|
       .bRX (.bS1 3 tI) (.bRY aB tI (aP (.bRW aJ aB) 1 (.Z 12)) (.p1 tI aB (.Z 13))) <|
       .bRX (.bS1 3 tI) (.bRY aB tI (aP aH 1 (.Z 13)) (.Z 17)) <|
       .bRX (.bS1 3 tI) (.bRY aB tI (aP aH 1 (.Z 13)) (.Z 17)) <|
       .bRX (.ar .add .i64) (.bRY tI tI (.Z 19) (.ci .i64 1)) <|
       .bRX (.bS1 3 tI) (.bRY aB tI (aP aH 1 (.Z 13)) (.Z 16)) <|
       .bRX (.bS4 3 tI) (bB (.bRW aB aD) [(aP aH 1 (.Z 13)),(.Z 16),(.Z 20)]) <|
       .bRX (.ar .add .i64) (.bRY tI tI (.p1 tI aB (.Z 13)) (.ci .i64 1)) <|
       .bRZ 0 (.bRY tI aB (.Z 23) (.Z 22))) (
       .loop aH (.bRY tI aB (.ci .i64 0) (.p1 aB (.bRW aB (.bRW tI aJ)) (.Z 8))) <|
        .bRX (.bS0 55 aA) (aK aJ 1 (.p1 aJ aB (.Z 12))) <|
        .bRX (.cmp .lss .i64) (.bRY tI tI (.p1 tI aB (.Z 16)) (.Z 17)) <|
        .ite (.Z 18) (
         .bRX (.bS1 3 tI) (.bRY aB tI (aP aH 1 (.Z 16)) (.p1 tI aB (.Z 16))) <|
         .bRX (.bS1 3 tI) (.bRY aB tI (aP aH 1 (.Z 16)) (.p1 tI aB (.Z 16))) <|
         .bRX (.bS1 55 aA) (.bRY (.slice 55 aA) tI (aK aJ 1 (.p1 aJ aB (.Z 12))) (.p1 tI aB (.Z 16))) <|
         .call 4 (.Z 21) <|
         .bRX (.mx .i64) (.bRY tI tI (.Z 20) (.Z 22)) <|
         .bRX (.bS1 3 tI) (.bRY aB tI (aP aH 1 (.Z 16)) (.p1 tI aB (.Z 16))) <|
         .bRX (.bS4 3 tI) (bB (.bRW aB aD) [(aP aH 1 (.Z 16)),(.p1 tI aB (.Z 16)),(.Z 23)]) <|
         .bRX (.ar .add .i64) (.bRY tI tI (.p1 tI aB (.Z 16)) (.ci .i64 1)) <|
         .bRZ 0 (.bRY tI aB (.Z 26) (.Z 25))) (
         .bRX (.ar .add .i64) (.bRY tI tI (aK (.bRW aB (.bRW aB (.bRW tI aJ))) 2 (.Z 8)) (.ci .i64 1)) <|
         .bRZ 2 (bB (.bRW aB (.bRW aB (.bRW tI aJ))) [(aP aH 1 (.Z 16)),(aP aH 1 (.Z 13)),(.Z 19),(.p1 aJ aB (.Z 12))])))) (
     .call 2 (aP (.bRW aB (.bRW aB (.bRW tI aJ))) 3 (.Z 8)) <|
     .bRX (.cmp .eql .i64) (.bRY tI tI (.Z 12) (.ci .i64 0)) <|
     .ret (bB (.bRW tI (.bRW aB (.bRW aB .bool))) [(aK (.bRW aB (.bRW aB (.bRW tI aJ))) 2 (.Z 8)),(aK (.bRW aB (.bRW aB (.bRW tI aJ))) 1 (.Z 8)),(.p1 aB (.bRW aB (.bRW tI aJ)) (.Z 8)),(.Z 13)]))) (
    .call 2 (aP (.bRW aB (.bRW aB (.bRW tI aJ))) 3 (.Z 8)) <|
    .bRX (.cmp .eql .i64) (.bRY tI tI (.Z 10) (.ci .i64 0)) <|
    .ret (bB (.bRW tI (.bRW aB (.bRW aB .bool))) [(aK (.bRW aB (.bRW aB (.bRW tI aJ))) 2 (.Z 8)),(aK (.bRW aB (.bRW aB (.bRW tI aJ))) 1 (.Z 8)),(.p1 aB (.bRW aB (.bRW tI aJ)) (.Z 8)),(.Z 11)])))
theorem aSH:bI Tryz.prog [nO,qE,aC7,qQ,tH] oQ false 3000 ⟨[(2982,2008,gQ 29 17++gQ 15 11++[.dr 2,.dr 0,.dr 1,.sl 20,.sl 19,.fz 10,.fz 11,.fz 12,.fz 13,.bx 5 0,.nb 14,.bx 14 0,.dk 10,.bx 14 1,.dk 11,.bx 14 2,.dk 12,.bx 14 3,.dk 13]),(2969,14013,[.tm 9 0,.sl 19]),(2959,22016,[.tm 10 0,.sl 20])],[]⟩ = .ok zM:=by kernel_rfl
set_option maxHeartbeats 1000000 in
theorem aV5 (x:bG × bO) (hx:okD (.bRW aC aG) x) (hp:(fun x=>bM aC x.1≤2000000∧bM aG x.2≤2000000) x):zM.wp [nO,qE,aC7,qQ,tH] [⟨(.bRW aC aG),x⟩] [] (fun v=>v.as (.bRW tI (.bRW aB (.bRW aB .bool)))=(fun x=>uV x.1 x.2) x):=by
 obtain ⟨c,b⟩:=x
 obtain ⟨hp1,hp2⟩:bM aC c≤2000000∧bM aG b≤2000000:=hp
 have hcp:fO c:=aHK (by omega)
 delta zM nO qE aC7 qQ tH;refine cW ?_
 refine dB ?_
 refine ⟨hcp,fun _=>⟨fun h=>bPO h,fun h=>⟨⟨by omega,by omega⟩,fun _=>?_⟩⟩⟩
 have hps:=aWE hp1 hp2
 have hpl:=aQP h
 have hsy:=bQ3 h
 rw[← hsy]
 generalize vK c b=P at *
 (repeat' first|intro _|(with_reducible apply And.intro))
 all_goals first|omega|(unfold repC;omega)|(unfold repC maxLen;omega)|skip
 first
  | refine pA (fun k=>((k:Int),aAF P k,mM P k,cC P k)) (fun k=>vB P (1000 - k) k=vB P 1000 0) 1000 rfl rfl fun I μ k hk hG _ go=>?_
  | refine pA (fun k=>(aAF P k,mM P k,(k:Int),cC P k)) (fun k=>vB P (1000 - k) k=vB P 1000 0) 1000 rfl rfl fun I μ k hk hG _ go=>?_
 dsimp only
 refine dB ?_
 have hz:=aCI P k
 have htl:=yJ P k
 have htl2:=yJ P (k+1)
 have hbl:=aJC P k
 have hml:=aIL P k
 have hbb:=aT6 P k
 have hz2:=aCI P (k+1)
 have hlb:=bOJ (cC P k)
 constructor
 ·intro hlt
  refine ⟨by omega,fun _=>⟨fun hd=>⟨by omega,fun _=>?_⟩,fun hd=>⟨by omega,fun _=>?_⟩⟩⟩
  rotate_left
  ·have hl0:qL (cC P k)=0:=by omega
   rw[← hG,aQR hl0]
   unfold bN1;rw[hl0];rfl
  have hl1:¬ qL (cC P k)=0:=by omega
  have hG2:=(aOR (by omega) hl1).symm.trans hG
  refine cN (fun j=>((j:Int),nQ (fF (cC P k)) (mM P k) j)) (List.length (fF (cC P k))) rfl fun I2 μ2 j hj _ go2=>?_
  dsimp only
  refine dB ?_
  have hbj:=aKU (l:=fF (cC P k)) hbb j
  have hbjl:=aE3 (fF (cC P k)) (mM P k) j
  have hwl:=aDV (cC P k)
  by_cases hj':j<List.length (fF (cC P k))
  ·have hat:=bMZ hj'
   have hbx:=hbj ((fF (cC P k))[j]).toNat
   have hst:nQ (fF (cC P k)) (mM P k) (j+1)=(nQ (fF (cC P k)) (mM P k) j).set ((fF (cC P k))[j]).toNat ((nQ (fF (cC P k)) (mM P k) j).getD ((fF (cC P k))[j]).toNat 0+1):=by rw[nQ,aZ hj']
   simp only[aZ hj']
   (repeat' first|intro _|(refine go2 _ ?_ ?_ ?_)|(refine go2 _ ?_ ?_)|(with_reducible apply And.intro))
   all_goals first|omega|exact bKS hbx|exact bKH hbx (by omega)|(rw[hst];rfl)|skip
  have ej2:j=(fF (cC P k)).length:=by omega
  subst ej2
  (repeat' first|intro _|(with_reducible apply And.intro))
  all_goals first|omega|skip
  refine cN (fun j=>((j:Int),upK (cC P (k+1)) (aAF P k) j)) (cC P (k+1)).2.1.length rfl fun I3 μ3 j hj _ go3=>?_
  dsimp only
  refine dB ?_
  have hul:=aKY (cC P (k+1)) (aAF P k) j
  rw[show uW (cC P k) (fF (cC P k))=cC P (k+1) from rfl]
  by_cases hj':j<(cC P (k+1)).2.1.length
  ·have hsz:bM aA ((cC P (k+1)).2.1.getD j (aW aA))≤1000000000:=by
    rw[aZ hj']
    have h5:bM aA ((cC P (k+1)).2.1[j])≤bM (.slice 55 aA) (cC P (k+1)).2.1:=sC (List.getElem_mem hj')
    have h6:=wV (cC P (k+1))
    omega
   (repeat' first|intro _|(refine go3 _ ?_ ?_ ?_)|(refine go3 _ ?_ ?_)|(with_reducible apply And.intro))
   all_goals first|omega|exact hsz|rfl|skip
  ·skip
   have ej:j=(cC P (k+1)).2.1.length:=by omega
   subst ej
   (repeat' first|intro _|(refine go _ ?_ ?_ ?_)|(refine go _ ?_ ?_)|(with_reducible apply And.intro))
   all_goals first|omega|exact hG2|rfl|skip
 ·intro hge
  have ek:k=1000:=by omega
  subst ek
  refine ⟨by omega,fun _=>?_⟩
  rw[← hG];rfl
set_option maxHeartbeats 1000000 in
theorem aSZ:Con.Holds Tryz.prog oQ:=aS aV (aI aQM (aI aYA (aI bJL (aI aWZ (aI bE3 aQ))))) aSH aV5
end
end Go.Proofs.YtabamggdmdednaaGreat
