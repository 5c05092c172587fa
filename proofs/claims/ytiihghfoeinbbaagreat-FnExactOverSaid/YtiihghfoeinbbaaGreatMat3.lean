/- Mat3: lemmas. No conditions. -/
import Derived.Test.YtiihghfoeinbbaaGreatLin2
namespace Go.Proofs.YtiihghfoeinbbaaGreat
noncomputable section
set_option maxRecDepth 100000
open Go.ChangeShapes Go.WideShapes Go.ChangeAt Go.RowKit Go.Deep
set_option linter.unusedVariables false
set_option linter.unusedSimpArgs false
abbrev zT:=Int × (Int × List Int)
def xD (m:zT):Bool:=decide (1≤m.1∧m.1≤6∧1≤m.2.1∧m.2.1≤6∧(m.2.2.length:Int)=m.1 * m.2.1)&&m.2.2.all nU
theorem lY (m:zT):xD m=true↔(1≤m.1∧m.1≤6∧1≤m.2.1∧m.2.1≤6∧(m.2.2.length:Int)=m.1 * m.2.1)∧m.2.2.all nU=true:=by unfold xD;simp only[Bool.and_eq_true,decide_eq_true_eq]
def aAZ (m:zT) (i:Nat):List Int:=(m.2.2.take ((i+1) * m.2.1.toNat)).drop (i * m.2.1.toNat)
def sD (m:zT) (k:Nat):List Int:=mp m.1.toNat fun i=>m.2.2.getD (i * m.2.1.toNat+k) 0
def jZ (m:zT) (x:List Int):List Int × Bool:=if xD m=true∧eQ x m.2.1=true then (mp m.1.toNat fun r=>(fM (aAZ m r) x).1,an m.1.toNat fun r=>(fM (aAZ m r) x).2) else ([],false)
def gO (m:zT) (d:List Int):List Int × Bool:=if xD m=true∧eQ d m.1=true then (mp m.2.1.toNat fun k=>(fM (sD m k) d).1,an m.2.1.toNat fun k=>(fM (sD m k) d).2) else ([],false)
def bM8:zT:=(0,0,[])
def pY (f:Nat→List Int):Nat→List Int
 | 0=>[]
 | n+1=>pY f n++f n
def qI (m:zT):zT:=if xD m=true then (m.2.1,m.1,pY (sD m) m.2.1.toNat) else bM8
def xJ (d x:List Int) (i:Nat):List Int:=mp x.length fun j=>(fA (d.getD i 0) (x.getD j 0)).1
def aL6 (d x:List Int) (i:Nat):Bool:=an x.length fun j=>(fA (d.getD i 0) (x.getD j 0)).2
def qN (d x:List Int):zT × Bool:=if iK d=true∧iK x=true then (((d.length:Int),(x.length:Int),pY (xJ d x) d.length),an d.length (aL6 d x)) else (bM8,false)
def xB (o:eK):zT:=(o.2.2.1,o.2.1,o.2.2.2)
def oV (o:eK) (x:List Int):List Int × Bool:=if ¬ (opB o=true∧eQ x o.2.1=true) then ([],false) else
 if o.1=1 then jZ (xB o) x else if o.1=2 then kM dI x o.2.2.2 else if o.1=4 then sQ (o.2.2.2.getD 0 0) x else
 if o.1=5 then ((kM dI x (jZ (xB o) x).1).1,(jZ (xB o) x).2 || (kM dI x (jZ (xB o) x).1).2) else (nT x,false)
def iN (o:eK) (x d:List Int):List Int × (List Int × Bool):=if ¬ (opB o=true∧eQ x o.2.1=true∧eQ d o.2.2.1=true) then ([],[],false) else
 if o.1=1 then ((gO (xB o) d).1,(qN d x).1.2.2,(gO (xB o) d).2 || (qN d x).2) else
 if o.1=2 then (d,d,false) else
 if o.1=4 then ((sQ (o.2.2.2.getD 0 0) d).1,[(fM d x).1],(sQ (o.2.2.2.getD 0 0) d).2 || (fM d x).2) else
 if o.1=5 then ((kM dI d (gO (xB o) d).1).1,(qN d x).1.2.2,(gO (xB o) d).2 || (kM dI d (gO (xB o) d).1).2 || (qN d x).2) else
 (nL x d,[],false)
theorem lN {m:zT} (h:xD m=true):∃ (R C:Nat) (data:List Int),m=((R:Int),(C:Int),data)∧1≤R∧R≤6∧1≤C∧C≤6∧data.length=R * C∧R * C≤36∧data.all nU=true:=by
 obtain ⟨a,b,data⟩:=m
 obtain ⟨⟨h1,h2,h3,h4,h5⟩,h6⟩:=(lY _).1 h
 dsimp only at h1 h2 h3 h4 h5 h6
 refine ⟨a.toNat,b.toNat,data,?_,by omega,by omega,by omega,by omega,?_,Nat.le_trans (Nat.mul_le_mul (show a.toNat≤6 by omega) (show b.toNat≤6 by omega)) (by decide),h6⟩
 ·rw[Int.toNat_of_nonneg (by omega),Int.toNat_of_nonneg (by omega)]
 ·have:((a.toNat * b.toNat:Nat):Int)=a * b:=by rw[Int.natCast_mul,Int.toNat_of_nonneg (by omega),Int.toNat_of_nonneg (by omega)]
  omega
theorem aFT {R C k:Nat} (h:k<R):k * C+C≤R * C:=by
 have:=Nat.mul_le_mul_right C (show k+1≤R from h)
 rwa [Nat.succ_mul] at this
theorem aL4 (R C k p:Nat) (data:List Int) (e:p=k * C):aAZ ((R:Int),(C:Int),data) k=(data.take (p+C)).drop p:=by
 unfold aAZ;simp only[Int.toNat_natCast,Nat.succ_mul,← e]
theorem sK {f:Nat→List Int} {L:Nat} (h:∀ i,(f i).length=L):(n:Nat)→(pY f n).length=n * L
 | 0=>by simp[pY]
 | n+1=>by rw[pY,List.length_append,sK h n,h,Nat.succ_mul]
theorem aL0 {f:Nat→List Int} {L:Nat} (h:∀ i,(f i).length=L) {k:Nat}:(n:Nat)→k<n→((pY f n).take (k * L+L)).drop (k * L)=f k
 | 0,hk=>by omega
 | n+1,hk=>by
  have hl:=sK h n
  rcases Nat.lt_or_eq_of_le (Nat.le_of_lt_succ hk) with h'|rfl
  ·have h1:=aFT (C:=L) h'
   rw[pY,List.take_append_of_le_length (by omega)]
   exact aL0 h n h'
  ·rw[pY,List.take_of_length_le (by rw[List.length_append,hl,h];exact Nat.le_refl _),List.drop_append_of_le_length (by omega),List.drop_of_length_le (by omega),List.nil_append]
theorem aNS (m:zT) (k:Nat):(sD m k).length=m.1.toNat:=fJ _ _
theorem aS2 {f:Nat→List Int} {x:Int}:(n:Nat)→x∈pY f n→∃ k,k<n∧x∈f k
 | 0,h=>by simp[pY] at h
 | n+1,h=>by
  rw[pY,List.mem_append] at h
  rcases h with h|h
  ·obtain ⟨k,h1,h2⟩:=aS2 n h;exact ⟨k,by omega,h2⟩
  ·exact ⟨n,by omega,h⟩
theorem bCD {m:zT} (h:xD m=true):xD (qI m)=true∧∀ k,k<m.2.1.toNat→aAZ (qI m) k=sD m k:=by
 obtain ⟨R,C,data,rfl,h1,h2,h3,h4,h5,h6,h7⟩:=lN h
 have e:qI ((R:Int),(C:Int),data)=((C:Int),(R:Int),pY (sD ((R:Int),(C:Int),data)) C):=if_pos h
 have hl:∀ i,(sD ((R:Int),(C:Int),data) i).length=R:=fun i=>aNS _ _
 constructor
 ·rw[e,lY]
  refine ⟨⟨?_,?_,?_,?_,?_⟩,?_⟩
  ·dsimp only;omega
  ·dsimp only;omega
  ·dsimp only;omega
  ·dsimp only;omega
  ·dsimp only;rw[sK hl,Int.natCast_mul]
  ·rw[List.all_eq_true]
   intro x hx
   obtain ⟨k,hk,hx⟩:=aS2 _ hx
   unfold sD mp at hx
   rw[List.mem_map] at hx
   obtain ⟨i,hi,rfl⟩:=hx
   rw[List.mem_range] at hi
   dsimp only [Int.toNat_natCast] at hi ⊢
   have hb:=aFT (C:=C) hi
   rw[aZ (show i * C+k<data.length by omega)]
   exact (List.all_eq_true.1 h7) _ (List.getElem_mem _)
 ·intro k hk
  rw[e,aL4 C R k (k * R) _ rfl]
  exact aL0 hl C hk
theorem bJI {m:zT} {d:List Int} (h:xD m=true) (h2:eQ d m.1=true):jZ (qI m) d=gO m d:=by
 obtain ⟨t1,t2⟩:=bCD h
 have e1:(qI m).2.1=m.1:=by unfold qI;rw[if_pos h]
 have e2:(qI m).1=m.2.1:=by unfold qI;rw[if_pos h]
 unfold jZ gO
 rw[if_pos ⟨t1,by rw[e1];exact h2⟩,if_pos ⟨h,h2⟩,e2]
 exact Prod.ext (bJR fun i hi=>by rw[t2 i hi]) (bIP fun i hi=>by rw[t2 i hi])
theorem aIH {o:eK} (h:opB o=true) (h4:o.1=4):o.2.2.2.length=1:=by
 have:=((kL o).1 h).1
 have e:=aIQ (o:=o) (by omega)
 omega
def jO:Con:=⟨322,(.bMC tI aF),.bool,[.val ⟨true,(.bMC tI aF),[]⟩],[⟨false,.bool,[0]⟩],false,none,
 ((fun _=>True):(Int × cL)→Prop),
 ((fun x=>xD x):(Int × cL)→(Bool))⟩
def aFV:T :=
 .bMD (.cmp .lss .i64) (.bME tI tI (.p1 tI aF (.Z 0)) (.ci .i64 1)) <|
 .ite (.Z 1) (
  .ret (.cb false)) (
  .bMD (.cmp .gtr .i64) (.bME tI tI (.p1 tI aF (.Z 0)) (.ci .i64 6)) <|
  .ite (.Z 2) (
   .ret (.cb false)) (
   .bMD (.cmp .lss .i64) (.bME tI tI (aJ (.bMC tI aF) 1 (.Z 0)) (.ci .i64 1)) <|
   .ite (.Z 3) (
    .ret (.cb false)) (
    .bMD (.cmp .gtr .i64) (.bME tI tI (aJ (.bMC tI aF) 1 (.Z 0)) (.ci .i64 6)) <|
    .ite (.Z 4) (
     .ret (.cb false)) (
     .bMD (.bMG 3 tI) (aQ (.bMC tI aF) 2 (.Z 0)) <|
     .bMD (.ar .mul .i64) (.bME tI tI (.p1 tI aF (.Z 0)) (aJ (.bMC tI aF) 1 (.Z 0))) <|
     .bMD (.cmp .eql .i64) (.bME tI tI (.Z 5) (.Z 6)) <|
     .ite (.Z 7) (
      .call 0 (aQ (.bMC tI aF) 2 (.Z 0)) <|
      .ret (.Z 8)) (
      .ret (.cb false))))))
theorem bDL:bL Tryz.prog [iC] jO false 3000 ⟨[],[]⟩ = .ok aFV:=by kernel_rfl
theorem bDR (x:Int × cL) (hx:okD (.bMC tI aF) x) (hp:(fun _=>True) x):aFV.wp [iC] [⟨(.bMC tI aF),x⟩] [] (fun v=>v.as .bool=(fun x=>xD x) x):=by
 delta aFV iC;refine dD ?_
 (refine eE ?_;try with_reducible exact True.intro)
 (repeat' first|intro _|(with_reducible apply And.intro))
 all_goals first|(first|(refine (Bool.eq_false_iff.2 ?_).symm;rw[ne_eq,lY];intro hh;omega)|(refine (lY.2 ?_).symm;omega))|(have:=aRE (a:=x.1) (b:=x.2.1) (by omega) (by omega) (by omega) (by omega);omega)|(rw[Bool.eq_iff_iff,lY];exact ⟨fun h=>⟨⟨by omega,by omega,by omega,by omega,by assumption⟩,h⟩,fun h=>h.2⟩)
theorem aG3:Con.Holds Tryz.prog jO:=aR aW (aG aCY aS) bDL bDR
def kV:Con:=⟨306,(.bMC (.bMC tI aF) aB),(.bMC aB .bool),[.val ⟨true,(.bMC tI aF),[]⟩,.val ⟨false,aB,[]⟩],[⟨false,aB,[2]⟩,⟨false,.bool,[0]⟩],false,none,
 ((fun _=>True):((Int × cL) × cD)→Prop),
 ((fun x=>jZ x.1 x.2):((Int × cL) × cD)→(cD × Bool))⟩
def aDE:T:=.call 0 (.p1 (.bMC tI aF) aB (.Z 0)) <|
 .bMD .not (.Z 1) <|
 .ite (.Z 2) (
  .ret (.bME aB .bool (.nl 3 tI) (.cb false))) (
  .call 1 (.bME aB tI (aQ (.bMC (.bMC tI aF) aB) 1 (.Z 0)) (aJ (.bMC tI aF) 1 (.p1 (.bMC tI aF) aB (.Z 0)))) <|
  .bMD .not (.Z 3) <|
  .ite (.Z 4) (
   .ret (.bME aB .bool (.nl 3 tI) (.cb false))) (
   .loop (.bMC tI (.bMC .bool aB)) (bE (.bMC tI (.bMC .bool aB)) [(.ci .i64 0),(.cb false),(.nl 3 tI)]) <|
    .bMD (.cmp .lss .i64) (.bME tI tI (.p1 tI (.bMC .bool aB) (.Z 5)) (.p1 tI aF (.p1 (.bMC tI aF) aB (.Z 0)))) <|
    .ite (.Z 6) (
     .bMD (.ar .mul .i64) (.bME tI tI (.p1 tI (.bMC .bool aB) (.Z 5)) (aJ (.bMC tI aF) 1 (.p1 (.bMC tI aF) aB (.Z 0)))) <|
     .bMD (.ar .add .i64) (.bME tI tI (.p1 tI (.bMC .bool aB) (.Z 5)) (.ci .i64 1)) <|
     .bMD (.ar .mul .i64) (.bME tI tI (.Z 8) (aJ (.bMC tI aF) 1 (.p1 (.bMC tI aF) aB (.Z 0)))) <|
     .bMD (.bMI 3 tI) (bE (.bMC aB aO) [(aQ (.bMC tI aF) 2 (.p1 (.bMC tI aF) aB (.Z 0))),(.Z 7),(.Z 9)]) <|
     .call 2 (.bME aB aB (.Z 10) (aQ (.bMC (.bMC tI aF) aB) 1 (.Z 0))) <|
     .bMD (.lit 3 tI 1) (.p1 tI .bool (.Z 11)) <|
     .bMD (.bMJ 3 tI 8) (.bME aB aB (aQ (.bMC tI (.bMC .bool aB)) 2 (.Z 5)) (.Z 12)) <|
     .ite (aJ (.bMC tI (.bMC .bool aB)) 1 (.Z 5)) (
      .bMD (.ar .add .i64) (.bME tI tI (.p1 tI (.bMC .bool aB) (.Z 5)) (.ci .i64 1)) <|
      .bMF 0 (bE (.bMC tI (.bMC .bool aB)) [(.Z 14),(.cb true),(.Z 13)])) (
      .bMD (.ar .add .i64) (.bME tI tI (.p1 tI (.bMC .bool aB) (.Z 5)) (.ci .i64 1)) <|
      .bMF 0 (bE (.bMC tI (.bMC .bool aB)) [(.Z 14),(aQ (.bMC tI .bool) 1 (.Z 11)),(.Z 13)]))) (
     .ret (.bME aB .bool (aQ (.bMC tI (.bMC .bool aB)) 2 (.Z 5)) (aJ (.bMC tI (.bMC .bool aB)) 1 (.Z 5))))))
theorem aZO:bL Tryz.prog [jO,cA,iJ] kV false 3000 ⟨[(2984,4005,iQ 21 11++[.dr 0,.tm 8 0,.tm 7 0,.on 6,.sl 2])],[]⟩ = .ok aDE:=by kernel_rfl
theorem aW9 (x:(Int × cL) × cD) (hx:okD (.bMC (.bMC tI aF) aB) x) (hp:(fun _=>True) x):aDE.wp [jO,cA,iJ] [⟨(.bMC (.bMC tI aF) aB),x⟩] [] (fun v=>v.as (.bMC aB .bool)=(fun x=>jZ x.1 x.2) x):=by
 obtain ⟨m,v⟩:=x
 delta aDE jO cA iJ;refine dD ?_
 simp only[Bool.not_eq_true',Bool.not_eq_false']
 refine ⟨fun h=>?_,fun h1=>⟨fun h=>?_,fun h2=>?_⟩⟩
 ·unfold jZ;rw[if_neg (by rw[h];simp)]
 ·unfold jZ;rw[if_neg (by rw[h];simp)]
 rw[show jZ m v=_ from if_pos ⟨h1,h2⟩]
 obtain ⟨R,C,data,rfl,g1,g2,g3,g4,g5,g6,g7⟩:=lN h1
 refine cS (fun k=>((k:Int),an k (fun r=>(fM (aAZ ((R:Int),(C:Int),data) r) v).2),mp k fun r=>(fM (aAZ ((R:Int),(C:Int),data) r) v).1)) R rfl fun I μ k hk _ go=>?_
 dsimp only
 obtain ⟨p,e0⟩:∃ p,p=k * C:=⟨_,rfl⟩
 have e1:(k:Int) * (C:Int)=(p:Int):=by rw[e0];exact (Int.natCast_mul k C).symm
 have e2:((k:Int)+1) * (C:Int)=((p+C:Nat):Int):=by rw[Int.add_mul,e1,Int.one_mul];rfl
 have e4:k<R→p+C≤data.length:=fun h=>by rw[e0,g5];exact aFT h
 simp only[e1,e2,lU,fJ,← aL4 R C k p data e0]
 (repeat' first|intro _|(refine go _ ?_ ?_ ?_)|(refine go _ ?_ ?_)|(with_reducible apply And.intro))
 all_goals first|omega|(unfold maxLen;omega)|(rw[fU,lO];first|exact Prod.ext rfl (Prod.ext (iO (by assumption)) rfl)|exact Prod.ext rfl (Prod.ext (lT (by assumption)) rfl))|(have e:k=R:=(by omega);subst e;rfl)
theorem aKK:Con.Holds Tryz.prog kV:=aR aW (aG aG3 (aG jI (aG aDN aS))) aZO aW9
def mD:Con:=⟨324,(.bMC tI aF),(.bMC tI aF),[.val ⟨true,(.bMC tI aF),[]⟩],[⟨true,(.bMC tI aF),[0,0,2]⟩],false,none,
 ((fun _=>True):(Int × cL)→Prop),
 ((fun x=>qI x):(Int × cL)→(Int × cL))⟩
def vA:T:=.call 0 (.Z 0) <|
 .bMD .not (.Z 1) <|
 .ite (.Z 2) (
  .ret (bE (.bMC tI aF) [(.ci .i64 0),(.ci .i64 0),(.nl 3 tI)])) (
  .loop aF (.bME tI aB (.ci .i64 0) (.nl 3 tI)) <|
   .bMD (.cmp .lss .i64) (.bME tI tI (.p1 tI aB (.Z 3)) (aJ (.bMC tI aF) 1 (.Z 0))) <|
   .ite (.Z 4) (
    .loop aF (.bME tI aB (.ci .i64 0) (aQ aF 1 (.Z 3))) <|
     .bMD (.cmp .lss .i64) (.bME tI tI (.p1 tI aB (.Z 5)) (.p1 tI aF (.Z 0))) <|
     .ite (.Z 6) (
      .bMD (.ar .mul .i64) (.bME tI tI (.p1 tI aB (.Z 5)) (aJ (.bMC tI aF) 1 (.Z 0))) <|
      .bMD (.ar .add .i64) (.bME tI tI (.Z 7) (.p1 tI aB (.Z 3))) <|
      .bMD (.bMH 3 tI) (.bME aB tI (aQ (.bMC tI aF) 2 (.Z 0)) (.Z 8)) <|
      .bMD (.lit 3 tI 1) (.Z 9) <|
      .bMD (.bMJ 3 tI 8) (.bME aB aB (aQ aF 1 (.Z 5)) (.Z 10)) <|
      .bMD (.ar .add .i64) (.bME tI tI (.p1 tI aB (.Z 5)) (.ci .i64 1)) <|
      .bMF 0 (.bME tI aB (.Z 12) (.Z 11))) (
      .bMD (.ar .add .i64) (.bME tI tI (.p1 tI aB (.Z 3)) (.ci .i64 1)) <|
      .bMF 1 (.bME tI aB (.Z 7) (aQ aF 1 (.Z 5))))) (
    .ret (bE (.bMC tI aF) [(aJ (.bMC tI aF) 1 (.Z 0)),(.p1 tI aF (.Z 0)),(aQ aF 1 (.Z 3))])))
theorem aMV:bL Tryz.prog [jO] mD false 3000 ⟨[(2986,2003,iQ 14 10++iQ 8 6++[.dr 0,.tm 4 0,.sl 6]),(2975,6005,[.tm 5 0,.sl 6])],[]⟩ = .ok vA:=by kernel_rfl
theorem aMC (x:Int × cL) (hx:okD (.bMC tI aF) x) (hp:(fun _=>True) x):vA.wp [jO] [⟨(.bMC tI aF),x⟩] [] (fun v=>v.as (.bMC tI aF)=(fun x=>qI x) x):=by
 obtain ⟨m,rfl⟩:∃ m,m=x:=⟨_,rfl⟩
 delta vA jO;refine dD ?_
 simp only[Bool.not_eq_true',Bool.not_eq_false']
 refine ⟨fun h=>?_,fun h1=>?_⟩
 ·unfold qI;rw[if_neg (by rw[h];exact Bool.false_ne_true)];rfl
 rw[show qI m=_ from if_pos h1]
 obtain ⟨R,C,data,rfl,g1,g2,g3,g4,g5,g6,g7⟩:=lN h1
 refine cS (fun c=>((c:Int),pY (sD ((R:Int),(C:Int),data)) c)) C rfl fun I μ c hc _ go=>?_
 dsimp only
 refine eE ?_
 have hl:(pY (sD ((R:Int),(C:Int),data)) c).length=c * R:=sK (fun i=>aNS _ _) c
 have hq:c * R≤36:=Nat.le_trans (Nat.mul_le_mul hc g2) (by omega)
 generalize hD:pY (sD ((R:Int),(C:Int),data)) c=D at *
 constructor
 ·intro hlt
  refine cS (fun r=>((r:Int),D++mp r fun i=>data.getD (i * C+c) 0)) R (by simp[aR8]) fun I2 μ2 k hk _ go2=>?_
  dsimp only
  obtain ⟨p,e0⟩:∃ p,p=k * C:=⟨_,rfl⟩
  have e1:(k:Int) * (C:Int)=(p:Int):=by rw[e0];exact (Int.natCast_mul k C).symm
  have e2:(p:Int)+(c:Int)=((p+c:Nat):Int):=rfl
  have e4:k<R→p+C≤data.length:=fun h=>by rw[e0,g5];exact aFT h
  simp only[e1,e2,lU,fJ]
  (repeat' first|intro _|(refine go2 _ ?_ ?_ ?_)|(refine go2 _ ?_ ?_)|(refine go _ ?_ ?_ ?_)|(refine go _ ?_ ?_)|(with_reducible apply And.intro))
  all_goals first|omega|(unfold maxLen;omega)|(rw[fU,← List.append_assoc,← e0];rfl)|(have e:k=R:=(by omega);subst e;rw[pY,hD];rfl)
 ·intro hge
  have e:c=C:=by omega
  subst e
  rw[← hD]
theorem aMH:Con.Holds Tryz.prog mD:=aR aW (aG aG3 aS) aMV aMC
def qC:Con:=⟨311,(.bMC (.bMC tI aF) aB),(.bMC aB .bool),[.val ⟨true,(.bMC tI aF),[]⟩,.val ⟨false,aB,[]⟩],[⟨false,aB,[2]⟩,⟨false,.bool,[0]⟩],false,none,
 ((fun _=>True):((Int × cL) × cD)→Prop),
 ((fun x=>gO x.1 x.2):((Int × cL) × cD)→(cD × Bool))⟩
def aBC:T:=.call 0 (.p1 (.bMC tI aF) aB (.Z 0)) <|
 .bMD .not (.Z 1) <|
 .ite (.Z 2) (
  .ret (.bME aB .bool (.nl 3 tI) (.cb false))) (
  .call 1 (.bME aB tI (aQ (.bMC (.bMC tI aF) aB) 1 (.Z 0)) (.p1 tI aF (.p1 (.bMC tI aF) aB (.Z 0)))) <|
  .bMD .not (.Z 3) <|
  .ite (.Z 4) (
   .ret (.bME aB .bool (.nl 3 tI) (.cb false))) (
   .call 2 (.p1 (.bMC tI aF) aB (.Z 0)) <|
   .call 3 (.bME (.bMC tI aF) aB (.Z 5) (aQ (.bMC (.bMC tI aF) aB) 1 (.Z 0))) <|
   .ret (.Z 6)))
theorem aRS:bL Tryz.prog [jO,cA,mD,kV] qC false 3000 ⟨[],[]⟩ = .ok aBC:=by kernel_rfl
theorem aUH (x:(Int × cL) × cD) (hx:okD (.bMC (.bMC tI aF) aB) x) (hp:(fun _=>True) x):aBC.wp [jO,cA,mD,kV] [⟨(.bMC (.bMC tI aF) aB),x⟩] [] (fun v=>v.as (.bMC aB .bool)=(fun x=>gO x.1 x.2) x):=by
 obtain ⟨m,d⟩:=x
 delta aBC jO cA mD kV;refine dD ?_
 simp only[Bool.not_eq_true',Bool.not_eq_false']
 refine ⟨fun h=>?_,fun h1=>⟨fun h=>?_,fun h2 _ _=>bJI h1 h2⟩⟩
 ·unfold gO;rw[if_neg (by rw[h];simp)]
 ·unfold gO;rw[if_neg (by rw[h];simp)]
theorem aUM:Con.Holds Tryz.prog qC:=aR aW (aG aG3 (aG jI (aG aMH (aG aKK aS)))) aRS aUH
def wW:Con:=⟨312,aI,(.bMC (.bMC tI aF) .bool),[.val ⟨false,aB,[]⟩,.val ⟨false,aB,[]⟩],[⟨true,(.bMC tI aF),[0,0,2]⟩,⟨false,.bool,[0]⟩],false,none,
 ((fun _=>True):(bW)→Prop),
 ((fun x=>qN x.1 x.2):(bW)→((Int × cL) × Bool))⟩
def aFU:T:=.call 0 (.p1 aB aB (.Z 0)) <|
 .bMD .not (.Z 1) <|
 .ite (.Z 2) (
  .ret (.bME (.bMC tI aF) .bool (bE (.bMC tI aF) [(.ci .i64 0),(.ci .i64 0),(.nl 3 tI)]) (.cb false))) (
  .call 0 (aQ aI 1 (.Z 0)) <|
  .bMD .not (.Z 3) <|
  .ite (.Z 4) (
   .ret (.bME (.bMC tI aF) .bool (bE (.bMC tI aF) [(.ci .i64 0),(.ci .i64 0),(.nl 3 tI)]) (.cb false))) (
   .bMD (.bMG 3 tI) (.p1 aB aB (.Z 0)) <|
   .bMD (.bMG 3 tI) (aQ aI 1 (.Z 0)) <|
   .bMD (.bMG 3 tI) (.p1 aB aB (.Z 0)) <|
   .loop (.bMC tI (.bMC .bool aB)) (bE (.bMC tI (.bMC .bool aB)) [(.ci .i64 0),(.cb false),(.nl 3 tI)]) <|
    .bMD (.cmp .lss .i64) (.bME tI tI (.p1 tI (.bMC .bool aB) (.Z 8)) (.Z 7)) <|
    .ite (.Z 9) (
     .bMD (.bMH 3 tI) (.bME aB tI (.p1 aB aB (.Z 0)) (.p1 tI (.bMC .bool aB) (.Z 8))) <|
     .bMD (.bMG 3 tI) (aQ aI 1 (.Z 0)) <|
     .loop (.bMC tI (.bMC .bool aB)) (.bME tI (.bMC .bool aB) (.ci .i64 0) (aQ (.bMC tI (.bMC .bool aB)) 1 (.Z 8))) <|
      .bMD (.cmp .lss .i64) (.bME tI tI (.p1 tI (.bMC .bool aB) (.Z 12)) (.Z 11)) <|
      .ite (.Z 13) (
       .bMD (.bMH 3 tI) (.bME aB tI (aQ aI 1 (.Z 0)) (.p1 tI (.bMC .bool aB) (.Z 12))) <|
       .call 1 (.bME tI tI (.Z 10) (.Z 14)) <|
       .bMD (.lit 3 tI 1) (.p1 tI .bool (.Z 15)) <|
       .bMD (.bMJ 3 tI 8) (.bME aB aB (aQ (.bMC tI (.bMC .bool aB)) 2 (.Z 12)) (.Z 16)) <|
       .ite (aJ (.bMC tI (.bMC .bool aB)) 1 (.Z 12)) (
        .bMD (.ar .add .i64) (.bME tI tI (.p1 tI (.bMC .bool aB) (.Z 12)) (.ci .i64 1)) <|
        .bMF 0 (bE (.bMC tI (.bMC .bool aB)) [(.Z 18),(.cb true),(.Z 17)])) (
        .bMD (.ar .add .i64) (.bME tI tI (.p1 tI (.bMC .bool aB) (.Z 12)) (.ci .i64 1)) <|
        .bMF 0 (bE (.bMC tI (.bMC .bool aB)) [(.Z 18),(aQ (.bMC tI .bool) 1 (.Z 15)),(.Z 17)]))) (
       .bMD (.ar .add .i64) (.bME tI tI (.p1 tI (.bMC .bool aB) (.Z 8)) (.ci .i64 1)) <|
       .bMF 1 (.bME tI (.bMC .bool aB) (.Z 14) (aQ (.bMC tI (.bMC .bool aB)) 1 (.Z 12))))) (
     .ret (.bME (.bMC tI aF) .bool (bE (.bMC tI aF) [(.Z 5),(.Z 6),(aQ (.bMC tI (.bMC .bool aB)) 2 (.Z 8))]) (aJ (.bMC tI (.bMC .bool aB)) 1 (.Z 8))))))
theorem bE1:bL Tryz.prog [cZ,hZ] wW false 3000 ⟨[(2984,4008,iQ 27 23++iQ 21 14++[.dr 0,.tm 30 0,.tm 7 0,.sl 5]),(2971,12012,[.tm 36 0,.tm 7 0,.sl 5])],[]⟩ = .ok aFU:=by kernel_rfl
theorem bCN (x:bW) (hx:okD aI x) (hp:(fun _=>True) x):aFU.wp [cZ,hZ] [⟨aI,x⟩] [] (fun v=>v.as (.bMC (.bMC tI aF) .bool)=(fun x=>qN x.1 x.2) x):=by
 obtain ⟨d,v⟩:=x
 delta aFU cZ hZ;refine dD ?_
 simp only[Bool.not_eq_true',Bool.not_eq_false']
 refine ⟨fun h=>?_,fun h1=>⟨fun h=>?_,fun h2 _ _ _=>?_⟩⟩
 ·unfold qN;rw[if_neg (by rw[h];simp)];rfl
 ·unfold qN;rw[if_neg (by rw[h];simp)];rfl
 rw[show qN d v=_ from if_pos ⟨h1,h2⟩]
 have hd:=(cP d).1 h1
 have hv:=(cP v).1 h2
 refine cS (fun i=>((i:Int),an i (aL6 d v),pY (xJ d v) i)) d.length rfl fun I μ i hi _ go=>?_
 dsimp only
 refine eE ?_
 have hl:(pY (xJ d v) i).length=i * v.length:=sK (fun i=>fJ _ _) i
 have hq:i * v.length≤36:=Nat.le_trans (Nat.mul_le_mul hi (show v.length≤6 by omega)) (by omega)
 generalize hD:pY (xJ d v) i=D at *
 generalize hA:an i (aL6 d v)=A at *
 constructor
 ·intro hlt
  refine ⟨by omega,fun _ _=>?_⟩
  refine cS (fun j=>((j:Int),A || an j (fun j=>(fA (d.getD i 0) (v.getD j 0)).2),D++mp j fun j=>(fA (d.getD i 0) (v.getD j 0)).1)) v.length (by simp[aR8,aZZ]) fun I2 μ2 j hj _ go2=>?_
  dsimp only
  simp only[lU,fJ]
  have ea:(A || an (j+1) (fun j=>(fA (d.getD i 0) (v.getD j 0)).2))=((A || an j (fun j=>(fA (d.getD i 0) (v.getD j 0)).2)) || (fA (d.getD i 0) (v.getD j 0)).2):=by rw[lO,Bool.or_assoc]
  (repeat' first|intro _|(refine go2 _ ?_ ?_ ?_)|(refine go2 _ ?_ ?_)|(refine go _ ?_ ?_ ?_)|(refine go _ ?_ ?_)|(with_reducible apply And.intro))
  all_goals first|omega|(unfold maxLen;omega)|(rw[fU,← List.append_assoc,ea];first|exact Prod.ext rfl (Prod.ext (iO (by assumption)) rfl)|exact Prod.ext rfl (Prod.ext (lT (by assumption)) rfl))|(have e:j=v.length:=(by omega);subst e;rw[pY,hD,lO,hA];rfl)
 ·intro hge
  have e:i=d.length:=by omega
  subst e
  rw[← hD,← hA]
theorem bE0:Con.Holds Tryz.prog wW:=aR aW (aG oF (aG aE2 aS)) bE1 bCN
def mY:Con:=⟨307,bA,(.bMC tI aF),[.val ⟨true,bA,[]⟩],[⟨true,(.bMC tI aF),[0,0,0]⟩],true,none,
 ((fun _=>True):(eK)→Prop),
 ((fun x=>xB x):(eK)→(Int × cL))⟩
def aGK:T:=.ret (bE (.bMC tI aF) [(aJ bA 2 (.Z 0)),(aJ bA 1 (.Z 0)),(aQ bA 3 (.Z 0))])
theorem bBW:bL Tryz.prog [] mY false 3000 ⟨[],[]⟩ = .ok aGK:=by kernel_rfl
theorem bDJ (x:eK) (hx:okD bA x) (hp:(fun _=>True) x):aGK.wp [] [⟨bA,x⟩] [] (fun v=>v.as (.bMC tI aF)=(fun x=>xB x) x):=by
 delta aGK;refine dD ?_;try with_reducible exact True.intro
 rfl
theorem aNH:Con.Holds Tryz.prog mY:=aR aW aS bBW bDJ
def mM:Con:=⟨275,(.bMC bA aB),(.bMC aB .bool),[.val ⟨true,bA,[]⟩,.val ⟨false,aB,[]⟩],[⟨false,aB,[2]⟩,⟨false,.bool,[0]⟩],false,none,
 ((fun _=>True):(eK × cD)→Prop),
 ((fun x=>oV x.1 x.2):(eK × cD)→(cD × Bool))⟩
def uU:T:=.call 0 (.p1 bA aB (.Z 0)) <|
 .bMD .not (.Z 1) <|
 .ite (.Z 2) (
  .ret (.bME aB .bool (.nl 3 tI) (.cb false))) (
  .call 1 (.bME aB tI (aQ (.bMC bA aB) 1 (.Z 0)) (aJ bA 1 (.p1 bA aB (.Z 0)))) <|
  .bMD .not (.Z 3) <|
  .ite (.Z 4) (
   .ret (.bME aB .bool (.nl 3 tI) (.cb false))) (
   .bMD (.cmp .eql .i64) (.bME tI tI (.p1 tI (.bMC tI aF) (.p1 bA aB (.Z 0))) (.ci .i64 1)) <|
   .ite (.Z 5) (
    .call 2 (.p1 bA aB (.Z 0)) <|
    .call 3 (.bME (.bMC tI aF) aB (.Z 6) (aQ (.bMC bA aB) 1 (.Z 0))) <|
    .ret (.Z 7)) (
    .bMD (.cmp .eql .i64) (.bME tI tI (.p1 tI (.bMC tI aF) (.p1 bA aB (.Z 0))) (.ci .i64 2)) <|
    .ite (.Z 6) (
     .call 4 (.bME aB aB (aQ (.bMC bA aB) 1 (.Z 0)) (aQ bA 3 (.p1 bA aB (.Z 0)))) <|
     .ret (.Z 7)) (
     .bMD (.cmp .eql .i64) (.bME tI tI (.p1 tI (.bMC tI aF) (.p1 bA aB (.Z 0))) (.ci .i64 4)) <|
     .ite (.Z 7) (
      .bMD (.bMH 3 tI) (.bME aB tI (aQ bA 3 (.p1 bA aB (.Z 0))) (.ci .i64 0)) <|
      .call 5 (.bME tI aB (.Z 8) (aQ (.bMC bA aB) 1 (.Z 0))) <|
      .ret (.Z 9)) (
      .bMD (.cmp .eql .i64) (.bME tI tI (.p1 tI (.bMC tI aF) (.p1 bA aB (.Z 0))) (.ci .i64 5)) <|
      .ite (.Z 8) (
       .call 2 (.p1 bA aB (.Z 0)) <|
       .call 3 (.bME (.bMC tI aF) aB (.Z 9) (aQ (.bMC bA aB) 1 (.Z 0))) <|
       .call 4 (.bME aB aB (aQ (.bMC bA aB) 1 (.Z 0)) (.p1 aB .bool (.Z 10))) <|
       .ite (aQ (.bMC aB .bool) 1 (.Z 10)) (
        .ret (.bME aB .bool (.p1 aB .bool (.Z 11)) (.cb true))) (
        .ret (.Z 11))) (
       .call 6 (aQ (.bMC bA aB) 1 (.Z 0)) <|
       .ret (.bME aB .bool (.Z 9) (.cb false))))))))
theorem aMP:bL Tryz.prog [lG,cA,mY,kV,kP,iV,qD] mM false 3000 ⟨[],[]⟩ = .ok uU:=by kernel_rfl
theorem aM4 (x:eK × cD) (hx:okD (.bMC bA aB) x) (hp:(fun _=>True) x):uU.wp [lG,cA,mY,kV,kP,iV,qD] [⟨(.bMC bA aB),x⟩] [] (fun v=>v.as (.bMC aB .bool)=(fun x=>oV x.1 x.2) x):=by
 obtain ⟨⟨kd,i,ou,P⟩,v⟩:=x
 delta uU lG cA mY kV kP iV qD;refine dD ?_
 simp only[Bool.not_eq_true',Bool.not_eq_false']
 refine ⟨fun h=>?_,fun h1=>⟨fun h=>?_,fun h2=>?_⟩⟩
 ·unfold oV;rw[if_pos (by rw[h];simp)]
 ·unfold oV;rw[if_pos (by rw[h];simp)]
 have h4:=aIH h1
 have hk:=((kL _).1 h1).1
 dsimp only at h4 hk
 (refine eE ?_;try with_reducible exact True.intro)
 (repeat' first|intro _|(with_reducible apply And.intro))
 all_goals first|omega|(obtain rfl:kd=3:=(by omega);simp[oV,h1,h2];done)|(simp_all[oV];done)
theorem aMO:Con.Holds Tryz.prog mM:=aR aW (aG aL3 (aG jI (aG aNH (aG aKK (aG aL9 (aG aFP (aG aRR aS))))))) aMP aM4
def lA:Con:=⟨278,(.bMC bA aI),(.bMC aB (.bMC aB .bool)),[.val ⟨true,bA,[]⟩,.val ⟨false,aB,[]⟩,.val ⟨false,aB,[]⟩],[⟨false,aB,[2]⟩,⟨false,aB,[2]⟩,⟨false,.bool,[0]⟩],false,none,
 ((fun _=>True):(eK × bW)→Prop),
 ((fun x=>iN x.1 x.2.1 x.2.2):(eK × bW)→(cD × (cD × Bool)))⟩
def rQ:T:=.call 0 (.p1 bA aI (.Z 0)) <|
 .bMD .not (.Z 1) <|
 .ite (.Z 2) (
  .ret (bE (.bMC aB (.bMC aB .bool)) [(.nl 3 tI),(.nl 3 tI),(.cb false)])) (
  .call 1 (.bME aB tI (aJ (.bMC bA aI) 1 (.Z 0)) (aJ bA 1 (.p1 bA aI (.Z 0)))) <|
  .bMD .not (.Z 3) <|
  .ite (.Z 4) (
   .ret (bE (.bMC aB (.bMC aB .bool)) [(.nl 3 tI),(.nl 3 tI),(.cb false)])) (
   .call 1 (.bME aB tI (aQ (.bMC bA aI) 2 (.Z 0)) (aJ bA 2 (.p1 bA aI (.Z 0)))) <|
   .bMD .not (.Z 5) <|
   .ite (.Z 6) (
    .ret (bE (.bMC aB (.bMC aB .bool)) [(.nl 3 tI),(.nl 3 tI),(.cb false)])) (
    .bMD (.cmp .eql .i64) (.bME tI tI (.p1 tI (.bMC tI aF) (.p1 bA aI (.Z 0))) (.ci .i64 1)) <|
    .ite (.Z 7) (
     .call 2 (.p1 bA aI (.Z 0)) <|
     .call 3 (.bME (.bMC tI aF) aB (.Z 8) (aQ (.bMC bA aI) 2 (.Z 0))) <|
     .call 4 (.bME aB aB (aQ (.bMC bA aI) 2 (.Z 0)) (aJ (.bMC bA aI) 1 (.Z 0))) <|
     .ite (aQ (.bMC aB .bool) 1 (.Z 9)) (
      .ret (bE (.bMC aB (.bMC aB .bool)) [(.p1 aB .bool (.Z 9)),(aQ (.bMC tI aF) 2 (.p1 (.bMC tI aF) .bool (.Z 10))),(.cb true)])) (
      .ret (bE (.bMC aB (.bMC aB .bool)) [(.p1 aB .bool (.Z 9)),(aQ (.bMC tI aF) 2 (.p1 (.bMC tI aF) .bool (.Z 10))),(aQ (.bMC (.bMC tI aF) .bool) 1 (.Z 10))]))) (
     .bMD (.cmp .eql .i64) (.bME tI tI (.p1 tI (.bMC tI aF) (.p1 bA aI (.Z 0))) (.ci .i64 2)) <|
     .ite (.Z 8) (
      .call 5 (aQ (.bMC bA aI) 2 (.Z 0)) <|
      .call 5 (aQ (.bMC bA aI) 2 (.Z 0)) <|
      .ret (bE (.bMC aB (.bMC aB .bool)) [(.Z 9),(.Z 10),(.cb false)])) (
      .bMD (.cmp .eql .i64) (.bME tI tI (.p1 tI (.bMC tI aF) (.p1 bA aI (.Z 0))) (.ci .i64 4)) <|
      .ite (.Z 9) (
       .bMD (.bMH 3 tI) (.bME aB tI (aQ bA 3 (.p1 bA aI (.Z 0))) (.ci .i64 0)) <|
       .call 6 (.bME tI aB (.Z 10) (aQ (.bMC bA aI) 2 (.Z 0))) <|
       .call 7 (.bME aB aB (aQ (.bMC bA aI) 2 (.Z 0)) (aJ (.bMC bA aI) 1 (.Z 0))) <|
       .bMD (.lit 3 tI 1) (.p1 tI .bool (.Z 12)) <|
       .ite (aQ (.bMC aB .bool) 1 (.Z 11)) (
        .ret (bE (.bMC aB (.bMC aB .bool)) [(.p1 aB .bool (.Z 11)),(.Z 13),(.cb true)])) (
        .ret (bE (.bMC aB (.bMC aB .bool)) [(.p1 aB .bool (.Z 11)),(.Z 13),(aQ (.bMC tI .bool) 1 (.Z 12))]))) (
       .bMD (.cmp .eql .i64) (.bME tI tI (.p1 tI (.bMC tI aF) (.p1 bA aI (.Z 0))) (.ci .i64 5)) <|
       .ite (.Z 10) (
        .call 2 (.p1 bA aI (.Z 0)) <|
        .call 3 (.bME (.bMC tI aF) aB (.Z 11) (aQ (.bMC bA aI) 2 (.Z 0))) <|
        .call 8 (.bME aB aB (aQ (.bMC bA aI) 2 (.Z 0)) (.p1 aB .bool (.Z 12))) <|
        .call 4 (.bME aB aB (aQ (.bMC bA aI) 2 (.Z 0)) (aJ (.bMC bA aI) 1 (.Z 0))) <|
        .ite (aQ (.bMC aB .bool) 1 (.Z 12)) (
         .ret (bE (.bMC aB (.bMC aB .bool)) [(.p1 aB .bool (.Z 13)),(aQ (.bMC tI aF) 2 (.p1 (.bMC tI aF) .bool (.Z 14))),(.cb true)])) (
         .ite (aQ (.bMC aB .bool) 1 (.Z 13)) (
          .ret (bE (.bMC aB (.bMC aB .bool)) [(.p1 aB .bool (.Z 13)),(aQ (.bMC tI aF) 2 (.p1 (.bMC tI aF) .bool (.Z 14))),(.cb true)])) (
          .ret (bE (.bMC aB (.bMC aB .bool)) [(.p1 aB .bool (.Z 13)),(aQ (.bMC tI aF) 2 (.p1 (.bMC tI aF) .bool (.Z 14))),(aQ (.bMC (.bMC tI aF) .bool) 1 (.Z 14))])))) (
        .call 9 (aQ (.bMC bA aI) 1 (.Z 0)) <|
        .ret (bE (.bMC aB (.bMC aB .bool)) [(.Z 11),(.nl 3 tI),(.cb false)]))))))))
theorem aLK:bL Tryz.prog [lG,cA,mY,qC,wW,bP,iV,iJ,kP,oY] lA false 3000 ⟨[],[]⟩ = .ok rQ:=by kernel_rfl
theorem aKZ (x:eK × bW) (hx:okD (.bMC bA aI) x) (hp:(fun _=>True) x):rQ.wp [lG,cA,mY,qC,wW,bP,iV,iJ,kP,oY] [⟨(.bMC bA aI),x⟩] [] (fun v=>v.as (.bMC aB (.bMC aB .bool))=(fun x=>iN x.1 x.2.1 x.2.2) x):=by
 obtain ⟨⟨kd,i,ou,P⟩,v,d⟩:=x
 delta rQ lG cA mY qC wW bP iV iJ kP oY;refine dD ?_
 simp only[Bool.not_eq_true',Bool.not_eq_false']
 refine ⟨fun h=>?_,fun h1=>⟨fun h=>?_,fun h2=>⟨fun h=>?_,fun h3=>?_⟩⟩⟩
 ·unfold iN;rw[if_pos (by rw[h];simp)]
 ·unfold iN;rw[if_pos (by rw[h];simp)]
 ·unfold iN;rw[if_pos (by rw[h];simp)]
 have h4:=aIH h1
 have hk:=((kL _).1 h1).1
 have hd:=(cP _).1 ((cF _ _).1 h3).1
 dsimp only at h4 hk
 (refine eE ?_;try with_reducible exact True.intro)
 (repeat' first|intro _|(with_reducible apply And.intro))
 all_goals first|omega|(obtain rfl:kd=3:=(by omega);simp[iN,h1,h2,h3];done)|(simp_all[iN];done)
theorem aIY:Con.Holds Tryz.prog lA:=aR aW (aG aL3 (aG jI (aG aNH (aG aUM (aG bE0 (aG gP (aG aFP (aG aDN (aG aL9 (aG aU7 aS)))))))))) aLK aKZ
def mW:Con:=⟨318,(.bMC tI aF),.bool,[.val ⟨true,(.bMC tI aF),[]⟩],[⟨false,.bool,[0]⟩],false,none,
 ((fun _=>True):(Int × cL)→Prop),
 ((fun x=>xD x):(Int × cL)→(Bool))⟩
def aFW:T:=.call 0 (bE (.bMC tI aO) [(.p1 tI aF (.Z 0)),(.ci .i64 1),(.ci .i64 6)]) <|
 .bMD .not (.Z 1) <|
 .ite (.Z 2) (
  .ret (.cb false)) (
  .call 0 (bE (.bMC tI aO) [(aJ (.bMC tI aF) 1 (.Z 0)),(.ci .i64 1),(.ci .i64 6)]) <|
  .bMD .not (.Z 3) <|
  .ite (.Z 4) (
   .ret (.cb false)) (
   .bMD (.bMG 3 tI) (aQ (.bMC tI aF) 2 (.Z 0)) <|
   .bMD (.ar .mul .i64) (.bME tI tI (.p1 tI aF (.Z 0)) (aJ (.bMC tI aF) 1 (.Z 0))) <|
   .bMD (.cmp .neq .i64) (.bME tI tI (.Z 5) (.Z 6)) <|
   .ite (.Z 7) (
    .ret (.cb false)) (
    .loop tI (.ci .i64 0) <|
     .bMD (.bMG 3 tI) (aQ (.bMC tI aF) 2 (.Z 0)) <|
     .bMD (.cmp .lss .i64) (.bME tI tI (.Z 8) (.Z 9)) <|
     .ite (.Z 10) (
      .bMD (.bMH 3 tI) (.bME aB tI (aQ (.bMC tI aF) 2 (.Z 0)) (.Z 8)) <|
      .call 1 (.Z 11) <|
      .bMD .not (.Z 12) <|
      .ite (.Z 13) (
       .ret (.cb false)) (
       .bMD (.ar .add .i64) (.bME tI tI (.Z 8) (.ci .i64 1)) <|
       .bMF 0 (.Z 14))) (
      .ret (.cb true)))))
theorem bC1:bL Tryz.prog [bH,gE] mW false 3000 ⟨[(2988,8008,iQ 24 4++[.dr 0,.tm 3 0])],[]⟩ = .ok aFW:=by kernel_rfl
theorem bE4 (x:Int × cL) (hx:okD (.bMC tI aF) x) (hp:(fun _=>True) x):aFW.wp [bH,gE] [⟨(.bMC tI aF),x⟩] [] (fun v=>v.as .bool=(fun x=>xD x) x):=by
 have hm:List.length x.2.2≤9223372036854775807:=hx.2.2.1
 delta aFW bH gE;refine dD ?_
 simp only[lU,aE7,aED]
 (repeat' first|intro _|(with_reducible apply And.intro))
 all_goals first|(first|(refine (Bool.eq_false_iff.2 ?_).symm;rw[ne_eq,lY];intro hh;omega)|(refine (lY.2 ?_).symm;omega))|(have:=aRE (a:=x.1) (b:=x.2.1) (by omega) (by omega) (by omega) (by omega);omega)|(refine (Bool.eq_false_iff.2 fun h=>?_).symm;rw[lY] at h;exact absurd h.1.2.2.2.2 (by assumption))|skip
 refine uK (fun k=>(k:Int)) (fun k=>(List.take k x.2.2).all nU=true) x.2.2.length rfl rfl fun I μ k hk hG _ go=>?_
 try dsimp only
 refine eE ?_
 have e:∀ h:k<x.2.2.length,(List.take (k+1) x.2.2).all nU=nU (x.2.2.getD k 0):=fun h=>by rw[mL nU x.2.2 h,hG,Bool.true_and,aZ h]
 (repeat' first|intro _|(refine go _ ?_ ?_ ?_)|(refine go _ ?_ ?_)|(with_reducible apply And.intro))
 all_goals first|omega|(refine (Bool.eq_false_iff.2 fun hh=>?_).symm;have h1:=List.all_eq_true.1 ((lY x).1 hh).2 _ (List.getElem_mem (show k<x.2.2.length by omega));rw[← aZ (d:=0)] at h1;exact Bool.noConfusion (h1.symm.trans (by assumption:_=false)))|(exact (e (by omega)).trans (by assumption))|rfl|skip
 refine ((lY x).2 ⟨⟨by omega,by omega,by omega,by omega,by omega⟩,?_⟩).symm
 rwa [List.take_of_length_le (by omega)] at hG
theorem aOE:Con.Holds Tryz.prog mW:=aR aW (aG eS (aG aC3 aS)) bC1 bE4
def vY:Con:=⟨319,(.bMC (.bMC tI aF) tI),aB,[.val ⟨true,(.bMC tI aF),[]⟩,.val ⟨false,tI,[]⟩],[⟨false,aB,[0]⟩],true,none,
 ((fun x=>xD x.1=true∧0≤x.2∧x.2<x.1.1):((Int × cL) × Int)→Prop),
 ((fun x=>aAZ x.1 x.2.toNat):((Int × cL) × Int)→(List Int))⟩
def aGI:T :=
 .bMD (.ar .mul .i64) (.bME tI tI (aQ (.bMC (.bMC tI aF) tI) 1 (.Z 0)) (aJ (.bMC tI aF) 1 (.p1 (.bMC tI aF) tI (.Z 0)))) <|
 .bMD (.ar .add .i64) (.bME tI tI (aQ (.bMC (.bMC tI aF) tI) 1 (.Z 0)) (.ci .i64 1)) <|
 .bMD (.ar .mul .i64) (.bME tI tI (.Z 2) (aJ (.bMC tI aF) 1 (.p1 (.bMC tI aF) tI (.Z 0)))) <|
 .bMD (.bMI 3 tI) (bE (.bMC aB aO) [(aQ (.bMC tI aF) 2 (.p1 (.bMC tI aF) tI (.Z 0))),(.Z 1),(.Z 3)]) <|
 .ret (.Z 4)
theorem bE5:bL Tryz.prog [] vY false 3000 ⟨[],[]⟩ = .ok aGI:=by kernel_rfl
theorem bC7 (x:(Int × cL) × Int) (hx:okD (.bMC (.bMC tI aF) tI) x) (hp:(fun x=>xD x.1=true∧0≤x.2∧x.2<x.1.1) x):aGI.wp [] [⟨(.bMC (.bMC tI aF) tI),x⟩] [] (fun v=>v.as aB=(fun x=>aAZ x.1 x.2.toNat) x):=by
 obtain ⟨m,k⟩:=x
 obtain ⟨h1,h2,h3⟩:xD m=true∧0≤k∧k<m.1:=hp
 obtain ⟨R,C,data,rfl,g1,g2,g3,g4,g5,g6,g7⟩:=lN h1
 obtain ⟨k,rfl⟩:=Int.eq_ofNat_of_zero_le h2
 have h3:k<R:=by dsimp only at h3;omega
 delta aGI;refine dD ?_
 obtain ⟨p,e0⟩:∃ p,p=k * C:=⟨_,rfl⟩
 have e1:(k:Int) * (C:Int)=(p:Int):=by rw[e0];exact (Int.natCast_mul k C).symm
 have e2:((k:Int)+1) * (C:Int)=((p+C:Nat):Int):=by rw[Int.add_mul,e1,Int.one_mul];rfl
 have e4:p+C≤data.length:=by rw[e0,g5];exact aFT h3
 simp only[e1,e2,lU,← aL4 R C k p data e0]
 (repeat' first|intro _|(with_reducible apply And.intro))
 all_goals first|omega|trivial|rfl
theorem bCY:Con.Holds Tryz.prog vY:=aR aW aS bE5 bC7
def wY:Con:=⟨321,(.bMC (.bMC tI aF) tI),aB,[.val ⟨true,(.bMC tI aF),[]⟩,.val ⟨false,tI,[]⟩],[⟨false,aB,[2]⟩],false,none,
 ((fun x=>xD x.1=true∧0≤x.2∧x.2<x.1.2.1):((Int × cL) × Int)→Prop),
 ((fun x=>sD x.1 x.2.toNat):((Int × cL) × Int)→(List Int))⟩
def aG9:T:=.loop aF (.bME tI aB (.ci .i64 0) (.nl 3 tI)) <|
 .bMD (.cmp .lss .i64) (.bME tI tI (.p1 tI aB (.Z 1)) (.p1 tI aF (.p1 (.bMC tI aF) tI (.Z 0)))) <|
 .ite (.Z 2) (
  .bMD (.ar .mul .i64) (.bME tI tI (.p1 tI aB (.Z 1)) (aJ (.bMC tI aF) 1 (.p1 (.bMC tI aF) tI (.Z 0)))) <|
  .bMD (.ar .add .i64) (.bME tI tI (.Z 3) (aQ (.bMC (.bMC tI aF) tI) 1 (.Z 0))) <|
  .bMD (.bMH 3 tI) (.bME aB tI (aQ (.bMC tI aF) 2 (.p1 (.bMC tI aF) tI (.Z 0))) (.Z 4)) <|
  .bMD (.lit 3 tI 1) (.Z 5) <|
  .bMD (.bMJ 3 tI 8) (.bME aB aB (aQ aF 1 (.Z 1)) (.Z 6)) <|
  .bMD (.ar .add .i64) (.bME tI tI (.p1 tI aB (.Z 1)) (.ci .i64 1)) <|
  .bMF 0 (.bME tI aB (.Z 8) (.Z 7))) (
  .ret (aQ aF 1 (.Z 1)))
theorem bD3:bL Tryz.prog [] wY false 3000 ⟨[(2991,1001,[.dr 7,.dr 0,.tm 6 0,.on 5,.sl 2])],[]⟩ = .ok aG9:=by kernel_rfl
theorem bE8 (x:(Int × cL) × Int) (hx:okD (.bMC (.bMC tI aF) tI) x) (hp:(fun x=>xD x.1=true∧0≤x.2∧x.2<x.1.2.1) x):aG9.wp [] [⟨(.bMC (.bMC tI aF) tI),x⟩] [] (fun v=>v.as aB=(fun x=>sD x.1 x.2.toNat) x):=by
 obtain ⟨m,c⟩:=x
 obtain ⟨h1,h2,h3⟩:xD m=true∧0≤c∧c<m.2.1:=hp
 obtain ⟨R,C,data,rfl,g1,g2,g3,g4,g5,g6,g7⟩:=lN h1
 obtain ⟨c,rfl⟩:=Int.eq_ofNat_of_zero_le h2
 have h3:c<C:=by dsimp only at h3;omega
 delta aG9;refine dD ?_
 refine cS (fun r=>((r:Int),mp r fun i=>data.getD (i * C+c) 0)) R rfl fun I μ k hk _ go=>?_
 dsimp only
 obtain ⟨p,e0⟩:∃ p,p=k * C:=⟨_,rfl⟩
 have e1:(k:Int) * (C:Int)=(p:Int):=by rw[e0];exact (Int.natCast_mul k C).symm
 have e2:(p:Int)+(c:Int)=((p+c:Nat):Int):=rfl
 have e4:k<R→p+C≤data.length:=fun h=>by rw[e0,g5];exact aFT h
 simp only[e1,e2,lU,fJ]
 (repeat' first|intro _|(refine go _ ?_ ?_ ?_)|(refine go _ ?_ ?_)|(with_reducible apply And.intro))
 all_goals first|omega|(unfold maxLen;omega)|(rw[fU,← e0];rfl)|(have e:k=R:=(by omega);subst e;rfl)
theorem bCG:Con.Holds Tryz.prog wY:=aR aW aS bD3 bE8
def sF:Con:=⟨298,(.bMC (.bMC tI aF) aB),(.bMC aB .bool),[.val ⟨true,(.bMC tI aF),[]⟩,.val ⟨false,aB,[]⟩],[⟨false,aB,[2]⟩,⟨false,.bool,[0]⟩],false,none,
 ((fun _=>True):((Int × cL) × cD)→Prop),
 ((fun x=>jZ x.1 x.2):((Int × cL) × cD)→(cD × Bool))⟩
def aDW:T:=.call 0 (.p1 (.bMC tI aF) aB (.Z 0)) <|
 .bMD .not (.Z 1) <|
 .ite (.Z 2) (
  .ret (.bME aB .bool (.nl 3 tI) (.cb false))) (
  .call 1 (aQ (.bMC (.bMC tI aF) aB) 1 (.Z 0)) <|
  .bMD .not (.Z 3) <|
  .ite (.Z 4) (
   .ret (.bME aB .bool (.nl 3 tI) (.cb false))) (
   .bMD (.bMG 3 tI) (aQ (.bMC (.bMC tI aF) aB) 1 (.Z 0)) <|
   .bMD (.cmp .neq .i64) (.bME tI tI (.Z 5) (aJ (.bMC tI aF) 1 (.p1 (.bMC tI aF) aB (.Z 0)))) <|
   .ite (.Z 6) (
    .ret (.bME aB .bool (.nl 3 tI) (.cb false))) (
    .loop (.bMC tI (.bMC .bool aB)) (bE (.bMC tI (.bMC .bool aB)) [(.ci .i64 0),(.cb false),(.nl 3 tI)]) <|
     .bMD (.cmp .lss .i64) (.bME tI tI (.p1 tI (.bMC .bool aB) (.Z 7)) (.p1 tI aF (.p1 (.bMC tI aF) aB (.Z 0)))) <|
     .ite (.Z 8) (
      .call 2 (.bME (.bMC tI aF) tI (.p1 (.bMC tI aF) aB (.Z 0)) (.p1 tI (.bMC .bool aB) (.Z 7))) <|
      .call 3 (.bME aB aB (.Z 9) (aQ (.bMC (.bMC tI aF) aB) 1 (.Z 0))) <|
      .bMD (.lit 3 tI 1) (.p1 tI .bool (.Z 10)) <|
      .bMD (.bMJ 3 tI 8) (.bME aB aB (aQ (.bMC tI (.bMC .bool aB)) 2 (.Z 7)) (.Z 11)) <|
      .ite (aJ (.bMC tI (.bMC .bool aB)) 1 (.Z 7)) (
       .bMD (.ar .add .i64) (.bME tI tI (.p1 tI (.bMC .bool aB) (.Z 7)) (.ci .i64 1)) <|
       .bMF 0 (bE (.bMC tI (.bMC .bool aB)) [(.Z 13),(.cb true),(.Z 12)])) (
       .bMD (.ar .add .i64) (.bME tI tI (.p1 tI (.bMC .bool aB) (.Z 7)) (.ci .i64 1)) <|
       .bMF 0 (bE (.bMC tI (.bMC .bool aB)) [(.Z 13),(aQ (.bMC tI .bool) 1 (.Z 10)),(.Z 12)]))) (
      .ret (.bME aB .bool (aQ (.bMC tI (.bMC .bool aB)) 2 (.Z 7)) (aJ (.bMC tI (.bMC .bool aB)) 1 (.Z 7)))))))
theorem aVQ:bL Tryz.prog [mW,bI,vY,eV] sF false 3000 ⟨[(2984,8007,iQ 26 11++[.dr 0,.tm 8 0,.tm 7 0,.on 6,.sl 2])],[]⟩ = .ok aDW:=by kernel_rfl
theorem aW7 (x:(Int × cL) × cD) (hx:okD (.bMC (.bMC tI aF) aB) x) (hp:(fun _=>True) x):aDW.wp [mW,bI,vY,eV] [⟨(.bMC (.bMC tI aF) aB),x⟩] [] (fun v=>v.as (.bMC aB .bool)=(fun x=>jZ x.1 x.2) x):=by
 obtain ⟨m,v⟩:=x
 delta aDW mW bI vY eV;refine dD ?_
 simp only[Bool.not_eq_true',Bool.not_eq_false',aE7,aED]
 refine ⟨fun h=>?_,fun h1=>⟨fun h=>?_,fun h2 _=>⟨fun h=>?_,fun h3=>?_⟩⟩⟩
 ·unfold jZ;rw[if_neg (by rw[h];simp)]
 ·unfold jZ eQ;rw[if_neg (by rw[h];simp)]
 ·unfold jZ eQ;rw[if_neg (fun hh=>h (by have:=hh.2;rw[Bool.and_eq_true,decide_eq_true_eq] at this;exact this.2))]
 have h4:eQ v m.2.1=true:=(cF _ _).2 ⟨h2,h3⟩
 rw[show jZ m v=_ from if_pos ⟨h1,h4⟩]
 obtain ⟨R,C,data,rfl,g1,g2,g3,g4,g5,g6,g7⟩:=lN h1
 refine cS (fun k=>((k:Int),an k (fun r=>(fM (aAZ ((R:Int),(C:Int),data) r) v).2),mp k fun r=>(fM (aAZ ((R:Int),(C:Int),data) r) v).1)) R rfl fun I μ k hk _ go=>?_
 dsimp only
 simp only[lU,fJ]
 (repeat' first|intro _|(refine go _ ?_ ?_ ?_)|(refine go _ ?_ ?_)|(with_reducible apply And.intro))
 all_goals first|omega|exact h1|(unfold maxLen;omega)|(rw[fU,lO];first|exact Prod.ext rfl (Prod.ext (iO (by assumption)) rfl)|exact Prod.ext rfl (Prod.ext (lT (by assumption)) rfl))|(have e:k=R:=(by omega);subst e;rfl)
theorem aYA:Con.Holds Tryz.prog sF:=aR aW (aG aOE (aG fD (aG bCY (aG xY aS)))) aVQ aW7
def pP:Con:=⟨304,(.bMC (.bMC tI aF) aB),(.bMC aB .bool),[.val ⟨true,(.bMC tI aF),[]⟩,.val ⟨false,aB,[]⟩],[⟨false,aB,[2]⟩,⟨false,.bool,[0]⟩],false,none,
 ((fun _=>True):((Int × cL) × cD)→Prop),
 ((fun x=>gO x.1 x.2):((Int × cL) × cD)→(cD × Bool))⟩
def aA7:T:=.call 0 (.p1 (.bMC tI aF) aB (.Z 0)) <|
 .bMD .not (.Z 1) <|
 .ite (.Z 2) (
  .ret (.bME aB .bool (.nl 3 tI) (.cb false))) (
  .call 1 (aQ (.bMC (.bMC tI aF) aB) 1 (.Z 0)) <|
  .bMD .not (.Z 3) <|
  .ite (.Z 4) (
   .ret (.bME aB .bool (.nl 3 tI) (.cb false))) (
   .bMD (.bMG 3 tI) (aQ (.bMC (.bMC tI aF) aB) 1 (.Z 0)) <|
   .bMD (.cmp .neq .i64) (.bME tI tI (.Z 5) (.p1 tI aF (.p1 (.bMC tI aF) aB (.Z 0)))) <|
   .ite (.Z 6) (
    .ret (.bME aB .bool (.nl 3 tI) (.cb false))) (
    .loop (.bMC tI (.bMC .bool aB)) (bE (.bMC tI (.bMC .bool aB)) [(.ci .i64 0),(.cb false),(.nl 3 tI)]) <|
     .bMD (.cmp .lss .i64) (.bME tI tI (.p1 tI (.bMC .bool aB) (.Z 7)) (aJ (.bMC tI aF) 1 (.p1 (.bMC tI aF) aB (.Z 0)))) <|
     .ite (.Z 8) (
      .call 2 (.bME (.bMC tI aF) tI (.p1 (.bMC tI aF) aB (.Z 0)) (.p1 tI (.bMC .bool aB) (.Z 7))) <|
      .call 3 (.bME aB aB (.Z 9) (aQ (.bMC (.bMC tI aF) aB) 1 (.Z 0))) <|
      .bMD (.lit 3 tI 1) (.p1 tI .bool (.Z 10)) <|
      .bMD (.bMJ 3 tI 8) (.bME aB aB (aQ (.bMC tI (.bMC .bool aB)) 2 (.Z 7)) (.Z 11)) <|
      .ite (aJ (.bMC tI (.bMC .bool aB)) 1 (.Z 7)) (
       .bMD (.ar .add .i64) (.bME tI tI (.p1 tI (.bMC .bool aB) (.Z 7)) (.ci .i64 1)) <|
       .bMF 0 (bE (.bMC tI (.bMC .bool aB)) [(.Z 13),(.cb true),(.Z 12)])) (
       .bMD (.ar .add .i64) (.bME tI tI (.p1 tI (.bMC .bool aB) (.Z 7)) (.ci .i64 1)) <|
       .bMF 0 (bE (.bMC tI (.bMC .bool aB)) [(.Z 13),(aQ (.bMC tI .bool) 1 (.Z 10)),(.Z 12)]))) (
      .ret (.bME aB .bool (aQ (.bMC tI (.bMC .bool aB)) 2 (.Z 7)) (aJ (.bMC tI (.bMC .bool aB)) 1 (.Z 7)))))))
theorem aS1:bL Tryz.prog [mW,bI,wY,eV] pP false 3000 ⟨[(2984,8007,iQ 26 11++[.dr 0,.tm 8 0,.tm 7 0,.on 6,.sl 2])],[]⟩ = .ok aA7:=by kernel_rfl
theorem aUY (x:(Int × cL) × cD) (hx:okD (.bMC (.bMC tI aF) aB) x) (hp:(fun _=>True) x):aA7.wp [mW,bI,wY,eV] [⟨(.bMC (.bMC tI aF) aB),x⟩] [] (fun v=>v.as (.bMC aB .bool)=(fun x=>gO x.1 x.2) x):=by
 obtain ⟨m,v⟩:=x
 delta aA7 mW bI wY eV;refine dD ?_
 simp only[Bool.not_eq_true',Bool.not_eq_false',aE7,aED]
 refine ⟨fun h=>?_,fun h1=>⟨fun h=>?_,fun h2 _=>⟨fun h=>?_,fun h3=>?_⟩⟩⟩
 ·unfold gO;rw[if_neg (by rw[h];simp)]
 ·unfold gO eQ;rw[if_neg (by rw[h];simp)]
 ·unfold gO eQ;rw[if_neg (fun hh=>h (by have:=hh.2;rw[Bool.and_eq_true,decide_eq_true_eq] at this;exact this.2))]
 have h4:eQ v m.1=true:=(cF _ _).2 ⟨h2,h3⟩
 rw[show gO m v=_ from if_pos ⟨h1,h4⟩]
 obtain ⟨R,C,data,rfl,g1,g2,g3,g4,g5,g6,g7⟩:=lN h1
 refine cS (fun k=>((k:Int),an k (fun r=>(fM (sD ((R:Int),(C:Int),data) r) v).2),mp k fun r=>(fM (sD ((R:Int),(C:Int),data) r) v).1)) C rfl fun I μ k hk _ go=>?_
 dsimp only
 simp only[lU,fJ]
 (repeat' first|intro _|(refine go _ ?_ ?_ ?_)|(refine go _ ?_ ?_)|(with_reducible apply And.intro))
 all_goals first|omega|exact h1|(unfold maxLen;omega)|(rw[fU,lO];first|exact Prod.ext rfl (Prod.ext (iO (by assumption)) rfl)|exact Prod.ext rfl (Prod.ext (lT (by assumption)) rfl))|(have e:k=C:=(by omega);subst e;rfl)
theorem aRF:Con.Holds Tryz.prog pP:=aR aW (aG aOE (aG fD (aG bCG (aG xY aS)))) aS1 aUY
def wR:Con:=⟨305,aI,(.bMC (.bMC tI aF) .bool),[.val ⟨false,aB,[]⟩,.val ⟨false,aB,[]⟩],[⟨true,(.bMC tI aF),[0,0,2]⟩,⟨false,.bool,[0]⟩],false,none,
 ((fun _=>True):(bW)→Prop),
 ((fun x=>qN x.1 x.2):(bW)→((Int × cL) × Bool))⟩
def aGJ:T:=.call 0 (.p1 aB aB (.Z 0)) <|
 .bMD .not (.Z 1) <|
 .ite (.Z 2) (
  .ret (.bME (.bMC tI aF) .bool (bE (.bMC tI aF) [(.ci .i64 0),(.ci .i64 0),(.nl 3 tI)]) (.cb false))) (
  .call 0 (aQ aI 1 (.Z 0)) <|
  .bMD .not (.Z 3) <|
  .ite (.Z 4) (
   .ret (.bME (.bMC tI aF) .bool (bE (.bMC tI aF) [(.ci .i64 0),(.ci .i64 0),(.nl 3 tI)]) (.cb false))) (
   .bMD (.bMG 3 tI) (.p1 aB aB (.Z 0)) <|
   .bMD (.bMG 3 tI) (aQ aI 1 (.Z 0)) <|
   .loop (.bMC tI (.bMC .bool aB)) (bE (.bMC tI (.bMC .bool aB)) [(.ci .i64 0),(.cb false),(.nl 3 tI)]) <|
    .bMD (.bMG 3 tI) (.p1 aB aB (.Z 0)) <|
    .bMD (.cmp .lss .i64) (.bME tI tI (.p1 tI (.bMC .bool aB) (.Z 7)) (.Z 8)) <|
    .ite (.Z 9) (
     .loop (.bMC tI (.bMC .bool aB)) (.bME tI (.bMC .bool aB) (.ci .i64 0) (aQ (.bMC tI (.bMC .bool aB)) 1 (.Z 7))) <|
      .bMD (.bMG 3 tI) (aQ aI 1 (.Z 0)) <|
      .bMD (.cmp .lss .i64) (.bME tI tI (.p1 tI (.bMC .bool aB) (.Z 10)) (.Z 11)) <|
      .ite (.Z 12) (
       .bMD (.bMH 3 tI) (.bME aB tI (.p1 aB aB (.Z 0)) (.p1 tI (.bMC .bool aB) (.Z 7))) <|
       .bMD (.bMH 3 tI) (.bME aB tI (aQ aI 1 (.Z 0)) (.p1 tI (.bMC .bool aB) (.Z 10))) <|
       .call 1 (.bME tI tI (.Z 13) (.Z 14)) <|
       .bMD (.lit 3 tI 1) (.p1 tI .bool (.Z 15)) <|
       .bMD (.bMJ 3 tI 8) (.bME aB aB (aQ (.bMC tI (.bMC .bool aB)) 2 (.Z 10)) (.Z 16)) <|
       .ite (aJ (.bMC tI (.bMC .bool aB)) 1 (.Z 10)) (
        .bMD (.ar .add .i64) (.bME tI tI (.p1 tI (.bMC .bool aB) (.Z 10)) (.ci .i64 1)) <|
        .bMF 0 (bE (.bMC tI (.bMC .bool aB)) [(.Z 18),(.cb true),(.Z 17)])) (
        .bMD (.ar .add .i64) (.bME tI tI (.p1 tI (.bMC .bool aB) (.Z 10)) (.ci .i64 1)) <|
        .bMF 0 (bE (.bMC tI (.bMC .bool aB)) [(.Z 18),(aQ (.bMC tI .bool) 1 (.Z 15)),(.Z 17)]))) (
       .bMD (.ar .add .i64) (.bME tI tI (.p1 tI (.bMC .bool aB) (.Z 7)) (.ci .i64 1)) <|
       .bMF 1 (.bME tI (.bMC .bool aB) (.Z 13) (aQ (.bMC tI (.bMC .bool aB)) 1 (.Z 10))))) (
     .ret (.bME (.bMC tI aF) .bool (bE (.bMC tI aF) [(.Z 5),(.Z 6),(aQ (.bMC tI (.bMC .bool aB)) 2 (.Z 7))]) (aJ (.bMC tI (.bMC .bool aB)) 1 (.Z 7))))))
theorem bCU:bL Tryz.prog [bI,hN] wR false 3000 ⟨[(2984,4007,iQ 25 21++iQ 19 12++[.tm 8 0,.tm 7 0,.sl 5]),(2973,12010,[.tm 9 0,.tm 7 0,.sl 5])],[]⟩ = .ok aGJ:=by kernel_rfl
theorem bC9 (x:bW) (hx:okD aI x) (hp:(fun _=>True) x):aGJ.wp [bI,hN] [⟨aI,x⟩] [] (fun v=>v.as (.bMC (.bMC tI aF) .bool)=(fun x=>qN x.1 x.2) x):=by
 obtain ⟨d,v⟩:=x
 delta aGJ bI hN;refine dD ?_
 simp only[Bool.not_eq_true',Bool.not_eq_false']
 refine ⟨fun h=>?_,fun h1=>⟨fun h=>?_,fun h2 _ _=>?_⟩⟩
 ·unfold qN;rw[if_neg (by rw[h];simp)];rfl
 ·unfold qN;rw[if_neg (by rw[h];simp)];rfl
 rw[show qN d v=_ from if_pos ⟨h1,h2⟩]
 have hd:=(cP d).1 h1
 have hv:=(cP v).1 h2
 refine cS (fun i=>((i:Int),an i (aL6 d v),pY (xJ d v) i)) d.length rfl fun I μ i hi _ go=>?_
 dsimp only
 refine eE ?_
 have hl:(pY (xJ d v) i).length=i * v.length:=sK (fun i=>fJ _ _) i
 have hq:i * v.length≤36:=Nat.le_trans (Nat.mul_le_mul hi (show v.length≤6 by omega)) (by omega)
 generalize hD:pY (xJ d v) i=D at *
 generalize hA:an i (aL6 d v)=A at *
 intro _
 constructor
 ·intro hlt
  refine cS (fun j=>((j:Int),A || an j (fun j=>(fA (d.getD i 0) (v.getD j 0)).2),D++mp j fun j=>(fA (d.getD i 0) (v.getD j 0)).1)) v.length (by simp[aR8,aZZ]) fun I2 μ2 j hj _ go2=>?_
  dsimp only
  simp only[lU,fJ]
  have ea:(A || an (j+1) (fun j=>(fA (d.getD i 0) (v.getD j 0)).2))=((A || an j (fun j=>(fA (d.getD i 0) (v.getD j 0)).2)) || (fA (d.getD i 0) (v.getD j 0)).2):=by rw[lO,Bool.or_assoc]
  (repeat' first|intro _|(refine go2 _ ?_ ?_ ?_)|(refine go2 _ ?_ ?_)|(refine go _ ?_ ?_ ?_)|(refine go _ ?_ ?_)|(with_reducible apply And.intro))
  all_goals first|omega|(unfold maxLen;omega)|(rw[fU,← List.append_assoc,ea];first|exact Prod.ext rfl (Prod.ext (iO (by assumption)) rfl)|exact Prod.ext rfl (Prod.ext (lT (by assumption)) rfl))|(have e:j=v.length:=(by omega);subst e;rw[pY,hD,lO,hA];rfl)
 ·intro hge
  have e:i=d.length:=by omega
  subst e
  rw[← hD,← hA]
theorem bCX:Con.Holds Tryz.prog wR:=aR aW (aG fD (aG aCV aS)) bCU bC9
def mX:Con:=⟨299,bA,(.bMC tI aF),[.val ⟨true,bA,[]⟩],[⟨true,(.bMC tI aF),[0,0,0]⟩],true,none,
 ((fun _=>True):(eK)→Prop),
 ((fun x=>xB x):(eK)→(Int × cL))⟩
def aGF:T:=.ret (bE (.bMC tI aF) [(aJ bA 2 (.Z 0)),(aJ bA 1 (.Z 0)),(aQ bA 3 (.Z 0))])
theorem bE6:bL Tryz.prog [] mX false 3000 ⟨[],[]⟩ = .ok aGF:=by kernel_rfl
theorem bCI (x:eK) (hx:okD bA x) (hp:(fun _=>True) x):aGF.wp [] [⟨bA,x⟩] [] (fun v=>v.as (.bMC tI aF)=(fun x=>xB x) x):=by
 delta aGF;refine dD ?_;try with_reducible exact True.intro
 rfl
theorem aN4:Con.Holds Tryz.prog mX:=aR aW aS bE6 bCI
def lZ:Con:=⟨270,(.bMC bA aB),(.bMC aB .bool),[.val ⟨true,bA,[]⟩,.val ⟨false,aB,[]⟩],[⟨false,aB,[2]⟩,⟨false,.bool,[0]⟩],false,none,
 ((fun _=>True):(eK × cD)→Prop),
 ((fun x=>oV x.1 x.2):(eK × cD)→(cD × Bool))⟩
def vI:T:=.call 0 (.p1 bA aB (.Z 0)) <|
 .bMD .not (.Z 1) <|
 .ite (.Z 2) (
  .ret (.bME aB .bool (.nl 3 tI) (.cb false))) (
  .call 1 (aQ (.bMC bA aB) 1 (.Z 0)) <|
  .bMD .not (.Z 3) <|
  .ite (.Z 4) (
   .ret (.bME aB .bool (.nl 3 tI) (.cb false))) (
   .bMD (.bMG 3 tI) (aQ (.bMC bA aB) 1 (.Z 0)) <|
   .bMD (.cmp .neq .i64) (.bME tI tI (.Z 5) (aJ bA 1 (.p1 bA aB (.Z 0)))) <|
   .ite (.Z 6) (
    .ret (.bME aB .bool (.nl 3 tI) (.cb false))) (
    .bMD (.cmp .eql .i64) (.bME tI tI (.p1 tI (.bMC tI aF) (.p1 bA aB (.Z 0))) (.ci .i64 1)) <|
    .ite (.Z 7) (
     .call 2 (.p1 bA aB (.Z 0)) <|
     .call 3 (.bME (.bMC tI aF) aB (.Z 8) (aQ (.bMC bA aB) 1 (.Z 0))) <|
     .ret (.Z 9)) (
     .bMD (.cmp .eql .i64) (.bME tI tI (.p1 tI (.bMC tI aF) (.p1 bA aB (.Z 0))) (.ci .i64 2)) <|
     .ite (.Z 8) (
      .call 4 (.bME aB aB (aQ (.bMC bA aB) 1 (.Z 0)) (aQ bA 3 (.p1 bA aB (.Z 0)))) <|
      .ret (.Z 9)) (
      .bMD (.cmp .eql .i64) (.bME tI tI (.p1 tI (.bMC tI aF) (.p1 bA aB (.Z 0))) (.ci .i64 3)) <|
      .ite (.Z 9) (
       .call 5 (aQ (.bMC bA aB) 1 (.Z 0)) <|
       .ret (.bME aB .bool (.Z 10) (.cb false))) (
       .bMD (.cmp .eql .i64) (.bME tI tI (.p1 tI (.bMC tI aF) (.p1 bA aB (.Z 0))) (.ci .i64 4)) <|
       .ite (.Z 10) (
        .bMD (.bMH 3 tI) (.bME aB tI (aQ bA 3 (.p1 bA aB (.Z 0))) (.ci .i64 0)) <|
        .call 6 (.bME tI aB (.Z 11) (aQ (.bMC bA aB) 1 (.Z 0))) <|
        .ret (.Z 12)) (
        .call 2 (.p1 bA aB (.Z 0)) <|
        .call 3 (.bME (.bMC tI aF) aB (.Z 11) (aQ (.bMC bA aB) 1 (.Z 0))) <|
        .call 4 (.bME aB aB (aQ (.bMC bA aB) 1 (.Z 0)) (.p1 aB .bool (.Z 12))) <|
        .ite (aQ (.bMC aB .bool) 1 (.Z 12)) (
         .ret (.bME aB .bool (.p1 aB .bool (.Z 13)) (.cb true))) (
         .ret (.Z 13)))))))))
theorem aMX:bL Tryz.prog [lK,bI,mX,sF,lE,pK,iR] lZ false 3000 ⟨[],[]⟩ = .ok vI:=by kernel_rfl
theorem aLU (x:eK × cD) (hx:okD (.bMC bA aB) x) (hp:(fun _=>True) x):vI.wp [lK,bI,mX,sF,lE,pK,iR] [⟨(.bMC bA aB),x⟩] [] (fun v=>v.as (.bMC aB .bool)=(fun x=>oV x.1 x.2) x):=by
 obtain ⟨⟨kd,i,ou,P⟩,v⟩:=x
 delta vI lK bI mX sF lE pK iR;refine dD ?_
 simp only[Bool.not_eq_true',Bool.not_eq_false',aE7,aED]
 refine ⟨fun h=>?_,fun h1=>⟨fun h=>?_,fun h2 _=>⟨fun h=>?_,fun h3=>?_⟩⟩⟩
 ·unfold oV;rw[if_pos (by rw[h];simp)]
 ·unfold oV eQ;rw[if_pos (by rw[h];simp)]
 ·unfold oV;rw[if_pos (fun hh=>h ((cF _ _).1 hh.2).2)]
 have h9:eQ v i=true:=(cF _ _).2 ⟨h2,h3⟩
 clear h2 h3
 have h4:=aIH h1
 have hk:=((kL _).1 h1).1
 dsimp only at h4 hk
 (refine eE ?_;try with_reducible exact True.intro)
 (repeat' first|intro _|(with_reducible apply And.intro))
 all_goals first|omega|(simp_all[oV];done)|(have e5:kd=5:=(by omega);subst e5;simp_all[oV];done)
theorem aMD:Con.Holds Tryz.prog lZ:=aR aW (aG aIJ (aG fD (aG aN4 (aG aYA (aG aL2 (aG aT8 (aG aFN aS))))))) aMX aLU
def kT:Con:=⟨273,(.bMC bA aI),(.bMC aB (.bMC aB .bool)),[.val ⟨true,bA,[]⟩,.val ⟨false,aB,[]⟩,.val ⟨false,aB,[]⟩],[⟨false,aB,[2]⟩,⟨false,aB,[2]⟩,⟨false,.bool,[0]⟩],false,none,
 ((fun _=>True):(eK × bW)→Prop),
 ((fun x=>iN x.1 x.2.1 x.2.2):(eK × bW)→(cD × (cD × Bool)))⟩
def rN:T:=.call 0 (.p1 bA aI (.Z 0)) <|
 .bMD .not (.Z 1) <|
 .ite (.Z 2) (
  .ret (bE (.bMC aB (.bMC aB .bool)) [(.nl 3 tI),(.nl 3 tI),(.cb false)])) (
  .call 1 (aJ (.bMC bA aI) 1 (.Z 0)) <|
  .bMD .not (.Z 3) <|
  .ite (.Z 4) (
   .ret (bE (.bMC aB (.bMC aB .bool)) [(.nl 3 tI),(.nl 3 tI),(.cb false)])) (
   .bMD (.bMG 3 tI) (aJ (.bMC bA aI) 1 (.Z 0)) <|
   .bMD (.cmp .neq .i64) (.bME tI tI (.Z 5) (aJ bA 1 (.p1 bA aI (.Z 0)))) <|
   .ite (.Z 6) (
    .ret (bE (.bMC aB (.bMC aB .bool)) [(.nl 3 tI),(.nl 3 tI),(.cb false)])) (
    .call 1 (aQ (.bMC bA aI) 2 (.Z 0)) <|
    .bMD .not (.Z 7) <|
    .ite (.Z 8) (
     .ret (bE (.bMC aB (.bMC aB .bool)) [(.nl 3 tI),(.nl 3 tI),(.cb false)])) (
     .bMD (.bMG 3 tI) (aQ (.bMC bA aI) 2 (.Z 0)) <|
     .bMD (.cmp .neq .i64) (.bME tI tI (.Z 9) (aJ bA 2 (.p1 bA aI (.Z 0)))) <|
     .ite (.Z 10) (
      .ret (bE (.bMC aB (.bMC aB .bool)) [(.nl 3 tI),(.nl 3 tI),(.cb false)])) (
      .bMD (.cmp .eql .i64) (.bME tI tI (.p1 tI (.bMC tI aF) (.p1 bA aI (.Z 0))) (.ci .i64 2)) <|
      .ite (.Z 11) (
       .bMD (.bMJ 3 tI 8) (.bME aB aB (.nl 3 tI) (aQ (.bMC bA aI) 2 (.Z 0))) <|
       .bMD (.bMJ 3 tI 8) (.bME aB aB (.nl 3 tI) (aQ (.bMC bA aI) 2 (.Z 0))) <|
       .ret (bE (.bMC aB (.bMC aB .bool)) [(.Z 12),(.Z 13),(.cb false)])) (
       .bMD (.cmp .eql .i64) (.bME tI tI (.p1 tI (.bMC tI aF) (.p1 bA aI (.Z 0))) (.ci .i64 3)) <|
       .ite (.Z 12) (
        .call 2 (aQ (.bMC bA aI) 1 (.Z 0)) <|
        .ret (bE (.bMC aB (.bMC aB .bool)) [(.Z 13),(.nl 3 tI),(.cb false)])) (
        .bMD (.cmp .eql .i64) (.bME tI tI (.p1 tI (.bMC tI aF) (.p1 bA aI (.Z 0))) (.ci .i64 4)) <|
        .ite (.Z 13) (
         .bMD (.bMH 3 tI) (.bME aB tI (aQ bA 3 (.p1 bA aI (.Z 0))) (.ci .i64 0)) <|
         .call 3 (.bME tI aB (.Z 14) (aQ (.bMC bA aI) 2 (.Z 0))) <|
         .call 4 (.bME aB aB (aQ (.bMC bA aI) 2 (.Z 0)) (aJ (.bMC bA aI) 1 (.Z 0))) <|
         .bMD (.lit 3 tI 1) (.p1 tI .bool (.Z 16)) <|
         .ite (aQ (.bMC aB .bool) 1 (.Z 15)) (
          .ret (bE (.bMC aB (.bMC aB .bool)) [(.p1 aB .bool (.Z 15)),(.Z 17),(.cb true)])) (
          .ret (bE (.bMC aB (.bMC aB .bool)) [(.p1 aB .bool (.Z 15)),(.Z 17),(aQ (.bMC tI .bool) 1 (.Z 16))]))) (
         .call 5 (.p1 bA aI (.Z 0)) <|
         .call 6 (.bME (.bMC tI aF) aB (.Z 14) (aQ (.bMC bA aI) 2 (.Z 0))) <|
         .call 7 (.bME aB aB (aQ (.bMC bA aI) 2 (.Z 0)) (aJ (.bMC bA aI) 1 (.Z 0))) <|
         .bMD (.cmp .eql .i64) (.bME tI tI (.p1 tI (.bMC tI aF) (.p1 bA aI (.Z 0))) (.ci .i64 1)) <|
         .ite (.Z 17) (
          .ite (aQ (.bMC aB .bool) 1 (.Z 15)) (
           .ret (bE (.bMC aB (.bMC aB .bool)) [(.p1 aB .bool (.Z 15)),(aQ (.bMC tI aF) 2 (.p1 (.bMC tI aF) .bool (.Z 16))),(.cb true)])) (
           .ret (bE (.bMC aB (.bMC aB .bool)) [(.p1 aB .bool (.Z 15)),(aQ (.bMC tI aF) 2 (.p1 (.bMC tI aF) .bool (.Z 16))),(aQ (.bMC (.bMC tI aF) .bool) 1 (.Z 16))]))) (
          .call 8 (.bME aB aB (aQ (.bMC bA aI) 2 (.Z 0)) (.p1 aB .bool (.Z 15))) <|
          .ite (aQ (.bMC aB .bool) 1 (.Z 15)) (
           .ret (bE (.bMC aB (.bMC aB .bool)) [(.p1 aB .bool (.Z 18)),(aQ (.bMC tI aF) 2 (.p1 (.bMC tI aF) .bool (.Z 16))),(.cb true)])) (
           .ite (aQ (.bMC (.bMC tI aF) .bool) 1 (.Z 16)) (
            .ret (bE (.bMC aB (.bMC aB .bool)) [(.p1 aB .bool (.Z 18)),(aQ (.bMC tI aF) 2 (.p1 (.bMC tI aF) .bool (.Z 16))),(.cb true)])) (
            .ret (bE (.bMC aB (.bMC aB .bool)) [(.p1 aB .bool (.Z 18)),(aQ (.bMC tI aF) 2 (.p1 (.bMC tI aF) .bool (.Z 16))),(aQ (.bMC aB .bool) 1 (.Z 18))]))))))))))))
theorem aIT:bL Tryz.prog [lK,bI,oW,iR,eV,mX,pP,wR,lE] kT false 3000 ⟨[],[]⟩ = .ok rN:=by kernel_rfl
theorem aKA (x:eK × bW) (hx:okD (.bMC bA aI) x) (hp:(fun _=>True) x):rN.wp [lK,bI,oW,iR,eV,mX,pP,wR,lE] [⟨(.bMC bA aI),x⟩] [] (fun v=>v.as (.bMC aB (.bMC aB .bool))=(fun x=>iN x.1 x.2.1 x.2.2) x):=by
 obtain ⟨⟨kd,i,ou,P⟩,v,d⟩:=x
 delta rN lK bI oW iR eV mX pP wR lE;refine dD ?_
 simp only[Bool.not_eq_true',Bool.not_eq_false',aE7,aED]
 refine ⟨fun h=>?_,fun h1=>⟨fun h=>?_,fun h2 _=>⟨fun h=>?_,fun h3=>⟨fun h=>?_,fun h5 _=>⟨fun h=>?_,fun h6=>?_⟩⟩⟩⟩⟩
 ·unfold iN;rw[if_pos (by rw[h];simp)]
 ·unfold iN eQ;rw[if_pos (by rw[h];simp)]
 ·unfold iN;rw[if_pos (fun hh=>h ((cF _ _).1 hh.2.1).2)]
 ·unfold iN eQ;rw[if_pos (by rw[h];simp)]
 ·unfold iN;rw[if_pos (fun hh=>h ((cF _ _).1 hh.2.2).2)]
 have h9:eQ v i=true:=(cF _ _).2 ⟨h2,h3⟩
 have h10:eQ d ou=true:=(cF _ _).2 ⟨h5,h6⟩
 have hd:=(cP d).1 h5
 clear h2 h3 h5 h6
 have h4:=aIH h1
 have hk:=((kL _).1 h1).1
 dsimp only at h4 hk
 rcases (show kd=1∨kd=2∨kd=3∨kd=4∨kd=5 by omega) with rfl|rfl|rfl|rfl|rfl
 all_goals
  refine eE ?_
  clear hk hx
  (repeat' first|intro _|(with_reducible apply And.intro))
  all_goals first|omega|(unfold maxLen;omega)|exact absurd trivial (by assumption)|(unfold iN;rw[if_neg (by simp[h1,h9,h10]),if_neg (by simp),if_neg (by simp),if_pos rfl];first|exact Prod.ext rfl (Prod.ext rfl (iO (by assumption)))|exact Prod.ext rfl (Prod.ext rfl (lT (by assumption))))|(simp[iN,h1,h9,h10, *];done)
theorem aK6:Con.Holds Tryz.prog kT:=aR aW (aG aIJ (aG fD (aG aS5 (aG aFN (aG xY (aG aN4 (aG aRF (aG bCX (aG aL2 aS))))))))) aIT aKA
end
end Go.Proofs.YtiihghfoeinbbaaGreat
