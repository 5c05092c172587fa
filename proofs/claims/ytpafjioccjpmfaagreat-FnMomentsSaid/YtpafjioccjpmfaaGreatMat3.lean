/- Mat3: lemmas. No conditions. -/
import Derived.Test.YtpafjioccjpmfaaGreatLin2
namespace Go.Proofs.YtpafjioccjpmfaaGreat
noncomputable section
set_option maxRecDepth 100000
open Go.ChangeShapes Go.WideShapes Go.ChangeAt Go.RowKit Go.Deep
set_option linter.unusedVariables false
set_option linter.unusedSimpArgs false
abbrev aA2:=Int × (Int × List Int)
def aIM (m:aA2):Bool:=decide (1≤m.1∧m.1≤6∧1≤m.2.1∧m.2.1≤6∧(m.2.2.length:Int)=m.1 * m.2.1)&&m.2.2.all gM
theorem wP (m:aA2):aIM m=true↔(1≤m.1∧m.1≤6∧1≤m.2.1∧m.2.1≤6∧(m.2.2.length:Int)=m.1 * m.2.1)∧m.2.2.all gM=true:=by unfold aIM;simp only[Bool.and_eq_true,decide_eq_true_eq]
def aJV (m:aA2) (i:Nat):List Int:=(m.2.2.take ((i+1) * m.2.1.toNat)).drop (i * m.2.1.toNat)
def zP (m:aA2) (k:Nat):List Int:=mp m.1.toNat fun i=>m.2.2.getD (i * m.2.1.toNat+k) 0
def nH (m:aA2) (x:List Int):List Int × Bool:=if aIM m=true∧cN x m.2.1=true then (mp m.1.toNat fun r=>(mI (aJV m r) x).1,an m.1.toNat fun r=>(mI (aJV m r) x).2) else ([],false)
def kC (m:aA2) (d:List Int):List Int × Bool:=if aIM m=true∧cN d m.1=true then (mp m.2.1.toNat fun k=>(mI (zP m k) d).1,an m.2.1.toNat fun k=>(mI (zP m k) d).2) else ([],false)
def bOQ:aA2:=(0,0,[])
def rG (f:Nat→List Int):Nat→List Int
 | 0=>[]
 | n+1=>rG f n++f n
def qZ (m:aA2):aA2:=if aIM m=true then (m.2.1,m.1,rG (zP m) m.2.1.toNat) else bOQ
def aA9 (d x:List Int) (i:Nat):List Int:=mp x.length fun j=>(kB (d.getD i 0) (x.getD j 0)).1
def aYM (d x:List Int) (i:Nat):Bool:=an x.length fun j=>(kB (d.getD i 0) (x.getD j 0)).2
def wV (d x:List Int):aA2 × Bool:=if nE d=true∧nE x=true then (((d.length:Int),(x.length:Int),rG (aA9 d x) d.length),an d.length (aYM d x)) else (bOQ,false)
def uF (o:cZ):aA2:=(o.2.2.1,o.2.1,o.2.2.2)
def rU (o:cZ) (x:List Int):List Int × Bool:=if ¬ (opB o=true∧cN x o.2.1=true) then ([],false) else
 if o.1=1 then nH (uF o) x else if o.1=2 then oT fD x o.2.2.2 else if o.1=4 then zK (o.2.2.2.getD 0 0) x else
 if o.1=5 then ((oT fD x (nH (uF o) x).1).1,(nH (uF o) x).2 || (oT fD x (nH (uF o) x).1).2) else (uV x,false)
def mG (o:cZ) (x d:List Int):List Int × (List Int × Bool):=if ¬ (opB o=true∧cN x o.2.1=true∧cN d o.2.2.1=true) then ([],[],false) else
 if o.1=1 then ((kC (uF o) d).1,(wV d x).1.2.2,(kC (uF o) d).2 || (wV d x).2) else
 if o.1=2 then (d,d,false) else
 if o.1=4 then ((zK (o.2.2.2.getD 0 0) d).1,[(mI d x).1],(zK (o.2.2.2.getD 0 0) d).2 || (mI d x).2) else
 if o.1=5 then ((oT fD d (kC (uF o) d).1).1,(wV d x).1.2.2,(kC (uF o) d).2 || (oT fD d (kC (uF o) d).1).2 || (wV d x).2) else
 (uZ x d,[],false)
theorem wO {m:aA2} (h:aIM m=true):∃ (R C:Nat) (data:List Int),m=((R:Int),(C:Int),data)∧1≤R∧R≤6∧1≤C∧C≤6∧data.length=R * C∧R * C≤36∧data.all gM=true:=by
 obtain ⟨a,b,data⟩:=m
 obtain ⟨⟨h1,h2,h3,h4,h5⟩,h6⟩:=(wP _).1 h
 dsimp only at h1 h2 h3 h4 h5 h6
 refine ⟨a.toNat,b.toNat,data,?_,by omega,by omega,by omega,by omega,?_,Nat.le_trans (Nat.mul_le_mul (show a.toNat≤6 by omega) (show b.toNat≤6 by omega)) (by decide),h6⟩
 ·rw[Int.toNat_of_nonneg (by omega),Int.toNat_of_nonneg (by omega)]
 ·have:((a.toNat * b.toNat:Nat):Int)=a * b:=by rw[Int.natCast_mul,Int.toNat_of_nonneg (by omega),Int.toNat_of_nonneg (by omega)]
  omega
theorem aQE {R C k:Nat} (h:k<R):k * C+C≤R * C:=by
 have:=Nat.mul_le_mul_right C (show k+1≤R from h)
 rwa [Nat.succ_mul] at this
theorem aVC (R C k p:Nat) (data:List Int) (e:p=k * C):aJV ((R:Int),(C:Int),data) k=(data.take (p+C)).drop p:=by
 unfold aJV;simp only[Int.toNat_natCast,Nat.succ_mul,← e]
theorem tA {f:Nat→List Int} {L:Nat} (h:∀ i,(f i).length=L):(n:Nat)→(rG f n).length=n * L
 | 0=>by simp[rG]
 | n+1=>by rw[rG,List.length_append,tA h n,h,Nat.succ_mul]
theorem aMT {f:Nat→List Int} {L:Nat} (h:∀ i,(f i).length=L) {k:Nat}:(n:Nat)→k<n→((rG f n).take (k * L+L)).drop (k * L)=f k
 | 0,hk=>by omega
 | n+1,hk=>by
  have hl:=tA h n
  rcases Nat.lt_or_eq_of_le (Nat.le_of_lt_succ hk) with h'|rfl
  ·have h1:=aQE (C:=L) h'
   rw[rG,List.take_append_of_le_length (by omega)]
   exact aMT h n h'
  ·rw[rG,List.take_of_length_le (by rw[List.length_append,hl,h];exact Nat.le_refl _),List.drop_append_of_le_length (by omega),List.drop_of_length_le (by omega),List.nil_append]
theorem aOZ (m:aA2) (k:Nat):(zP m k).length=m.1.toNat:=fL _ _
theorem aSX {f:Nat→List Int} {x:Int}:(n:Nat)→x∈rG f n→∃ k,k<n∧x∈f k
 | 0,h=>by simp[rG] at h
 | n+1,h=>by
  rw[rG,List.mem_append] at h
  rcases h with h|h
  ·obtain ⟨k,h1,h2⟩:=aSX n h;exact ⟨k,by omega,h2⟩
  ·exact ⟨n,by omega,h⟩
theorem bDY {m:aA2} (h:aIM m=true):aIM (qZ m)=true∧∀ k,k<m.2.1.toNat→aJV (qZ m) k=zP m k:=by
 obtain ⟨R,C,data,rfl,h1,h2,h3,h4,h5,h6,h7⟩:=wO h
 have e:qZ ((R:Int),(C:Int),data)=((C:Int),(R:Int),rG (zP ((R:Int),(C:Int),data)) C):=if_pos h
 have hl:∀ i,(zP ((R:Int),(C:Int),data) i).length=R:=fun i=>aOZ _ _
 constructor
 ·rw[e,wP]
  refine ⟨⟨?_,?_,?_,?_,?_⟩,?_⟩
  ·dsimp only;omega
  ·dsimp only;omega
  ·dsimp only;omega
  ·dsimp only;omega
  ·dsimp only;rw[tA hl,Int.natCast_mul]
  ·rw[List.all_eq_true]
   intro x hx
   obtain ⟨k,hk,hx⟩:=aSX _ hx
   unfold zP mp at hx
   rw[List.mem_map] at hx
   obtain ⟨i,hi,rfl⟩:=hx
   rw[List.mem_range] at hi
   dsimp only [Int.toNat_natCast] at hi ⊢
   have hb:=aQE (C:=C) hi
   rw[aW (show i * C+k<data.length by omega)]
   exact (List.all_eq_true.1 h7) _ (List.getElem_mem _)
 ·intro k hk
  rw[e,aVC C R k (k * R) _ rfl]
  exact aMT hl C hk
theorem bKG {m:aA2} {d:List Int} (h:aIM m=true) (h2:cN d m.1=true):nH (qZ m) d=kC m d:=by
 obtain ⟨t1,t2⟩:=bDY h
 have e1:(qZ m).2.1=m.1:=by unfold qZ;rw[if_pos h]
 have e2:(qZ m).1=m.2.1:=by unfold qZ;rw[if_pos h]
 unfold nH kC
 rw[if_pos ⟨t1,by rw[e1];exact h2⟩,if_pos ⟨h,h2⟩,e2]
 exact Prod.ext (bKV fun i hi=>by rw[t2 i hi]) (bKS fun i hi=>by rw[t2 i hi])
theorem bCG {o:cZ} (h:opB o=true) (h4:o.1=4):o.2.2.2.length=1:=by
 have:=((eH o).1 h).1
 have e:=aL6 (o:=o) (by omega)
 omega
def jI:Con:=⟨142,(.bPW tI aI),.bool,[.val ⟨true,(.bPW tI aI),[]⟩],[⟨false,.bool,[0]⟩],false,none,
 ((fun _=>True):(Int × eS)→Prop),
 ((fun x=>aIM x):(Int × eS)→(Bool))⟩
def aH8:T :=
 .bPX (.cmp .lss .i64) (.bPY tI tI (.p1 tI aI (.Z 0)) (.ci .i64 1)) <|
 .ite (.Z 1) (
  .ret (.cb false)) (
  .bPX (.cmp .gtr .i64) (.bPY tI tI (.p1 tI aI (.Z 0)) (.ci .i64 6)) <|
  .ite (.Z 2) (
   .ret (.cb false)) (
   .bPX (.cmp .lss .i64) (.bPY tI tI (aH (.bPW tI aI) 1 (.Z 0)) (.ci .i64 1)) <|
   .ite (.Z 3) (
    .ret (.cb false)) (
    .bPX (.cmp .gtr .i64) (.bPY tI tI (aH (.bPW tI aI) 1 (.Z 0)) (.ci .i64 6)) <|
    .ite (.Z 4) (
     .ret (.cb false)) (
     .bPX (.bQ0 3 tI) (aS (.bPW tI aI) 2 (.Z 0)) <|
     .bPX (.ar .mul .i64) (.bPY tI tI (.p1 tI aI (.Z 0)) (aH (.bPW tI aI) 1 (.Z 0))) <|
     .bPX (.cmp .eql .i64) (.bPY tI tI (.Z 5) (.Z 6)) <|
     .ite (.Z 7) (
      .call 0 (aS (.bPW tI aI) 2 (.Z 0)) <|
      .ret (.Z 8)) (
      .ret (.cb false))))))
theorem bEU:bW Tryz.prog [iA] jI false 3000 ⟨[],[]⟩ = .ok aH8:=by kernel_rfl
theorem bE3 (x:Int × eS) (hx:okD (.bPW tI aI) x) (hp:(fun _=>True) x):aH8.wp [iA] [⟨(.bPW tI aI),x⟩] [] (fun v=>v.as .bool=(fun x=>aIM x) x):=by
 delta aH8 iA;refine dY ?_
 (refine eD ?_;try with_reducible exact True.intro)
 (repeat' first|intro _|(with_reducible apply And.intro))
 all_goals first|(first|(refine (Bool.eq_false_iff.2 ?_).symm;rw[ne_eq,wP];intro hh;omega)|(refine (wP.2 ?_).symm;omega))|(have:=aTZ (a:=x.1) (b:=x.2.1) (by omega) (by omega) (by omega) (by omega);omega)|(rw[Bool.eq_iff_iff,wP];exact ⟨fun h=>⟨⟨by omega,by omega,by omega,by omega,by assumption⟩,h⟩,fun h=>h.2⟩)
theorem aHO:Con.Holds Tryz.prog jI:=aX aZ (aG aET aT) bEU bE3
def kZ:Con:=⟨133,(.bPW (.bPW tI aI) aB),(.bPW aB .bool),[.val ⟨true,(.bPW tI aI),[]⟩,.val ⟨false,aB,[]⟩],[⟨false,aB,[2]⟩,⟨false,.bool,[0]⟩],false,none,
 ((fun _=>True):((Int × eS) × bK)→Prop),
 ((fun x=>nH x.1 x.2):((Int × eS) × bK)→(bK × Bool))⟩
def aE0:T:=.call 0 (.p1 (.bPW tI aI) aB (.Z 0)) <|
 .bPX .not (.Z 1) <|
 .ite (.Z 2) (
  .ret (.bPY aB .bool (.nl 3 tI) (.cb false))) (
  .call 1 (.bPY aB tI (aS (.bPW (.bPW tI aI) aB) 1 (.Z 0)) (aH (.bPW tI aI) 1 (.p1 (.bPW tI aI) aB (.Z 0)))) <|
  .bPX .not (.Z 3) <|
  .ite (.Z 4) (
   .ret (.bPY aB .bool (.nl 3 tI) (.cb false))) (
   .loop (.bPW tI (.bPW .bool aB)) (bP (.bPW tI (.bPW .bool aB)) [(.ci .i64 0),(.cb false),(.nl 3 tI)]) <|
    .bPX (.cmp .lss .i64) (.bPY tI tI (.p1 tI (.bPW .bool aB) (.Z 5)) (.p1 tI aI (.p1 (.bPW tI aI) aB (.Z 0)))) <|
    .ite (.Z 6) (
     .bPX (.ar .mul .i64) (.bPY tI tI (.p1 tI (.bPW .bool aB) (.Z 5)) (aH (.bPW tI aI) 1 (.p1 (.bPW tI aI) aB (.Z 0)))) <|
     .bPX (.ar .add .i64) (.bPY tI tI (.p1 tI (.bPW .bool aB) (.Z 5)) (.ci .i64 1)) <|
     .bPX (.ar .mul .i64) (.bPY tI tI (.Z 8) (aH (.bPW tI aI) 1 (.p1 (.bPW tI aI) aB (.Z 0)))) <|
     .bPX (.bQ2 3 tI) (bP (.bPW aB aD) [(aS (.bPW tI aI) 2 (.p1 (.bPW tI aI) aB (.Z 0))),(.Z 7),(.Z 9)]) <|
     .call 2 (.bPY aB aB (.Z 10) (aS (.bPW (.bPW tI aI) aB) 1 (.Z 0))) <|
     .bPX (.lit 3 tI 1) (.p1 tI .bool (.Z 11)) <|
     .bPX (.bQ3 3 tI 8) (.bPY aB aB (aS (.bPW tI (.bPW .bool aB)) 2 (.Z 5)) (.Z 12)) <|
     .ite (aH (.bPW tI (.bPW .bool aB)) 1 (.Z 5)) (
      .bPX (.ar .add .i64) (.bPY tI tI (.p1 tI (.bPW .bool aB) (.Z 5)) (.ci .i64 1)) <|
      .bPZ 0 (bP (.bPW tI (.bPW .bool aB)) [(.Z 14),(.cb true),(.Z 13)])) (
      .bPX (.ar .add .i64) (.bPY tI tI (.p1 tI (.bPW .bool aB) (.Z 5)) (.ci .i64 1)) <|
      .bPZ 0 (bP (.bPW tI (.bPW .bool aB)) [(.Z 14),(aS (.bPW tI .bool) 1 (.Z 11)),(.Z 13)]))) (
     .ret (.bPY aB .bool (aS (.bPW tI (.bPW .bool aB)) 2 (.Z 5)) (aH (.bPW tI (.bPW .bool aB)) 1 (.Z 5))))))
theorem aYA:bW Tryz.prog [jI,cG,iC] kZ false 3000 ⟨[(2984,4005,jV 21 11++[.dr 0,.tm 8 0,.tm 7 0,.on 6,.sl 2])],[]⟩ = .ok aE0:=by kernel_rfl
theorem aWZ (x:(Int × eS) × bK) (hx:okD (.bPW (.bPW tI aI) aB) x) (hp:(fun _=>True) x):aE0.wp [jI,cG,iC] [⟨(.bPW (.bPW tI aI) aB),x⟩] [] (fun v=>v.as (.bPW aB .bool)=(fun x=>nH x.1 x.2) x):=by
 obtain ⟨m,v⟩:=x
 delta aE0 jI cG iC;refine dY ?_
 simp only[Bool.not_eq_true',Bool.not_eq_false']
 refine ⟨fun h=>?_,fun h1=>⟨fun h=>?_,fun h2=>?_⟩⟩
 ·unfold nH;rw[if_neg (by rw[h];simp)]
 ·unfold nH;rw[if_neg (by rw[h];simp)]
 rw[show nH m v=_ from if_pos ⟨h1,h2⟩]
 obtain ⟨R,C,data,rfl,g1,g2,g3,g4,g5,g6,g7⟩:=wO h1
 refine eW (fun k=>((k:Int),an k (fun r=>(mI (aJV ((R:Int),(C:Int),data) r) v).2),mp k fun r=>(mI (aJV ((R:Int),(C:Int),data) r) v).1)) R rfl fun I μ k hk _ go=>?_
 dsimp only
 obtain ⟨p,e0⟩:∃ p,p=k * C:=⟨_,rfl⟩
 have e1:(k:Int) * (C:Int)=(p:Int):=by rw[e0];exact (Int.natCast_mul k C).symm
 have e2:((k:Int)+1) * (C:Int)=((p+C:Nat):Int):=by rw[Int.add_mul,e1,Int.one_mul];rfl
 have e4:k<R→p+C≤data.length:=fun h=>by rw[e0,g5];exact aQE h
 simp only[e1,e2,uP,fL,← aVC R C k p data e0]
 (repeat' first|intro _|(refine go _ ?_ ?_ ?_)|(refine go _ ?_ ?_)|(with_reducible apply And.intro))
 all_goals first|omega|(unfold maxLen;omega)|(rw[oE,aCB];first|exact Prod.ext rfl (Prod.ext (uY (by assumption)) rfl)|exact Prod.ext rfl (Prod.ext (aD0 (by assumption)) rfl))|(have e:k=R:=(by omega);subst e;rfl)
theorem aKW:Con.Holds Tryz.prog kZ:=aX aZ (aG aHO (aG jN (aG aDD aT))) aYA aWZ
def mK:Con:=⟨144,(.bPW tI aI),(.bPW tI aI),[.val ⟨true,(.bPW tI aI),[]⟩],[⟨true,(.bPW tI aI),[0,0,2]⟩],false,none,
 ((fun _=>True):(Int × eS)→Prop),
 ((fun x=>qZ x):(Int × eS)→(Int × eS))⟩
def vR:T:=.call 0 (.Z 0) <|
 .bPX .not (.Z 1) <|
 .ite (.Z 2) (
  .ret (bP (.bPW tI aI) [(.ci .i64 0),(.ci .i64 0),(.nl 3 tI)])) (
  .loop aI (.bPY tI aB (.ci .i64 0) (.nl 3 tI)) <|
   .bPX (.cmp .lss .i64) (.bPY tI tI (.p1 tI aB (.Z 3)) (aH (.bPW tI aI) 1 (.Z 0))) <|
   .ite (.Z 4) (
    .loop aI (.bPY tI aB (.ci .i64 0) (aS aI 1 (.Z 3))) <|
     .bPX (.cmp .lss .i64) (.bPY tI tI (.p1 tI aB (.Z 5)) (.p1 tI aI (.Z 0))) <|
     .ite (.Z 6) (
      .bPX (.ar .mul .i64) (.bPY tI tI (.p1 tI aB (.Z 5)) (aH (.bPW tI aI) 1 (.Z 0))) <|
      .bPX (.ar .add .i64) (.bPY tI tI (.Z 7) (.p1 tI aB (.Z 3))) <|
      .bPX (.bQ1 3 tI) (.bPY aB tI (aS (.bPW tI aI) 2 (.Z 0)) (.Z 8)) <|
      .bPX (.lit 3 tI 1) (.Z 9) <|
      .bPX (.bQ3 3 tI 8) (.bPY aB aB (aS aI 1 (.Z 5)) (.Z 10)) <|
      .bPX (.ar .add .i64) (.bPY tI tI (.p1 tI aB (.Z 5)) (.ci .i64 1)) <|
      .bPZ 0 (.bPY tI aB (.Z 12) (.Z 11))) (
      .bPX (.ar .add .i64) (.bPY tI tI (.p1 tI aB (.Z 3)) (.ci .i64 1)) <|
      .bPZ 1 (.bPY tI aB (.Z 7) (aS aI 1 (.Z 5))))) (
    .ret (bP (.bPW tI aI) [(aH (.bPW tI aI) 1 (.Z 0)),(.p1 tI aI (.Z 0)),(aS aI 1 (.Z 3))])))
theorem aND:bW Tryz.prog [jI] mK false 3000 ⟨[(2986,2003,jV 14 10++jV 8 6++[.dr 0,.tm 4 0,.sl 6]),(2975,6005,[.tm 5 0,.sl 6])],[]⟩ = .ok vR:=by kernel_rfl
theorem aNL (x:Int × eS) (hx:okD (.bPW tI aI) x) (hp:(fun _=>True) x):vR.wp [jI] [⟨(.bPW tI aI),x⟩] [] (fun v=>v.as (.bPW tI aI)=(fun x=>qZ x) x):=by
 obtain ⟨m,rfl⟩:∃ m,m=x:=⟨_,rfl⟩
 delta vR jI;refine dY ?_
 simp only[Bool.not_eq_true',Bool.not_eq_false']
 refine ⟨fun h=>?_,fun h1=>?_⟩
 ·unfold qZ;rw[if_neg (by rw[h];exact Bool.false_ne_true)];rfl
 rw[show qZ m=_ from if_pos h1]
 obtain ⟨R,C,data,rfl,g1,g2,g3,g4,g5,g6,g7⟩:=wO h1
 refine eW (fun c=>((c:Int),rG (zP ((R:Int),(C:Int),data)) c)) C rfl fun I μ c hc _ go=>?_
 dsimp only
 refine eD ?_
 have hl:(rG (zP ((R:Int),(C:Int),data)) c).length=c * R:=tA (fun i=>aOZ _ _) c
 have hq:c * R≤36:=Nat.le_trans (Nat.mul_le_mul hc g2) (by omega)
 generalize hD:rG (zP ((R:Int),(C:Int),data)) c=D at *
 constructor
 ·intro hlt
  refine eW (fun r=>((r:Int),D++mp r fun i=>data.getD (i * C+c) 0)) R (by simp[bC7]) fun I2 μ2 k hk _ go2=>?_
  dsimp only
  obtain ⟨p,e0⟩:∃ p,p=k * C:=⟨_,rfl⟩
  have e1:(k:Int) * (C:Int)=(p:Int):=by rw[e0];exact (Int.natCast_mul k C).symm
  have e2:(p:Int)+(c:Int)=((p+c:Nat):Int):=rfl
  have e4:k<R→p+C≤data.length:=fun h=>by rw[e0,g5];exact aQE h
  simp only[e1,e2,uP,fL]
  (repeat' first|intro _|(refine go2 _ ?_ ?_ ?_)|(refine go2 _ ?_ ?_)|(refine go _ ?_ ?_ ?_)|(refine go _ ?_ ?_)|(with_reducible apply And.intro))
  all_goals first|omega|(unfold maxLen;omega)|(rw[oE,← List.append_assoc,← e0];rfl)|(have e:k=R:=(by omega);subst e;rw[rG,hD];rfl)
 ·intro hge
  have e:c=C:=by omega
  subst e
  rw[← hD]
theorem aNU:Con.Holds Tryz.prog mK:=aX aZ (aG aHO aT) aND aNL
def qL:Con:=⟨139,(.bPW (.bPW tI aI) aB),(.bPW aB .bool),[.val ⟨true,(.bPW tI aI),[]⟩,.val ⟨false,aB,[]⟩],[⟨false,aB,[2]⟩,⟨false,.bool,[0]⟩],false,none,
 ((fun _=>True):((Int × eS) × bK)→Prop),
 ((fun x=>kC x.1 x.2):((Int × eS) × bK)→(bK × Bool))⟩
def aAE:T:=.call 0 (.p1 (.bPW tI aI) aB (.Z 0)) <|
 .bPX .not (.Z 1) <|
 .ite (.Z 2) (
  .ret (.bPY aB .bool (.nl 3 tI) (.cb false))) (
  .call 1 (.bPY aB tI (aS (.bPW (.bPW tI aI) aB) 1 (.Z 0)) (.p1 tI aI (.p1 (.bPW tI aI) aB (.Z 0)))) <|
  .bPX .not (.Z 3) <|
  .ite (.Z 4) (
   .ret (.bPY aB .bool (.nl 3 tI) (.cb false))) (
   .call 2 (.p1 (.bPW tI aI) aB (.Z 0)) <|
   .call 3 (.bPY (.bPW tI aI) aB (.Z 5) (aS (.bPW (.bPW tI aI) aB) 1 (.Z 0))) <|
   .ret (.Z 6)))
theorem aSZ:bW Tryz.prog [jI,cG,mK,kZ] qL false 3000 ⟨[],[]⟩ = .ok aAE:=by kernel_rfl
theorem aVB (x:(Int × eS) × bK) (hx:okD (.bPW (.bPW tI aI) aB) x) (hp:(fun _=>True) x):aAE.wp [jI,cG,mK,kZ] [⟨(.bPW (.bPW tI aI) aB),x⟩] [] (fun v=>v.as (.bPW aB .bool)=(fun x=>kC x.1 x.2) x):=by
 obtain ⟨m,d⟩:=x
 delta aAE jI cG mK kZ;refine dY ?_
 simp only[Bool.not_eq_true',Bool.not_eq_false']
 refine ⟨fun h=>?_,fun h1=>⟨fun h=>?_,fun h2 _ _=>bKG h1 h2⟩⟩
 ·unfold kC;rw[if_neg (by rw[h];simp)]
 ·unfold kC;rw[if_neg (by rw[h];simp)]
theorem aVG:Con.Holds Tryz.prog qL:=aX aZ (aG aHO (aG jN (aG aNU (aG aKW aT)))) aSZ aVB
def wL:Con:=⟨140,aQ,(.bPW (.bPW tI aI) .bool),[.val ⟨false,aB,[]⟩,.val ⟨false,aB,[]⟩],[⟨true,(.bPW tI aI),[0,0,2]⟩,⟨false,.bool,[0]⟩],false,none,
 ((fun _=>True):(cB)→Prop),
 ((fun x=>wV x.1 x.2):(cB)→((Int × eS) × Bool))⟩
def aG9:T:=.call 0 (.p1 aB aB (.Z 0)) <|
 .bPX .not (.Z 1) <|
 .ite (.Z 2) (
  .ret (.bPY (.bPW tI aI) .bool (bP (.bPW tI aI) [(.ci .i64 0),(.ci .i64 0),(.nl 3 tI)]) (.cb false))) (
  .call 0 (aS aQ 1 (.Z 0)) <|
  .bPX .not (.Z 3) <|
  .ite (.Z 4) (
   .ret (.bPY (.bPW tI aI) .bool (bP (.bPW tI aI) [(.ci .i64 0),(.ci .i64 0),(.nl 3 tI)]) (.cb false))) (
   .bPX (.bQ0 3 tI) (.p1 aB aB (.Z 0)) <|
   .bPX (.bQ0 3 tI) (aS aQ 1 (.Z 0)) <|
   .bPX (.bQ0 3 tI) (.p1 aB aB (.Z 0)) <|
   .loop (.bPW tI (.bPW .bool aB)) (bP (.bPW tI (.bPW .bool aB)) [(.ci .i64 0),(.cb false),(.nl 3 tI)]) <|
    .bPX (.cmp .lss .i64) (.bPY tI tI (.p1 tI (.bPW .bool aB) (.Z 8)) (.Z 7)) <|
    .ite (.Z 9) (
     .bPX (.bQ1 3 tI) (.bPY aB tI (.p1 aB aB (.Z 0)) (.p1 tI (.bPW .bool aB) (.Z 8))) <|
     .bPX (.bQ0 3 tI) (aS aQ 1 (.Z 0)) <|
     .loop (.bPW tI (.bPW .bool aB)) (.bPY tI (.bPW .bool aB) (.ci .i64 0) (aS (.bPW tI (.bPW .bool aB)) 1 (.Z 8))) <|
      .bPX (.cmp .lss .i64) (.bPY tI tI (.p1 tI (.bPW .bool aB) (.Z 12)) (.Z 11)) <|
      .ite (.Z 13) (
       .bPX (.bQ1 3 tI) (.bPY aB tI (aS aQ 1 (.Z 0)) (.p1 tI (.bPW .bool aB) (.Z 12))) <|
       .call 1 (.bPY tI tI (.Z 10) (.Z 14)) <|
       .bPX (.lit 3 tI 1) (.p1 tI .bool (.Z 15)) <|
       .bPX (.bQ3 3 tI 8) (.bPY aB aB (aS (.bPW tI (.bPW .bool aB)) 2 (.Z 12)) (.Z 16)) <|
       .ite (aH (.bPW tI (.bPW .bool aB)) 1 (.Z 12)) (
        .bPX (.ar .add .i64) (.bPY tI tI (.p1 tI (.bPW .bool aB) (.Z 12)) (.ci .i64 1)) <|
        .bPZ 0 (bP (.bPW tI (.bPW .bool aB)) [(.Z 18),(.cb true),(.Z 17)])) (
        .bPX (.ar .add .i64) (.bPY tI tI (.p1 tI (.bPW .bool aB) (.Z 12)) (.ci .i64 1)) <|
        .bPZ 0 (bP (.bPW tI (.bPW .bool aB)) [(.Z 18),(aS (.bPW tI .bool) 1 (.Z 15)),(.Z 17)]))) (
       .bPX (.ar .add .i64) (.bPY tI tI (.p1 tI (.bPW .bool aB) (.Z 8)) (.ci .i64 1)) <|
       .bPZ 1 (.bPY tI (.bPW .bool aB) (.Z 14) (aS (.bPW tI (.bPW .bool aB)) 1 (.Z 12))))) (
     .ret (.bPY (.bPW tI aI) .bool (bP (.bPW tI aI) [(.Z 5),(.Z 6),(aS (.bPW tI (.bPW .bool aB)) 2 (.Z 8))]) (aH (.bPW tI (.bPW .bool aB)) 1 (.Z 8))))))
theorem bDC:bW Tryz.prog [dH,iF] wL false 3000 ⟨[(2984,4008,jV 27 23++jV 21 14++[.dr 0,.tm 30 0,.tm 7 0,.sl 5]),(2971,12012,[.tm 36 0,.tm 7 0,.sl 5])],[]⟩ = .ok aG9:=by kernel_rfl
theorem bDQ (x:cB) (hx:okD aQ x) (hp:(fun _=>True) x):aG9.wp [dH,iF] [⟨aQ,x⟩] [] (fun v=>v.as (.bPW (.bPW tI aI) .bool)=(fun x=>wV x.1 x.2) x):=by
 obtain ⟨d,v⟩:=x
 delta aG9 dH iF;refine dY ?_
 simp only[Bool.not_eq_true',Bool.not_eq_false']
 refine ⟨fun h=>?_,fun h1=>⟨fun h=>?_,fun h2 _ _ _=>?_⟩⟩
 ·unfold wV;rw[if_neg (by rw[h];simp)];rfl
 ·unfold wV;rw[if_neg (by rw[h];simp)];rfl
 rw[show wV d v=_ from if_pos ⟨h1,h2⟩]
 have hd:=(dB d).1 h1
 have hv:=(dB v).1 h2
 refine eW (fun i=>((i:Int),an i (aYM d v),rG (aA9 d v) i)) d.length rfl fun I μ i hi _ go=>?_
 dsimp only
 refine eD ?_
 have hl:(rG (aA9 d v) i).length=i * v.length:=tA (fun i=>fL _ _) i
 have hq:i * v.length≤36:=Nat.le_trans (Nat.mul_le_mul hi (show v.length≤6 by omega)) (by omega)
 generalize hD:rG (aA9 d v) i=D at *
 generalize hA:an i (aYM d v)=A at *
 constructor
 ·intro hlt
  refine ⟨by omega,fun _ _=>?_⟩
  refine eW (fun j=>((j:Int),A || an j (fun j=>(kB (d.getD i 0) (v.getD j 0)).2),D++mp j fun j=>(kB (d.getD i 0) (v.getD j 0)).1)) v.length (by simp[bC7,bKQ]) fun I2 μ2 j hj _ go2=>?_
  dsimp only
  simp only[uP,fL]
  have ea:(A || an (j+1) (fun j=>(kB (d.getD i 0) (v.getD j 0)).2))=((A || an j (fun j=>(kB (d.getD i 0) (v.getD j 0)).2)) || (kB (d.getD i 0) (v.getD j 0)).2):=by rw[aCB,Bool.or_assoc]
  (repeat' first|intro _|(refine go2 _ ?_ ?_ ?_)|(refine go2 _ ?_ ?_)|(refine go _ ?_ ?_ ?_)|(refine go _ ?_ ?_)|(with_reducible apply And.intro))
  all_goals first|omega|(unfold maxLen;omega)|(rw[oE,← List.append_assoc,ea];first|exact Prod.ext rfl (Prod.ext (uY (by assumption)) rfl)|exact Prod.ext rfl (Prod.ext (aD0 (by assumption)) rfl))|(have e:j=v.length:=(by omega);subst e;rw[rG,hD,aCB,hA];rfl)
 ·intro hge
  have e:i=d.length:=by omega
  subst e
  rw[← hD,← hA]
theorem bFM:Con.Holds Tryz.prog wL:=aX aZ (aG pJ (aG aEI aT)) bDC bDQ
def nJ:Con:=⟨134,bU,(.bPW tI aI),[.val ⟨true,bU,[]⟩],[⟨true,(.bPW tI aI),[0,0,0]⟩],true,none,
 ((fun _=>True):(cZ)→Prop),
 ((fun x=>uF x):(cZ)→(Int × eS))⟩
def aGD:T:=.ret (bP (.bPW tI aI) [(aH bU 2 (.Z 0)),(aH bU 1 (.Z 0)),(aS bU 3 (.Z 0))])
theorem bFA:bW Tryz.prog [] nJ false 3000 ⟨[],[]⟩ = .ok aGD:=by kernel_rfl
theorem bF8 (x:cZ) (hx:okD bU x) (hp:(fun _=>True) x):aGD.wp [] [⟨bU,x⟩] [] (fun v=>v.as (.bPW tI aI)=(fun x=>uF x) x):=by
 delta aGD;refine dY ?_;try with_reducible exact True.intro
 rfl
theorem aOJ:Con.Holds Tryz.prog nJ:=aX aZ aT bFA bF8
def mL:Con:=⟨124,(.bPW bU aB),(.bPW aB .bool),[.val ⟨true,bU,[]⟩,.val ⟨false,aB,[]⟩],[⟨false,aB,[2]⟩,⟨false,.bool,[0]⟩],false,none,
 ((fun _=>True):(cZ × bK)→Prop),
 ((fun x=>rU x.1 x.2):(cZ × bK)→(bK × Bool))⟩
def vO:T:=.call 0 (.p1 bU aB (.Z 0)) <|
 .bPX .not (.Z 1) <|
 .ite (.Z 2) (
  .ret (.bPY aB .bool (.nl 3 tI) (.cb false))) (
  .call 1 (.bPY aB tI (aS (.bPW bU aB) 1 (.Z 0)) (aH bU 1 (.p1 bU aB (.Z 0)))) <|
  .bPX .not (.Z 3) <|
  .ite (.Z 4) (
   .ret (.bPY aB .bool (.nl 3 tI) (.cb false))) (
   .bPX (.cmp .eql .i64) (.bPY tI tI (.p1 tI (.bPW tI aI) (.p1 bU aB (.Z 0))) (.ci .i64 1)) <|
   .ite (.Z 5) (
    .call 2 (.p1 bU aB (.Z 0)) <|
    .call 3 (.bPY (.bPW tI aI) aB (.Z 6) (aS (.bPW bU aB) 1 (.Z 0))) <|
    .ret (.Z 7)) (
    .bPX (.cmp .eql .i64) (.bPY tI tI (.p1 tI (.bPW tI aI) (.p1 bU aB (.Z 0))) (.ci .i64 2)) <|
    .ite (.Z 6) (
     .call 4 (.bPY aB aB (aS (.bPW bU aB) 1 (.Z 0)) (aS bU 3 (.p1 bU aB (.Z 0)))) <|
     .ret (.Z 7)) (
     .bPX (.cmp .eql .i64) (.bPY tI tI (.p1 tI (.bPW tI aI) (.p1 bU aB (.Z 0))) (.ci .i64 4)) <|
     .ite (.Z 7) (
      .bPX (.bQ1 3 tI) (.bPY aB tI (aS bU 3 (.p1 bU aB (.Z 0))) (.ci .i64 0)) <|
      .call 5 (.bPY tI aB (.Z 8) (aS (.bPW bU aB) 1 (.Z 0))) <|
      .ret (.Z 9)) (
      .bPX (.cmp .eql .i64) (.bPY tI tI (.p1 tI (.bPW tI aI) (.p1 bU aB (.Z 0))) (.ci .i64 5)) <|
      .ite (.Z 8) (
       .call 2 (.p1 bU aB (.Z 0)) <|
       .call 3 (.bPY (.bPW tI aI) aB (.Z 9) (aS (.bPW bU aB) 1 (.Z 0))) <|
       .call 4 (.bPY aB aB (aS (.bPW bU aB) 1 (.Z 0)) (.p1 aB .bool (.Z 10))) <|
       .ite (aS (.bPW aB .bool) 1 (.Z 10)) (
        .ret (.bPY aB .bool (.p1 aB .bool (.Z 11)) (.cb true))) (
        .ret (.Z 11))) (
       .call 6 (aS (.bPW bU aB) 1 (.Z 0)) <|
       .ret (.bPY aB .bool (.Z 9) (.cb false))))))))
theorem aOE:bW Tryz.prog [kY,cG,nJ,kZ,lS,iN,pY] mL false 3000 ⟨[],[]⟩ = .ok vO:=by kernel_rfl
theorem aNH (x:cZ × bK) (hx:okD (.bPW bU aB) x) (hp:(fun _=>True) x):vO.wp [kY,cG,nJ,kZ,lS,iN,pY] [⟨(.bPW bU aB),x⟩] [] (fun v=>v.as (.bPW aB .bool)=(fun x=>rU x.1 x.2) x):=by
 obtain ⟨⟨kd,i,ou,P⟩,v⟩:=x
 delta vO kY cG nJ kZ lS iN pY;refine dY ?_
 simp only[Bool.not_eq_true',Bool.not_eq_false']
 refine ⟨fun h=>?_,fun h1=>⟨fun h=>?_,fun h2=>?_⟩⟩
 ·unfold rU;rw[if_pos (by rw[h];simp)]
 ·unfold rU;rw[if_pos (by rw[h];simp)]
 have h4:=bCG h1
 have hk:=((eH _).1 h1).1
 dsimp only at h4 hk
 (refine eD ?_;try with_reducible exact True.intro)
 (repeat' first|intro _|(with_reducible apply And.intro))
 all_goals first|omega|(obtain rfl:kd=3:=(by omega);simp[rU,h1,h2];done)|(simp_all[rU];done)
theorem aNV:Con.Holds Tryz.prog mL:=aX aZ (aG aMI (aG jN (aG aOJ (aG aKW (aG aMB (aG aFX (aG aTK aT))))))) aOE aNH
def lF:Con:=⟨130,(.bPW bU aQ),(.bPW aB (.bPW aB .bool)),[.val ⟨true,bU,[]⟩,.val ⟨false,aB,[]⟩,.val ⟨false,aB,[]⟩],[⟨false,aB,[2]⟩,⟨false,aB,[2]⟩,⟨false,.bool,[0]⟩],false,none,
 ((fun _=>True):(cZ × cB)→Prop),
 ((fun x=>mG x.1 x.2.1 x.2.2):(cZ × cB)→(bK × (bK × Bool)))⟩
def tR:T:=.call 0 (.p1 bU aQ (.Z 0)) <|
 .bPX .not (.Z 1) <|
 .ite (.Z 2) (
  .ret (bP (.bPW aB (.bPW aB .bool)) [(.nl 3 tI),(.nl 3 tI),(.cb false)])) (
  .call 1 (.bPY aB tI (aH (.bPW bU aQ) 1 (.Z 0)) (aH bU 1 (.p1 bU aQ (.Z 0)))) <|
  .bPX .not (.Z 3) <|
  .ite (.Z 4) (
   .ret (bP (.bPW aB (.bPW aB .bool)) [(.nl 3 tI),(.nl 3 tI),(.cb false)])) (
   .call 1 (.bPY aB tI (aS (.bPW bU aQ) 2 (.Z 0)) (aH bU 2 (.p1 bU aQ (.Z 0)))) <|
   .bPX .not (.Z 5) <|
   .ite (.Z 6) (
    .ret (bP (.bPW aB (.bPW aB .bool)) [(.nl 3 tI),(.nl 3 tI),(.cb false)])) (
    .bPX (.cmp .eql .i64) (.bPY tI tI (.p1 tI (.bPW tI aI) (.p1 bU aQ (.Z 0))) (.ci .i64 1)) <|
    .ite (.Z 7) (
     .call 2 (.p1 bU aQ (.Z 0)) <|
     .call 3 (.bPY (.bPW tI aI) aB (.Z 8) (aS (.bPW bU aQ) 2 (.Z 0))) <|
     .call 4 (.bPY aB aB (aS (.bPW bU aQ) 2 (.Z 0)) (aH (.bPW bU aQ) 1 (.Z 0))) <|
     .ite (aS (.bPW aB .bool) 1 (.Z 9)) (
      .ret (bP (.bPW aB (.bPW aB .bool)) [(.p1 aB .bool (.Z 9)),(aS (.bPW tI aI) 2 (.p1 (.bPW tI aI) .bool (.Z 10))),(.cb true)])) (
      .ret (bP (.bPW aB (.bPW aB .bool)) [(.p1 aB .bool (.Z 9)),(aS (.bPW tI aI) 2 (.p1 (.bPW tI aI) .bool (.Z 10))),(aS (.bPW (.bPW tI aI) .bool) 1 (.Z 10))]))) (
     .bPX (.cmp .eql .i64) (.bPY tI tI (.p1 tI (.bPW tI aI) (.p1 bU aQ (.Z 0))) (.ci .i64 2)) <|
     .ite (.Z 8) (
      .call 5 (aS (.bPW bU aQ) 2 (.Z 0)) <|
      .call 5 (aS (.bPW bU aQ) 2 (.Z 0)) <|
      .ret (bP (.bPW aB (.bPW aB .bool)) [(.Z 9),(.Z 10),(.cb false)])) (
      .bPX (.cmp .eql .i64) (.bPY tI tI (.p1 tI (.bPW tI aI) (.p1 bU aQ (.Z 0))) (.ci .i64 4)) <|
      .ite (.Z 9) (
       .bPX (.bQ1 3 tI) (.bPY aB tI (aS bU 3 (.p1 bU aQ (.Z 0))) (.ci .i64 0)) <|
       .call 6 (.bPY tI aB (.Z 10) (aS (.bPW bU aQ) 2 (.Z 0))) <|
       .call 7 (.bPY aB aB (aS (.bPW bU aQ) 2 (.Z 0)) (aH (.bPW bU aQ) 1 (.Z 0))) <|
       .bPX (.lit 3 tI 1) (.p1 tI .bool (.Z 12)) <|
       .ite (aS (.bPW aB .bool) 1 (.Z 11)) (
        .ret (bP (.bPW aB (.bPW aB .bool)) [(.p1 aB .bool (.Z 11)),(.Z 13),(.cb true)])) (
        .ret (bP (.bPW aB (.bPW aB .bool)) [(.p1 aB .bool (.Z 11)),(.Z 13),(aS (.bPW tI .bool) 1 (.Z 12))]))) (
       .bPX (.cmp .eql .i64) (.bPY tI tI (.p1 tI (.bPW tI aI) (.p1 bU aQ (.Z 0))) (.ci .i64 5)) <|
       .ite (.Z 10) (
        .call 2 (.p1 bU aQ (.Z 0)) <|
        .call 3 (.bPY (.bPW tI aI) aB (.Z 11) (aS (.bPW bU aQ) 2 (.Z 0))) <|
        .call 8 (.bPY aB aB (aS (.bPW bU aQ) 2 (.Z 0)) (.p1 aB .bool (.Z 12))) <|
        .call 4 (.bPY aB aB (aS (.bPW bU aQ) 2 (.Z 0)) (aH (.bPW bU aQ) 1 (.Z 0))) <|
        .ite (aS (.bPW aB .bool) 1 (.Z 12)) (
         .ret (bP (.bPW aB (.bPW aB .bool)) [(.p1 aB .bool (.Z 13)),(aS (.bPW tI aI) 2 (.p1 (.bPW tI aI) .bool (.Z 14))),(.cb true)])) (
         .ite (aS (.bPW aB .bool) 1 (.Z 13)) (
          .ret (bP (.bPW aB (.bPW aB .bool)) [(.p1 aB .bool (.Z 13)),(aS (.bPW tI aI) 2 (.p1 (.bPW tI aI) .bool (.Z 14))),(.cb true)])) (
          .ret (bP (.bPW aB (.bPW aB .bool)) [(.p1 aB .bool (.Z 13)),(aS (.bPW tI aI) 2 (.p1 (.bPW tI aI) .bool (.Z 14))),(aS (.bPW (.bPW tI aI) .bool) 1 (.Z 14))])))) (
        .call 9 (aS (.bPW bU aQ) 1 (.Z 0)) <|
        .ret (bP (.bPW aB (.bPW aB .bool)) [(.Z 11),(.nl 3 tI),(.cb false)]))))))))
theorem aKI:bW Tryz.prog [kY,cG,nJ,qL,wL,bT,iN,iC,lS,qD] lF false 3000 ⟨[],[]⟩ = .ok tR:=by kernel_rfl
theorem aMM (x:cZ × cB) (hx:okD (.bPW bU aQ) x) (hp:(fun _=>True) x):tR.wp [kY,cG,nJ,qL,wL,bT,iN,iC,lS,qD] [⟨(.bPW bU aQ),x⟩] [] (fun v=>v.as (.bPW aB (.bPW aB .bool))=(fun x=>mG x.1 x.2.1 x.2.2) x):=by
 obtain ⟨⟨kd,i,ou,P⟩,v,d⟩:=x
 delta tR kY cG nJ qL wL bT iN iC lS qD;refine dY ?_
 simp only[Bool.not_eq_true',Bool.not_eq_false']
 refine ⟨fun h=>?_,fun h1=>⟨fun h=>?_,fun h2=>⟨fun h=>?_,fun h3=>?_⟩⟩⟩
 ·unfold mG;rw[if_pos (by rw[h];simp)]
 ·unfold mG;rw[if_pos (by rw[h];simp)]
 ·unfold mG;rw[if_pos (by rw[h];simp)]
 have h4:=bCG h1
 have hk:=((eH _).1 h1).1
 have hd:=(dB _).1 ((fF _ _).1 h3).1
 dsimp only at h4 hk
 (refine eD ?_;try with_reducible exact True.intro)
 (repeat' first|intro _|(with_reducible apply And.intro))
 all_goals first|omega|(obtain rfl:kd=3:=(by omega);simp[mG,h1,h2,h3];done)|(simp_all[mG];done)
theorem aMG:Con.Holds Tryz.prog lF:=aX aZ (aG aMI (aG jN (aG aOJ (aG aVG (aG bFM (aG gT (aG aFX (aG aDD (aG aMB (aG aU0 aT)))))))))) aKI aMM
end
end Go.Proofs.YtpafjioccjpmfaaGreat
