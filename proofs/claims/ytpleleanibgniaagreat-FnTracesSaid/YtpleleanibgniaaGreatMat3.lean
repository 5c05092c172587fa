/- Mat3: lemmas. No conditions. -/
import Derived.Test.YtpleleanibgniaaGreatLin2
namespace Go.Proofs.YtpleleanibgniaaGreat
noncomputable section
set_option maxRecDepth 100000
open Go.ChangeShapes Go.WideShapes Go.ChangeAt Go.RowKit Go.Deep
set_option linter.unusedVariables false
set_option linter.unusedSimpArgs false
abbrev vU:=Int × (Int × List Int)
def aH4 (m:vU):Bool:=decide (1≤m.1∧m.1≤6∧1≤m.2.1∧m.2.1≤6∧(m.2.2.length:Int)=m.1 * m.2.1)&&m.2.2.all iI
theorem yD (m:vU):aH4 m=true↔(1≤m.1∧m.1≤6∧1≤m.2.1∧m.2.1≤6∧(m.2.2.length:Int)=m.1 * m.2.1)∧m.2.2.all iI=true:=by unfold aH4;simp only[Bool.and_eq_true,decide_eq_true_eq]
def aI2 (m:vU) (i:Nat):List Int:=(m.2.2.take ((i+1) * m.2.1.toNat)).drop (i * m.2.1.toNat)
def yG (m:vU) (k:Nat):List Int:=mp m.1.toNat fun i=>m.2.2.getD (i * m.2.1.toNat+k) 0
def mE (m:vU) (x:List Int):List Int × Bool:=if aH4 m=true∧gC x m.2.1=true then (mp m.1.toNat fun r=>(lK (aI2 m r) x).1,an m.1.toNat fun r=>(lK (aI2 m r) x).2) else ([],false)
def jV (m:vU) (d:List Int):List Int × Bool:=if aH4 m=true∧gC d m.1=true then (mp m.2.1.toNat fun k=>(lK (yG m k) d).1,an m.2.1.toNat fun k=>(lK (yG m k) d).2) else ([],false)
def bIR:vU:=(0,0,[])
def qP (f:Nat→List Int):Nat→List Int
 | 0=>[]
 | n+1=>qP f n++f n
def nU (m:vU):vU:=if aH4 m=true then (m.2.1,m.1,qP (yG m) m.2.1.toNat) else bIR
def aEJ (d x:List Int) (i:Nat):List Int:=mp x.length fun j=>(iE (d.getD i 0) (x.getD j 0)).1
def aU0 (d x:List Int) (i:Nat):Bool:=an x.length fun j=>(iE (d.getD i 0) (x.getD j 0)).2
def xW (d x:List Int):vU × Bool:=if kO d=true∧kO x=true then (((d.length:Int),(x.length:Int),qP (aEJ d x) d.length),an d.length (aU0 d x)) else (bIR,false)
def xP (o:dE):vU:=(o.2.2.1,o.2.1,o.2.2.2)
def zW (o:dE) (x:List Int):List Int × Bool:=if ¬ (opB o=true∧gC x o.2.1=true) then ([],false) else
 if o.1=1 then mE (xP o) x else if o.1=2 then qG eI x o.2.2.2 else if o.1=4 then zU (o.2.2.2.getD 0 0) x else
 if o.1=5 then ((qG eI x (mE (xP o) x).1).1,(mE (xP o) x).2 || (qG eI x (mE (xP o) x).1).2) else (uN x,false)
def lW (o:dE) (x d:List Int):List Int × (List Int × Bool):=if ¬ (opB o=true∧gC x o.2.1=true∧gC d o.2.2.1=true) then ([],[],false) else
 if o.1=1 then ((jV (xP o) d).1,(xW d x).1.2.2,(jV (xP o) d).2 || (xW d x).2) else
 if o.1=2 then (d,d,false) else
 if o.1=4 then ((zU (o.2.2.2.getD 0 0) d).1,[(lK d x).1],(zU (o.2.2.2.getD 0 0) d).2 || (lK d x).2) else
 if o.1=5 then ((qG eI d (jV (xP o) d).1).1,(xW d x).1.2.2,(jV (xP o) d).2 || (qG eI d (jV (xP o) d).1).2 || (xW d x).2) else
 (uP x d,[],false)
theorem sT {m:vU} (h:aH4 m=true):∃ (R C:Nat) (data:List Int),m=((R:Int),(C:Int),data)∧1≤R∧R≤6∧1≤C∧C≤6∧data.length=R * C∧R * C≤36∧data.all iI=true:=by
 obtain ⟨a,b,data⟩:=m
 obtain ⟨⟨h1,h2,h3,h4,h5⟩,h6⟩:=(yD _).1 h
 dsimp only at h1 h2 h3 h4 h5 h6
 refine ⟨a.toNat,b.toNat,data,?_,by omega,by omega,by omega,by omega,?_,Nat.le_trans (Nat.mul_le_mul (show a.toNat≤6 by omega) (show b.toNat≤6 by omega)) (by decide),h6⟩
 ·rw[Int.toNat_of_nonneg (by omega),Int.toNat_of_nonneg (by omega)]
 ·have:((a.toNat * b.toNat:Nat):Int)=a * b:=by rw[Int.natCast_mul,Int.toNat_of_nonneg (by omega),Int.toNat_of_nonneg (by omega)]
  omega
theorem aNY {R C k:Nat} (h:k<R):k * C+C≤R * C:=by
 have:=Nat.mul_le_mul_right C (show k+1≤R from h)
 rwa [Nat.succ_mul] at this
theorem aPU (R C k p:Nat) (data:List Int) (e:p=k * C):aI2 ((R:Int),(C:Int),data) k=(data.take (p+C)).drop p:=by
 unfold aI2;simp only[Int.toNat_natCast,Nat.succ_mul,← e]
theorem sQ {f:Nat→List Int} {L:Nat} (h:∀ i,(f i).length=L):(n:Nat)→(qP f n).length=n * L
 | 0=>by simp[qP]
 | n+1=>by rw[qP,List.length_append,sQ h n,h,Nat.succ_mul]
theorem aIS {f:Nat→List Int} {L:Nat} (h:∀ i,(f i).length=L) {k:Nat}:(n:Nat)→k<n→((qP f n).take (k * L+L)).drop (k * L)=f k
 | 0,hk=>by omega
 | n+1,hk=>by
  have hl:=sQ h n
  rcases Nat.lt_or_eq_of_le (Nat.le_of_lt_succ hk) with h'|rfl
  ·have h1:=aNY (C:=L) h'
   rw[qP,List.take_append_of_le_length (by omega)]
   exact aIS h n h'
  ·rw[qP,List.take_of_length_le (by rw[List.length_append,hl,h];exact Nat.le_refl _),List.drop_append_of_le_length (by omega),List.drop_of_length_le (by omega),List.nil_append]
theorem aLL (m:vU) (k:Nat):(yG m k).length=m.1.toNat:=iD _ _
theorem aQO {f:Nat→List Int} {x:Int}:(n:Nat)→x∈qP f n→∃ k,k<n∧x∈f k
 | 0,h=>by simp[qP] at h
 | n+1,h=>by
  rw[qP,List.mem_append] at h
  rcases h with h|h
  ·obtain ⟨k,h1,h2⟩:=aQO n h;exact ⟨k,by omega,h2⟩
  ·exact ⟨n,by omega,h⟩
theorem aYL {m:vU} (h:aH4 m=true):aH4 (nU m)=true∧∀ k,k<m.2.1.toNat→aI2 (nU m) k=yG m k:=by
 obtain ⟨R,C,data,rfl,h1,h2,h3,h4,h5,h6,h7⟩:=sT h
 have e:nU ((R:Int),(C:Int),data)=((C:Int),(R:Int),qP (yG ((R:Int),(C:Int),data)) C):=if_pos h
 have hl:∀ i,(yG ((R:Int),(C:Int),data) i).length=R:=fun i=>aLL _ _
 constructor
 ·rw[e,yD]
  refine ⟨⟨?_,?_,?_,?_,?_⟩,?_⟩
  ·dsimp only;omega
  ·dsimp only;omega
  ·dsimp only;omega
  ·dsimp only;omega
  ·dsimp only;rw[sQ hl,Int.natCast_mul]
  ·rw[List.all_eq_true]
   intro x hx
   obtain ⟨k,hk,hx⟩:=aQO _ hx
   unfold yG mp at hx
   rw[List.mem_map] at hx
   obtain ⟨i,hi,rfl⟩:=hx
   rw[List.mem_range] at hi
   dsimp only [Int.toNat_natCast] at hi ⊢
   have hb:=aNY (C:=C) hi
   rw[bD (show i * C+k<data.length by omega)]
   exact (List.all_eq_true.1 h7) _ (List.getElem_mem _)
 ·intro k hk
  rw[e,aPU C R k (k * R) _ rfl]
  exact aIS hl C hk
theorem bFM {m:vU} {d:List Int} (h:aH4 m=true) (h2:gC d m.1=true):mE (nU m) d=jV m d:=by
 obtain ⟨t1,t2⟩:=aYL h
 have e1:(nU m).2.1=m.1:=by unfold nU;rw[if_pos h]
 have e2:(nU m).1=m.2.1:=by unfold nU;rw[if_pos h]
 unfold mE jV
 rw[if_pos ⟨t1,by rw[e1];exact h2⟩,if_pos ⟨h,h2⟩,e2]
 exact Prod.ext (bF5 fun i hi=>by rw[t2 i hi]) (bER fun i hi=>by rw[t2 i hi])
theorem aVL {o:dE} (h:opB o=true) (h4:o.1=4):o.2.2.2.length=1:=by
 have:=((gG o).1 h).1
 have e:=aJ1 (o:=o) (by omega)
 omega
def gZ:Con:=⟨119,(.bJ2 tI aI),.bool,[.val ⟨true,(.bJ2 tI aI),[]⟩],[⟨false,.bool,[0]⟩],false,none,
 ((fun _=>True):(Int × dW)→Prop),
 ((fun x=>aH4 x):(Int × dW)→(Bool))⟩
def aDW:T :=
 .bJ3 (.cmp .lss .i64) (.bJ4 tI tI (.p1 tI aI (.Z 0)) (.ci .i64 1)) <|
 .ite (.Z 1) (
  .ret (.cb false)) (
  .bJ3 (.cmp .gtr .i64) (.bJ4 tI tI (.p1 tI aI (.Z 0)) (.ci .i64 6)) <|
  .ite (.Z 2) (
   .ret (.cb false)) (
   .bJ3 (.cmp .lss .i64) (.bJ4 tI tI (aJ (.bJ2 tI aI) 1 (.Z 0)) (.ci .i64 1)) <|
   .ite (.Z 3) (
    .ret (.cb false)) (
    .bJ3 (.cmp .gtr .i64) (.bJ4 tI tI (aJ (.bJ2 tI aI) 1 (.Z 0)) (.ci .i64 6)) <|
    .ite (.Z 4) (
     .ret (.cb false)) (
     .bJ3 (.bJ6 3 tI) (aR (.bJ2 tI aI) 2 (.Z 0)) <|
     .bJ3 (.ar .mul .i64) (.bJ4 tI tI (.p1 tI aI (.Z 0)) (aJ (.bJ2 tI aI) 1 (.Z 0))) <|
     .bJ3 (.cmp .eql .i64) (.bJ4 tI tI (.Z 5) (.Z 6)) <|
     .ite (.Z 7) (
      .call 0 (aR (.bJ2 tI aI) 2 (.Z 0)) <|
      .ret (.Z 8)) (
      .ret (.cb false))))))
theorem aYP:bV Tryz.prog [fS] gZ false 3000 ⟨[],[]⟩ = .ok aDW:=by kernel_rfl
theorem aZ3 (x:Int × dW) (hx:okD (.bJ2 tI aI) x) (hp:(fun _=>True) x):aDW.wp [fS] [⟨(.bJ2 tI aI),x⟩] [] (fun v=>v.as .bool=(fun x=>aH4 x) x):=by
 delta aDW fS;refine eE ?_
 (refine eL ?_;try with_reducible exact True.intro)
 (repeat' first|intro _|(with_reducible apply And.intro))
 all_goals first|(first|(refine (Bool.eq_false_iff.2 ?_).symm;rw[ne_eq,yD];intro hh;omega)|(refine (yD.2 ?_).symm;omega))|(have:=aOS (a:=x.1) (b:=x.2.1) (by omega) (by omega) (by omega) (by omega);omega)|(rw[Bool.eq_iff_iff,yD];exact ⟨fun h=>⟨⟨by omega,by omega,by omega,by omega,by assumption⟩,h⟩,fun h=>h.2⟩)
theorem aDF:Con.Holds Tryz.prog gZ:=aV aX (aG aAP aT) aYP aZ3
def iY:Con:=⟨109,(.bJ2 (.bJ2 tI aI) aB),(.bJ2 aB .bool),[.val ⟨true,(.bJ2 tI aI),[]⟩,.val ⟨false,aB,[]⟩],[⟨false,aB,[2]⟩,⟨false,.bool,[0]⟩],false,none,
 ((fun _=>True):((Int × dW) × bH)→Prop),
 ((fun x=>mE x.1 x.2):((Int × dW) × bH)→(bH × Bool))⟩
def aAB:T:=.call 0 (.p1 (.bJ2 tI aI) aB (.Z 0)) <|
 .bJ3 .not (.Z 1) <|
 .ite (.Z 2) (
  .ret (.bJ4 aB .bool (.nl 3 tI) (.cb false))) (
  .call 1 (.bJ4 aB tI (aR (.bJ2 (.bJ2 tI aI) aB) 1 (.Z 0)) (aJ (.bJ2 tI aI) 1 (.p1 (.bJ2 tI aI) aB (.Z 0)))) <|
  .bJ3 .not (.Z 3) <|
  .ite (.Z 4) (
   .ret (.bJ4 aB .bool (.nl 3 tI) (.cb false))) (
   .loop (.bJ2 tI (.bJ2 .bool aB)) (bJ (.bJ2 tI (.bJ2 .bool aB)) [(.ci .i64 0),(.cb false),(.nl 3 tI)]) <|
    .bJ3 (.cmp .lss .i64) (.bJ4 tI tI (.p1 tI (.bJ2 .bool aB) (.Z 5)) (.p1 tI aI (.p1 (.bJ2 tI aI) aB (.Z 0)))) <|
    .ite (.Z 6) (
     .bJ3 (.ar .mul .i64) (.bJ4 tI tI (.p1 tI (.bJ2 .bool aB) (.Z 5)) (aJ (.bJ2 tI aI) 1 (.p1 (.bJ2 tI aI) aB (.Z 0)))) <|
     .bJ3 (.ar .add .i64) (.bJ4 tI tI (.p1 tI (.bJ2 .bool aB) (.Z 5)) (.ci .i64 1)) <|
     .bJ3 (.ar .mul .i64) (.bJ4 tI tI (.Z 8) (aJ (.bJ2 tI aI) 1 (.p1 (.bJ2 tI aI) aB (.Z 0)))) <|
     .bJ3 (.bJ8 3 tI) (bJ (.bJ2 aB aC) [(aR (.bJ2 tI aI) 2 (.p1 (.bJ2 tI aI) aB (.Z 0))),(.Z 7),(.Z 9)]) <|
     .call 2 (.bJ4 aB aB (.Z 10) (aR (.bJ2 (.bJ2 tI aI) aB) 1 (.Z 0))) <|
     .bJ3 (.lit 3 tI 1) (.p1 tI .bool (.Z 11)) <|
     .bJ3 (.bJ9 3 tI 8) (.bJ4 aB aB (aR (.bJ2 tI (.bJ2 .bool aB)) 2 (.Z 5)) (.Z 12)) <|
     .ite (aJ (.bJ2 tI (.bJ2 .bool aB)) 1 (.Z 5)) (
      .bJ3 (.ar .add .i64) (.bJ4 tI tI (.p1 tI (.bJ2 .bool aB) (.Z 5)) (.ci .i64 1)) <|
      .bJ5 0 (bJ (.bJ2 tI (.bJ2 .bool aB)) [(.Z 14),(.cb true),(.Z 13)])) (
      .bJ3 (.ar .add .i64) (.bJ4 tI tI (.p1 tI (.bJ2 .bool aB) (.Z 5)) (.ci .i64 1)) <|
      .bJ5 0 (bJ (.bJ2 tI (.bJ2 .bool aB)) [(.Z 14),(aR (.bJ2 tI .bool) 1 (.Z 11)),(.Z 13)]))) (
     .ret (.bJ4 aB .bool (aR (.bJ2 tI (.bJ2 .bool aB)) 2 (.Z 5)) (aJ (.bJ2 tI (.bJ2 .bool aB)) 1 (.Z 5))))))
theorem aS9:bV Tryz.prog [gZ,bZ,fU] iY false 3000 ⟨[(2984,4005,mW 21 11++[.dr 0,.tm 8 0,.tm 7 0,.on 6,.sl 2])],[]⟩ = .ok aAB:=by kernel_rfl
theorem aU2 (x:(Int × dW) × bH) (hx:okD (.bJ2 (.bJ2 tI aI) aB) x) (hp:(fun _=>True) x):aAB.wp [gZ,bZ,fU] [⟨(.bJ2 (.bJ2 tI aI) aB),x⟩] [] (fun v=>v.as (.bJ2 aB .bool)=(fun x=>mE x.1 x.2) x):=by
 obtain ⟨m,v⟩:=x
 delta aAB gZ bZ fU;refine eE ?_
 simp only[Bool.not_eq_true',Bool.not_eq_false']
 refine ⟨fun h=>?_,fun h1=>⟨fun h=>?_,fun h2=>?_⟩⟩
 ·unfold mE;rw[if_neg (by rw[h];simp)]
 ·unfold mE;rw[if_neg (by rw[h];simp)]
 rw[show mE m v=_ from if_pos ⟨h1,h2⟩]
 obtain ⟨R,C,data,rfl,g1,g2,g3,g4,g5,g6,g7⟩:=sT h1
 refine fC (fun k=>((k:Int),an k (fun r=>(lK (aI2 ((R:Int),(C:Int),data) r) v).2),mp k fun r=>(lK (aI2 ((R:Int),(C:Int),data) r) v).1)) R rfl fun I μ k hk _ go=>?_
 dsimp only
 obtain ⟨p,e0⟩:∃ p,p=k * C:=⟨_,rfl⟩
 have e1:(k:Int) * (C:Int)=(p:Int):=by rw[e0];exact (Int.natCast_mul k C).symm
 have e2:((k:Int)+1) * (C:Int)=((p+C:Nat):Int):=by rw[Int.add_mul,e1,Int.one_mul];rfl
 have e4:k<R→p+C≤data.length:=fun h=>by rw[e0,g5];exact aNY h
 simp only[e1,e2,zO,iD,← aPU R C k p data e0]
 (repeat' first|intro _|(refine go _ ?_ ?_ ?_)|(refine go _ ?_ ?_)|(with_reducible apply And.intro))
 all_goals first|omega|(unfold maxLen;omega)|(rw[mX,zB];first|exact Prod.ext rfl (Prod.ext (qU (by assumption)) rfl)|exact Prod.ext rfl (Prod.ext (zY (by assumption)) rfl))|(have e:k=R:=(by omega);subst e;rfl)
theorem aIF:Con.Holds Tryz.prog iY:=aV aX (aG aDF (aG iM (aG aAJ aT))) aS9 aU2
def kE:Con:=⟨121,(.bJ2 tI aI),(.bJ2 tI aI),[.val ⟨true,(.bJ2 tI aI),[]⟩],[⟨true,(.bJ2 tI aI),[0,0,2]⟩],false,none,
 ((fun _=>True):(Int × dW)→Prop),
 ((fun x=>nU x):(Int × dW)→(Int × dW))⟩
def rW:T:=.call 0 (.Z 0) <|
 .bJ3 .not (.Z 1) <|
 .ite (.Z 2) (
  .ret (bJ (.bJ2 tI aI) [(.ci .i64 0),(.ci .i64 0),(.nl 3 tI)])) (
  .loop aI (.bJ4 tI aB (.ci .i64 0) (.nl 3 tI)) <|
   .bJ3 (.cmp .lss .i64) (.bJ4 tI tI (.p1 tI aB (.Z 3)) (aJ (.bJ2 tI aI) 1 (.Z 0))) <|
   .ite (.Z 4) (
    .loop aI (.bJ4 tI aB (.ci .i64 0) (aR aI 1 (.Z 3))) <|
     .bJ3 (.cmp .lss .i64) (.bJ4 tI tI (.p1 tI aB (.Z 5)) (.p1 tI aI (.Z 0))) <|
     .ite (.Z 6) (
      .bJ3 (.ar .mul .i64) (.bJ4 tI tI (.p1 tI aB (.Z 5)) (aJ (.bJ2 tI aI) 1 (.Z 0))) <|
      .bJ3 (.ar .add .i64) (.bJ4 tI tI (.Z 7) (.p1 tI aB (.Z 3))) <|
      .bJ3 (.bJ7 3 tI) (.bJ4 aB tI (aR (.bJ2 tI aI) 2 (.Z 0)) (.Z 8)) <|
      .bJ3 (.lit 3 tI 1) (.Z 9) <|
      .bJ3 (.bJ9 3 tI 8) (.bJ4 aB aB (aR aI 1 (.Z 5)) (.Z 10)) <|
      .bJ3 (.ar .add .i64) (.bJ4 tI tI (.p1 tI aB (.Z 5)) (.ci .i64 1)) <|
      .bJ5 0 (.bJ4 tI aB (.Z 12) (.Z 11))) (
      .bJ3 (.ar .add .i64) (.bJ4 tI tI (.p1 tI aB (.Z 3)) (.ci .i64 1)) <|
      .bJ5 1 (.bJ4 tI aB (.Z 7) (aR aI 1 (.Z 5))))) (
    .ret (bJ (.bJ2 tI aI) [(aJ (.bJ2 tI aI) 1 (.Z 0)),(.p1 tI aI (.Z 0)),(aR aI 1 (.Z 3))])))
theorem aJW:bV Tryz.prog [gZ] kE false 3000 ⟨[(2986,2003,mW 14 10++mW 8 6++[.dr 0,.tm 4 0,.sl 6]),(2975,6005,[.tm 5 0,.sl 6])],[]⟩ = .ok rW:=by kernel_rfl
theorem aK2 (x:Int × dW) (hx:okD (.bJ2 tI aI) x) (hp:(fun _=>True) x):rW.wp [gZ] [⟨(.bJ2 tI aI),x⟩] [] (fun v=>v.as (.bJ2 tI aI)=(fun x=>nU x) x):=by
 obtain ⟨m,rfl⟩:∃ m,m=x:=⟨_,rfl⟩
 delta rW gZ;refine eE ?_
 simp only[Bool.not_eq_true',Bool.not_eq_false']
 refine ⟨fun h=>?_,fun h1=>?_⟩
 ·unfold nU;rw[if_neg (by rw[h];exact Bool.false_ne_true)];rfl
 rw[show nU m=_ from if_pos h1]
 obtain ⟨R,C,data,rfl,g1,g2,g3,g4,g5,g6,g7⟩:=sT h1
 refine fC (fun c=>((c:Int),qP (yG ((R:Int),(C:Int),data)) c)) C rfl fun I μ c hc _ go=>?_
 dsimp only
 refine eL ?_
 have hl:(qP (yG ((R:Int),(C:Int),data)) c).length=c * R:=sQ (fun i=>aLL _ _) c
 have hq:c * R≤36:=Nat.le_trans (Nat.mul_le_mul hc g2) (by omega)
 generalize hD:qP (yG ((R:Int),(C:Int),data)) c=D at *
 constructor
 ·intro hlt
  refine fC (fun r=>((r:Int),D++mp r fun i=>data.getD (i * C+c) 0)) R (by simp[aVU]) fun I2 μ2 k hk _ go2=>?_
  dsimp only
  obtain ⟨p,e0⟩:∃ p,p=k * C:=⟨_,rfl⟩
  have e1:(k:Int) * (C:Int)=(p:Int):=by rw[e0];exact (Int.natCast_mul k C).symm
  have e2:(p:Int)+(c:Int)=((p+c:Nat):Int):=rfl
  have e4:k<R→p+C≤data.length:=fun h=>by rw[e0,g5];exact aNY h
  simp only[e1,e2,zO,iD]
  (repeat' first|intro _|(refine go2 _ ?_ ?_ ?_)|(refine go2 _ ?_ ?_)|(refine go _ ?_ ?_ ?_)|(refine go _ ?_ ?_)|(with_reducible apply And.intro))
  all_goals first|omega|(unfold maxLen;omega)|(rw[mX,← List.append_assoc,← e0];rfl)|(have e:k=R:=(by omega);subst e;rw[qP,hD];rfl)
 ·intro hge
  have e:c=C:=by omega
  subst e
  rw[← hD]
theorem aJS:Con.Holds Tryz.prog kE:=aV aX (aG aDF aT) aJW aK2
def nF:Con:=⟨115,(.bJ2 (.bJ2 tI aI) aB),(.bJ2 aB .bool),[.val ⟨true,(.bJ2 tI aI),[]⟩,.val ⟨false,aB,[]⟩],[⟨false,aB,[2]⟩,⟨false,.bool,[0]⟩],false,none,
 ((fun _=>True):((Int × dW) × bH)→Prop),
 ((fun x=>jV x.1 x.2):((Int × dW) × bH)→(bH × Bool))⟩
def wN:T:=.call 0 (.p1 (.bJ2 tI aI) aB (.Z 0)) <|
 .bJ3 .not (.Z 1) <|
 .ite (.Z 2) (
  .ret (.bJ4 aB .bool (.nl 3 tI) (.cb false))) (
  .call 1 (.bJ4 aB tI (aR (.bJ2 (.bJ2 tI aI) aB) 1 (.Z 0)) (.p1 tI aI (.p1 (.bJ2 tI aI) aB (.Z 0)))) <|
  .bJ3 .not (.Z 3) <|
  .ite (.Z 4) (
   .ret (.bJ4 aB .bool (.nl 3 tI) (.cb false))) (
   .call 2 (.p1 (.bJ2 tI aI) aB (.Z 0)) <|
   .call 3 (.bJ4 (.bJ2 tI aI) aB (.Z 5) (aR (.bJ2 (.bJ2 tI aI) aB) 1 (.Z 0))) <|
   .ret (.Z 6)))
theorem aRI:bV Tryz.prog [gZ,bZ,kE,iY] nF false 3000 ⟨[],[]⟩ = .ok wN:=by kernel_rfl
theorem aQ5 (x:(Int × dW) × bH) (hx:okD (.bJ2 (.bJ2 tI aI) aB) x) (hp:(fun _=>True) x):wN.wp [gZ,bZ,kE,iY] [⟨(.bJ2 (.bJ2 tI aI) aB),x⟩] [] (fun v=>v.as (.bJ2 aB .bool)=(fun x=>jV x.1 x.2) x):=by
 obtain ⟨m,d⟩:=x
 delta wN gZ bZ kE iY;refine eE ?_
 simp only[Bool.not_eq_true',Bool.not_eq_false']
 refine ⟨fun h=>?_,fun h1=>⟨fun h=>?_,fun h2 _ _=>bFM h1 h2⟩⟩
 ·unfold jV;rw[if_neg (by rw[h];simp)]
 ·unfold jV;rw[if_neg (by rw[h];simp)]
theorem aOP:Con.Holds Tryz.prog nF:=aV aX (aG aDF (aG iM (aG aJS (aG aIF aT)))) aRI aQ5
def tB:Con:=⟨116,aQ,(.bJ2 (.bJ2 tI aI) .bool),[.val ⟨false,aB,[]⟩,.val ⟨false,aB,[]⟩],[⟨true,(.bJ2 tI aI),[0,0,2]⟩,⟨false,.bool,[0]⟩],false,none,
 ((fun _=>True):(cI)→Prop),
 ((fun x=>xW x.1 x.2):(cI)→((Int × dW) × Bool))⟩
def aDS:T:=.call 0 (.p1 aB aB (.Z 0)) <|
 .bJ3 .not (.Z 1) <|
 .ite (.Z 2) (
  .ret (.bJ4 (.bJ2 tI aI) .bool (bJ (.bJ2 tI aI) [(.ci .i64 0),(.ci .i64 0),(.nl 3 tI)]) (.cb false))) (
  .call 0 (aR aQ 1 (.Z 0)) <|
  .bJ3 .not (.Z 3) <|
  .ite (.Z 4) (
   .ret (.bJ4 (.bJ2 tI aI) .bool (bJ (.bJ2 tI aI) [(.ci .i64 0),(.ci .i64 0),(.nl 3 tI)]) (.cb false))) (
   .bJ3 (.bJ6 3 tI) (.p1 aB aB (.Z 0)) <|
   .bJ3 (.bJ6 3 tI) (aR aQ 1 (.Z 0)) <|
   .bJ3 (.bJ6 3 tI) (.p1 aB aB (.Z 0)) <|
   .loop (.bJ2 tI (.bJ2 .bool aB)) (bJ (.bJ2 tI (.bJ2 .bool aB)) [(.ci .i64 0),(.cb false),(.nl 3 tI)]) <|
    .bJ3 (.cmp .lss .i64) (.bJ4 tI tI (.p1 tI (.bJ2 .bool aB) (.Z 8)) (.Z 7)) <|
    .ite (.Z 9) (
     .bJ3 (.bJ7 3 tI) (.bJ4 aB tI (.p1 aB aB (.Z 0)) (.p1 tI (.bJ2 .bool aB) (.Z 8))) <|
     .bJ3 (.bJ6 3 tI) (aR aQ 1 (.Z 0)) <|
     .loop (.bJ2 tI (.bJ2 .bool aB)) (.bJ4 tI (.bJ2 .bool aB) (.ci .i64 0) (aR (.bJ2 tI (.bJ2 .bool aB)) 1 (.Z 8))) <|
      .bJ3 (.cmp .lss .i64) (.bJ4 tI tI (.p1 tI (.bJ2 .bool aB) (.Z 12)) (.Z 11)) <|
      .ite (.Z 13) (
       .bJ3 (.bJ7 3 tI) (.bJ4 aB tI (aR aQ 1 (.Z 0)) (.p1 tI (.bJ2 .bool aB) (.Z 12))) <|
       .call 1 (.bJ4 tI tI (.Z 10) (.Z 14)) <|
       .bJ3 (.lit 3 tI 1) (.p1 tI .bool (.Z 15)) <|
       .bJ3 (.bJ9 3 tI 8) (.bJ4 aB aB (aR (.bJ2 tI (.bJ2 .bool aB)) 2 (.Z 12)) (.Z 16)) <|
       .ite (aJ (.bJ2 tI (.bJ2 .bool aB)) 1 (.Z 12)) (
        .bJ3 (.ar .add .i64) (.bJ4 tI tI (.p1 tI (.bJ2 .bool aB) (.Z 12)) (.ci .i64 1)) <|
        .bJ5 0 (bJ (.bJ2 tI (.bJ2 .bool aB)) [(.Z 18),(.cb true),(.Z 17)])) (
        .bJ3 (.ar .add .i64) (.bJ4 tI tI (.p1 tI (.bJ2 .bool aB) (.Z 12)) (.ci .i64 1)) <|
        .bJ5 0 (bJ (.bJ2 tI (.bJ2 .bool aB)) [(.Z 18),(aR (.bJ2 tI .bool) 1 (.Z 15)),(.Z 17)]))) (
       .bJ3 (.ar .add .i64) (.bJ4 tI tI (.p1 tI (.bJ2 .bool aB) (.Z 8)) (.ci .i64 1)) <|
       .bJ5 1 (.bJ4 tI (.bJ2 .bool aB) (.Z 14) (aR (.bJ2 tI (.bJ2 .bool aB)) 1 (.Z 12))))) (
     .ret (.bJ4 (.bJ2 tI aI) .bool (bJ (.bJ2 tI aI) [(.Z 5),(.Z 6),(aR (.bJ2 tI (.bJ2 .bool aB)) 2 (.Z 8))]) (aJ (.bJ2 tI (.bJ2 .bool aB)) 1 (.Z 8))))))
theorem aX0:bV Tryz.prog [cR,fX] tB false 3000 ⟨[(2984,4008,mW 27 23++mW 21 14++[.dr 0,.tm 30 0,.tm 7 0,.sl 5]),(2971,12012,[.tm 36 0,.tm 7 0,.sl 5])],[]⟩ = .ok aDS:=by kernel_rfl
theorem aX1 (x:cI) (hx:okD aQ x) (hp:(fun _=>True) x):aDS.wp [cR,fX] [⟨aQ,x⟩] [] (fun v=>v.as (.bJ2 (.bJ2 tI aI) .bool)=(fun x=>xW x.1 x.2) x):=by
 obtain ⟨d,v⟩:=x
 delta aDS cR fX;refine eE ?_
 simp only[Bool.not_eq_true',Bool.not_eq_false']
 refine ⟨fun h=>?_,fun h1=>⟨fun h=>?_,fun h2 _ _ _=>?_⟩⟩
 ·unfold xW;rw[if_neg (by rw[h];simp)];rfl
 ·unfold xW;rw[if_neg (by rw[h];simp)];rfl
 rw[show xW d v=_ from if_pos ⟨h1,h2⟩]
 have hd:=(dB d).1 h1
 have hv:=(dB v).1 h2
 refine fC (fun i=>((i:Int),an i (aU0 d v),qP (aEJ d v) i)) d.length rfl fun I μ i hi _ go=>?_
 dsimp only
 refine eL ?_
 have hl:(qP (aEJ d v) i).length=i * v.length:=sQ (fun i=>iD _ _) i
 have hq:i * v.length≤36:=Nat.le_trans (Nat.mul_le_mul hi (show v.length≤6 by omega)) (by omega)
 generalize hD:qP (aEJ d v) i=D at *
 generalize hA:an i (aU0 d v)=A at *
 constructor
 ·intro hlt
  refine ⟨by omega,fun _ _=>?_⟩
  refine fC (fun j=>((j:Int),A || an j (fun j=>(iE (d.getD i 0) (v.getD j 0)).2),D++mp j fun j=>(iE (d.getD i 0) (v.getD j 0)).1)) v.length (by simp[aVU,bFX]) fun I2 μ2 j hj _ go2=>?_
  dsimp only
  simp only[zO,iD]
  have ea:(A || an (j+1) (fun j=>(iE (d.getD i 0) (v.getD j 0)).2))=((A || an j (fun j=>(iE (d.getD i 0) (v.getD j 0)).2)) || (iE (d.getD i 0) (v.getD j 0)).2):=by rw[zB,Bool.or_assoc]
  (repeat' first|intro _|(refine go2 _ ?_ ?_ ?_)|(refine go2 _ ?_ ?_)|(refine go _ ?_ ?_ ?_)|(refine go _ ?_ ?_)|(with_reducible apply And.intro))
  all_goals first|omega|(unfold maxLen;omega)|(rw[mX,← List.append_assoc,ea];first|exact Prod.ext rfl (Prod.ext (qU (by assumption)) rfl)|exact Prod.ext rfl (Prod.ext (zY (by assumption)) rfl))|(have e:j=v.length:=(by omega);subst e;rw[qP,hD,zB,hA];rfl)
 ·intro hge
  have e:i=d.length:=by omega
  subst e
  rw[← hD,← hA]
theorem aX7:Con.Holds Tryz.prog tB:=aV aX (aG mF (aG aBB aT)) aX0 aX1
def lB:Con:=⟨110,bN,(.bJ2 tI aI),[.val ⟨true,bN,[]⟩],[⟨true,(.bJ2 tI aI),[0,0,0]⟩],true,none,
 ((fun _=>True):(dE)→Prop),
 ((fun x=>xP x):(dE)→(Int × dW))⟩
def aDR:T:=.ret (bJ (.bJ2 tI aI) [(aJ bN 2 (.Z 0)),(aJ bN 1 (.Z 0)),(aR bN 3 (.Z 0))])
theorem aY5:bV Tryz.prog [] lB false 3000 ⟨[],[]⟩ = .ok aDR:=by kernel_rfl
theorem aZ8 (x:dE) (hx:okD bN x) (hp:(fun _=>True) x):aDR.wp [] [⟨bN,x⟩] [] (fun v=>v.as (.bJ2 tI aI)=(fun x=>xP x) x):=by
 delta aDR;refine eE ?_;try with_reducible exact True.intro
 rfl
theorem aKT:Con.Holds Tryz.prog lB:=aV aX aT aY5 aZ8
def kH:Con:=⟨99,(.bJ2 bN aB),(.bJ2 aB .bool),[.val ⟨true,bN,[]⟩,.val ⟨false,aB,[]⟩],[⟨false,aB,[2]⟩,⟨false,.bool,[0]⟩],false,none,
 ((fun _=>True):(dE × bH)→Prop),
 ((fun x=>zW x.1 x.2):(dE × bH)→(bH × Bool))⟩
def rR:T:=.call 0 (.p1 bN aB (.Z 0)) <|
 .bJ3 .not (.Z 1) <|
 .ite (.Z 2) (
  .ret (.bJ4 aB .bool (.nl 3 tI) (.cb false))) (
  .call 1 (.bJ4 aB tI (aR (.bJ2 bN aB) 1 (.Z 0)) (aJ bN 1 (.p1 bN aB (.Z 0)))) <|
  .bJ3 .not (.Z 3) <|
  .ite (.Z 4) (
   .ret (.bJ4 aB .bool (.nl 3 tI) (.cb false))) (
   .bJ3 (.cmp .eql .i64) (.bJ4 tI tI (.p1 tI (.bJ2 tI aI) (.p1 bN aB (.Z 0))) (.ci .i64 1)) <|
   .ite (.Z 5) (
    .call 2 (.p1 bN aB (.Z 0)) <|
    .call 3 (.bJ4 (.bJ2 tI aI) aB (.Z 6) (aR (.bJ2 bN aB) 1 (.Z 0))) <|
    .ret (.Z 7)) (
    .bJ3 (.cmp .eql .i64) (.bJ4 tI tI (.p1 tI (.bJ2 tI aI) (.p1 bN aB (.Z 0))) (.ci .i64 2)) <|
    .ite (.Z 6) (
     .call 4 (.bJ4 aB aB (aR (.bJ2 bN aB) 1 (.Z 0)) (aR bN 3 (.p1 bN aB (.Z 0)))) <|
     .ret (.Z 7)) (
     .bJ3 (.cmp .eql .i64) (.bJ4 tI tI (.p1 tI (.bJ2 tI aI) (.p1 bN aB (.Z 0))) (.ci .i64 4)) <|
     .ite (.Z 7) (
      .bJ3 (.bJ7 3 tI) (.bJ4 aB tI (aR bN 3 (.p1 bN aB (.Z 0))) (.ci .i64 0)) <|
      .call 5 (.bJ4 tI aB (.Z 8) (aR (.bJ2 bN aB) 1 (.Z 0))) <|
      .ret (.Z 9)) (
      .bJ3 (.cmp .eql .i64) (.bJ4 tI tI (.p1 tI (.bJ2 tI aI) (.p1 bN aB (.Z 0))) (.ci .i64 5)) <|
      .ite (.Z 8) (
       .call 2 (.p1 bN aB (.Z 0)) <|
       .call 3 (.bJ4 (.bJ2 tI aI) aB (.Z 9) (aR (.bJ2 bN aB) 1 (.Z 0))) <|
       .call 4 (.bJ4 aB aB (aR (.bJ2 bN aB) 1 (.Z 0)) (.p1 aB .bool (.Z 10))) <|
       .ite (aR (.bJ2 aB .bool) 1 (.Z 10)) (
        .ret (.bJ4 aB .bool (.p1 aB .bool (.Z 11)) (.cb true))) (
        .ret (.Z 11))) (
       .call 6 (aR (.bJ2 bN aB) 1 (.Z 0)) <|
       .ret (.bJ4 aB .bool (.Z 9) (.cb false))))))))
theorem aKC:bV Tryz.prog [jJ,bZ,lB,iY,jA,gF,nJ] kH false 3000 ⟨[],[]⟩ = .ok rR:=by kernel_rfl
theorem aJY (x:dE × bH) (hx:okD (.bJ2 bN aB) x) (hp:(fun _=>True) x):rR.wp [jJ,bZ,lB,iY,jA,gF,nJ] [⟨(.bJ2 bN aB),x⟩] [] (fun v=>v.as (.bJ2 aB .bool)=(fun x=>zW x.1 x.2) x):=by
 obtain ⟨⟨kd,i,ou,P⟩,v⟩:=x
 delta rR jJ bZ lB iY jA gF nJ;refine eE ?_
 simp only[Bool.not_eq_true',Bool.not_eq_false']
 refine ⟨fun h=>?_,fun h1=>⟨fun h=>?_,fun h2=>?_⟩⟩
 ·unfold zW;rw[if_pos (by rw[h];simp)]
 ·unfold zW;rw[if_pos (by rw[h];simp)]
 have h4:=aVL h1
 have hk:=((gG _).1 h1).1
 dsimp only at h4 hk
 (refine eL ?_;try with_reducible exact True.intro)
 (repeat' first|intro _|(with_reducible apply And.intro))
 all_goals first|omega|(obtain rfl:kd=3:=(by omega);simp[zW,h1,h2];done)|(simp_all[zW];done)
theorem aK0:Con.Holds Tryz.prog kH:=aV aX (aG aHS (aG iM (aG aKT (aG aIF (aG aIZ (aG aCU (aG aQD aT))))))) aKC aJY
def jI:Con:=⟨105,(.bJ2 bN aQ),(.bJ2 aB (.bJ2 aB .bool)),[.val ⟨true,bN,[]⟩,.val ⟨false,aB,[]⟩,.val ⟨false,aB,[]⟩],[⟨false,aB,[2]⟩,⟨false,aB,[2]⟩,⟨false,.bool,[0]⟩],false,none,
 ((fun _=>True):(dE × cI)→Prop),
 ((fun x=>lW x.1 x.2.1 x.2.2):(dE × cI)→(bH × (bH × Bool)))⟩
def pL:T:=.call 0 (.p1 bN aQ (.Z 0)) <|
 .bJ3 .not (.Z 1) <|
 .ite (.Z 2) (
  .ret (bJ (.bJ2 aB (.bJ2 aB .bool)) [(.nl 3 tI),(.nl 3 tI),(.cb false)])) (
  .call 1 (.bJ4 aB tI (aJ (.bJ2 bN aQ) 1 (.Z 0)) (aJ bN 1 (.p1 bN aQ (.Z 0)))) <|
  .bJ3 .not (.Z 3) <|
  .ite (.Z 4) (
   .ret (bJ (.bJ2 aB (.bJ2 aB .bool)) [(.nl 3 tI),(.nl 3 tI),(.cb false)])) (
   .call 1 (.bJ4 aB tI (aR (.bJ2 bN aQ) 2 (.Z 0)) (aJ bN 2 (.p1 bN aQ (.Z 0)))) <|
   .bJ3 .not (.Z 5) <|
   .ite (.Z 6) (
    .ret (bJ (.bJ2 aB (.bJ2 aB .bool)) [(.nl 3 tI),(.nl 3 tI),(.cb false)])) (
    .bJ3 (.cmp .eql .i64) (.bJ4 tI tI (.p1 tI (.bJ2 tI aI) (.p1 bN aQ (.Z 0))) (.ci .i64 1)) <|
    .ite (.Z 7) (
     .call 2 (.p1 bN aQ (.Z 0)) <|
     .call 3 (.bJ4 (.bJ2 tI aI) aB (.Z 8) (aR (.bJ2 bN aQ) 2 (.Z 0))) <|
     .call 4 (.bJ4 aB aB (aR (.bJ2 bN aQ) 2 (.Z 0)) (aJ (.bJ2 bN aQ) 1 (.Z 0))) <|
     .ite (aR (.bJ2 aB .bool) 1 (.Z 9)) (
      .ret (bJ (.bJ2 aB (.bJ2 aB .bool)) [(.p1 aB .bool (.Z 9)),(aR (.bJ2 tI aI) 2 (.p1 (.bJ2 tI aI) .bool (.Z 10))),(.cb true)])) (
      .ret (bJ (.bJ2 aB (.bJ2 aB .bool)) [(.p1 aB .bool (.Z 9)),(aR (.bJ2 tI aI) 2 (.p1 (.bJ2 tI aI) .bool (.Z 10))),(aR (.bJ2 (.bJ2 tI aI) .bool) 1 (.Z 10))]))) (
     .bJ3 (.cmp .eql .i64) (.bJ4 tI tI (.p1 tI (.bJ2 tI aI) (.p1 bN aQ (.Z 0))) (.ci .i64 2)) <|
     .ite (.Z 8) (
      .call 5 (aR (.bJ2 bN aQ) 2 (.Z 0)) <|
      .call 5 (aR (.bJ2 bN aQ) 2 (.Z 0)) <|
      .ret (bJ (.bJ2 aB (.bJ2 aB .bool)) [(.Z 9),(.Z 10),(.cb false)])) (
      .bJ3 (.cmp .eql .i64) (.bJ4 tI tI (.p1 tI (.bJ2 tI aI) (.p1 bN aQ (.Z 0))) (.ci .i64 4)) <|
      .ite (.Z 9) (
       .bJ3 (.bJ7 3 tI) (.bJ4 aB tI (aR bN 3 (.p1 bN aQ (.Z 0))) (.ci .i64 0)) <|
       .call 6 (.bJ4 tI aB (.Z 10) (aR (.bJ2 bN aQ) 2 (.Z 0))) <|
       .call 7 (.bJ4 aB aB (aR (.bJ2 bN aQ) 2 (.Z 0)) (aJ (.bJ2 bN aQ) 1 (.Z 0))) <|
       .bJ3 (.lit 3 tI 1) (.p1 tI .bool (.Z 12)) <|
       .ite (aR (.bJ2 aB .bool) 1 (.Z 11)) (
        .ret (bJ (.bJ2 aB (.bJ2 aB .bool)) [(.p1 aB .bool (.Z 11)),(.Z 13),(.cb true)])) (
        .ret (bJ (.bJ2 aB (.bJ2 aB .bool)) [(.p1 aB .bool (.Z 11)),(.Z 13),(aR (.bJ2 tI .bool) 1 (.Z 12))]))) (
       .bJ3 (.cmp .eql .i64) (.bJ4 tI tI (.p1 tI (.bJ2 tI aI) (.p1 bN aQ (.Z 0))) (.ci .i64 5)) <|
       .ite (.Z 10) (
        .call 2 (.p1 bN aQ (.Z 0)) <|
        .call 3 (.bJ4 (.bJ2 tI aI) aB (.Z 11) (aR (.bJ2 bN aQ) 2 (.Z 0))) <|
        .call 8 (.bJ4 aB aB (aR (.bJ2 bN aQ) 2 (.Z 0)) (.p1 aB .bool (.Z 12))) <|
        .call 4 (.bJ4 aB aB (aR (.bJ2 bN aQ) 2 (.Z 0)) (aJ (.bJ2 bN aQ) 1 (.Z 0))) <|
        .ite (aR (.bJ2 aB .bool) 1 (.Z 12)) (
         .ret (bJ (.bJ2 aB (.bJ2 aB .bool)) [(.p1 aB .bool (.Z 13)),(aR (.bJ2 tI aI) 2 (.p1 (.bJ2 tI aI) .bool (.Z 14))),(.cb true)])) (
         .ite (aR (.bJ2 aB .bool) 1 (.Z 13)) (
          .ret (bJ (.bJ2 aB (.bJ2 aB .bool)) [(.p1 aB .bool (.Z 13)),(aR (.bJ2 tI aI) 2 (.p1 (.bJ2 tI aI) .bool (.Z 14))),(.cb true)])) (
          .ret (bJ (.bJ2 aB (.bJ2 aB .bool)) [(.p1 aB .bool (.Z 13)),(aR (.bJ2 tI aI) 2 (.p1 (.bJ2 tI aI) .bool (.Z 14))),(aR (.bJ2 (.bJ2 tI aI) .bool) 1 (.Z 14))])))) (
        .call 9 (aR (.bJ2 bN aQ) 1 (.Z 0)) <|
        .ret (bJ (.bJ2 aB (.bJ2 aB .bool)) [(.Z 11),(.nl 3 tI),(.cb false)]))))))))
theorem aGU:bV Tryz.prog [jJ,bZ,lB,nF,tB,bM,gF,fU,jA,nS] jI false 3000 ⟨[],[]⟩ = .ok pL:=by kernel_rfl
theorem aH5 (x:dE × cI) (hx:okD (.bJ2 bN aQ) x) (hp:(fun _=>True) x):pL.wp [jJ,bZ,lB,nF,tB,bM,gF,fU,jA,nS] [⟨(.bJ2 bN aQ),x⟩] [] (fun v=>v.as (.bJ2 aB (.bJ2 aB .bool))=(fun x=>lW x.1 x.2.1 x.2.2) x):=by
 obtain ⟨⟨kd,i,ou,P⟩,v,d⟩:=x
 delta pL jJ bZ lB nF tB bM gF fU jA nS;refine eE ?_
 simp only[Bool.not_eq_true',Bool.not_eq_false']
 refine ⟨fun h=>?_,fun h1=>⟨fun h=>?_,fun h2=>⟨fun h=>?_,fun h3=>?_⟩⟩⟩
 ·unfold lW;rw[if_pos (by rw[h];simp)]
 ·unfold lW;rw[if_pos (by rw[h];simp)]
 ·unfold lW;rw[if_pos (by rw[h];simp)]
 have h4:=aVL h1
 have hk:=((gG _).1 h1).1
 have hd:=(dB _).1 ((tO _ _).1 h3).1
 dsimp only at h4 hk
 (refine eL ?_;try with_reducible exact True.intro)
 (repeat' first|intro _|(with_reducible apply And.intro))
 all_goals first|omega|(obtain rfl:kd=3:=(by omega);simp[lW,h1,h2,h3];done)|(simp_all[lW];done)
theorem aJ5:Con.Holds Tryz.prog jI:=aV aX (aG aHS (aG iM (aG aKT (aG aOP (aG aX7 (aG fM (aG aCU (aG aAJ (aG aIZ (aG aOC aT)))))))))) aGU aH5
end
end Go.Proofs.YtpleleanibgniaaGreat
