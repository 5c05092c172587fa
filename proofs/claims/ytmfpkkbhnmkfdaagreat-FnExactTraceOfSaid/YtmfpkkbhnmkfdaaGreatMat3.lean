/- Mat3: trees, and what they say. -/
import Derived.Test.YtmfpkkbhnmkfdaaGreatLin2
namespace Go.Proofs.YtmfpkkbhnmkfdaaGreat
open Go.ChangeShapes Go.WideShapes Go.ChangeAt Go.RowKit Go.Deep
set_option linter.unusedVariables false
set_option linter.unusedSimpArgs false
abbrev vN:=Int × (Int × List Int)
def tS (m:vN):Bool:=decide (1≤m.1∧m.1≤6∧1≤m.2.1∧m.2.1≤6∧(m.2.2.length:Int) = m.1 * m.2.1) && m.2.2.all mF
theorem kQ (m:vN):tS m = true↔(1≤m.1∧m.1≤6∧1≤m.2.1∧m.2.1≤6∧(m.2.2.length:Int) = m.1 * m.2.1)∧m.2.2.all mF = true:=by unfold tS;simp only [Bool.and_eq_true,decide_eq_true_eq]
def wO (m:vN) (i:Nat):List Int:=(m.2.2.take ((i + 1) * m.2.1.toNat)).drop (i * m.2.1.toNat)
def qC (m:vN) (k:Nat):List Int:=mp m.1.toNat fun i=>m.2.2.getD (i * m.2.1.toNat + k) 0
def iW (m:vN) (x:List Int):List Int × Bool:=if tS m = true∧eX x m.2.1 = true then (mp m.1.toNat fun r=>(fD (wO m r) x).1,an m.1.toNat fun r=>(fD (wO m r) x).2) else ([],false)
def fU (m:vN) (d:List Int):List Int × Bool:=if tS m = true∧eX d m.1 = true then (mp m.2.1.toNat fun k=>(fD (qC m k) d).1,an m.2.1.toNat fun k=>(fD (qC m k) d).2) else ([],false)
def bE4:vN:=(0,0,[])
def nN (f:Nat→List Int):Nat→List Int
 | 0=>[]
 | n + 1=>nN f n ++ f n
def nY (m:vN):vN:=if tS m = true then (m.2.1,m.1,nN (qC m) m.2.1.toNat) else bE4
def uZ (d x:List Int) (i:Nat):List Int:=mp x.length fun j=>(eL (d.getD i 0) (x.getD j 0)).1
def aHG (d x:List Int) (i:Nat):Bool:=an x.length fun j=>(eL (d.getD i 0) (x.getD j 0)).2
def oH (d x:List Int):vN × Bool:=if iA d = true∧iA x = true then (((d.length:Int),(x.length:Int),nN (uZ d x) d.length),an d.length (aHG d x)) else (bE4,false)
def sS (o:iC):vN:=(o.2.2.1,o.2.1,o.2.2.2)
def nE (o:iC) (x:List Int):List Int × Bool:=if ¬ (opB o = true∧eX x o.2.1 = true) then ([],false) else
 if o.1 = 1 then iW (sS o) x else if o.1 = 2 then jO dH x o.2.2.2 else if o.1 = 4 then oZ (o.2.2.2.getD 0 0) x else
 if o.1 = 5 then ((jO dH x (iW (sS o) x).1).1,(iW (sS o) x).2 || (jO dH x (iW (sS o) x).1).2) else (mI x,false)
def gO (o:iC) (x d:List Int):List Int × (List Int × Bool):=if ¬ (opB o = true∧eX x o.2.1 = true∧eX d o.2.2.1 = true) then ([],[],false) else
 if o.1 = 1 then ((fU (sS o) d).1,(oH d x).1.2.2,(fU (sS o) d).2 || (oH d x).2) else
 if o.1 = 2 then (d,d,false) else
 if o.1 = 4 then ((oZ (o.2.2.2.getD 0 0) d).1,[(fD d x).1],(oZ (o.2.2.2.getD 0 0) d).2 || (fD d x).2) else
 if o.1 = 5 then ((jO dH d (fU (sS o) d).1).1,(oH d x).1.2.2,(fU (sS o) d).2 || (jO dH d (fU (sS o) d).1).2 || (oH d x).2) else
 (lZ x d,[],false)
theorem kL {m:vN} (h:tS m = true):∃ (R C:Nat) (data:List Int),m = ((R:Int),(C:Int),data)∧1≤R∧R≤6∧1≤C∧C≤6∧data.length = R * C∧R * C≤36∧data.all mF = true:=by
 obtain ⟨a,b,data⟩:=m
 obtain ⟨⟨h1,h2,h3,h4,h5⟩,h6⟩:=(kQ _).1 h
 dsimp only at h1 h2 h3 h4 h5 h6
 refine ⟨a.toNat,b.toNat,data,?_,by omega,by omega,by omega,by omega,?_,Nat.le_trans (Nat.mul_le_mul (show a.toNat≤6 by omega) (show b.toNat≤6 by omega)) (by decide),h6⟩
 ·rw [Int.toNat_of_nonneg (by omega),Int.toNat_of_nonneg (by omega)]
 ·have:((a.toNat * b.toNat:Nat):Int) = a * b:=by rw [Int.natCast_mul,Int.toNat_of_nonneg (by omega),Int.toNat_of_nonneg (by omega)]
  omega
theorem aD7 {R C k:Nat} (h:k < R):k * C + C≤R * C:=by
 have:=Nat.mul_le_mul_right C (show k + 1≤R from h)
 rwa [Nat.succ_mul] at this
theorem aGB (R C k p:Nat) (data:List Int) (e:p = k * C):wO ((R:Int),(C:Int),data) k = (data.take (p + C)).drop p:=by
 unfold wO;simp only [Int.toNat_natCast,Nat.succ_mul,← e]
theorem pA {f:Nat→List Int} {L:Nat} (h:∀ i,(f i).length = L):(n:Nat)→(nN f n).length = n * L
 | 0=>by simp [nN]
 | n + 1=>by rw [nN,List.length_append,pA h n,h,Nat.succ_mul]
theorem aGT {f:Nat→List Int} {L:Nat} (h:∀ i,(f i).length = L) {k:Nat}:(n:Nat)→k < n→((nN f n).take (k * L + L)).drop (k * L) = f k
 | 0,hk=>by omega
 | n + 1,hk=>by
  have hl:=pA h n
  rcases Nat.lt_or_eq_of_le (Nat.le_of_lt_succ hk) with h' | rfl
  ·have h1:=aD7 (C:=L) h'
   rw [nN,List.take_append_of_le_length (by omega)]
   exact aGT h n h'
  ·rw [nN,List.take_of_length_le (by rw [List.length_append,hl,h];exact Nat.le_refl _),List.drop_append_of_le_length (by omega),List.drop_of_length_le (by omega),List.nil_append]
theorem aJD (m:vN) (k:Nat):(qC m k).length = m.1.toNat:=gQ _ _
theorem aOE {f:Nat→List Int} {x:Int}:(n:Nat)→x ∈ nN f n→∃ k,k < n∧x ∈ f k
 | 0,h=>by simp [nN] at h
 | n + 1,h=>by
  rw [nN,List.mem_append] at h
  rcases h with h | h
  ·obtain ⟨k,h1,h2⟩:=aOE n h;exact ⟨k,by omega,h2⟩
  ·exact ⟨n,by omega,h⟩
theorem aW9 {m:vN} (h:tS m = true):tS (nY m) = true∧∀ k,k < m.2.1.toNat→wO (nY m) k = qC m k:=by
 obtain ⟨R,C,data,rfl,h1,h2,h3,h4,h5,h6,h7⟩:=kL h
 have e:nY ((R:Int),(C:Int),data) = ((C:Int),(R:Int),nN (qC ((R:Int),(C:Int),data)) C):=if_pos h
 have hl:∀ i,(qC ((R:Int),(C:Int),data) i).length = R:=fun i=>aJD _ _
 constructor
 ·rw [e,kQ]
  refine ⟨⟨?_,?_,?_,?_,?_⟩,?_⟩
  ·dsimp only;omega
  ·dsimp only;omega
  ·dsimp only;omega
  ·dsimp only;omega
  ·dsimp only;rw [pA hl,Int.natCast_mul]
  ·rw [List.all_eq_true]
   intro x hx
   obtain ⟨k,hk,hx⟩:=aOE _ hx
   unfold qC mp at hx
   rw [List.mem_map] at hx
   obtain ⟨i,hi,rfl⟩:=hx
   rw [List.mem_range] at hi
   dsimp only [Int.toNat_natCast] at hi ⊢
   have hb:=aD7 (C:=C) hi
   rw [bD (show i * C + k < data.length by omega)]
   exact (List.all_eq_true.1 h7) _ (List.getElem_mem _)
 ·intro k hk
  rw [e,aGB C R k (k * R) _ rfl]
  exact aGT hl C hk
theorem bBO {m:vN} {d:List Int} (h:tS m = true) (h2:eX d m.1 = true):iW (nY m) d = fU m d:=by
 obtain ⟨t1,t2⟩:=aW9 h
 have e1:(nY m).2.1 = m.1:=by unfold nY;rw [if_pos h]
 have e2:(nY m).1 = m.2.1:=by unfold nY;rw [if_pos h]
 unfold iW fU
 rw [if_pos ⟨t1,by rw [e1];exact h2⟩,if_pos ⟨h,h2⟩,e2]
 exact Prod.ext (bCC fun i hi=>by rw [t2 i hi]) (bBJ fun i hi=>by rw [t2 i hi])
theorem aE9 {o:iC} (h:opB o = true) (h4:o.1 = 4):o.2.2.2.length = 1:=by
 have:=((lC o).1 h).1
 have e:=aFX (o:=o) (by omega)
 omega
noncomputable def iH:Con:=⟨329,(.pair tI aD),.bool,[.val ⟨true,(.pair tI aD),[]⟩],[⟨false,.bool,[0]⟩],false,none,
 ((fun _=>True):(Int × cE)→Prop),
 ((fun x=>tS x):(Int × cE)→(Bool))⟩
def aC8:T :=
 .prim (.cmp .lss .i64) (.mk2 tI tI (.p1 tI aD (.vr 0)) (.ci .i64 1)) <|
 .ite (.vr 1) (
  .ret (.cb false)) (
  .prim (.cmp .gtr .i64) (.mk2 tI tI (.p1 tI aD (.vr 0)) (.ci .i64 6)) <|
  .ite (.vr 2) (
   .ret (.cb false)) (
   .prim (.cmp .lss .i64) (.mk2 tI tI (aJ (.pair tI aD) 1 (.vr 0)) (.ci .i64 1)) <|
   .ite (.vr 3) (
    .ret (.cb false)) (
    .prim (.cmp .gtr .i64) (.mk2 tI tI (aJ (.pair tI aD) 1 (.vr 0)) (.ci .i64 6)) <|
    .ite (.vr 4) (
     .ret (.cb false)) (
     .prim (.llen 3 tI) (aQ (.pair tI aD) 2 (.vr 0)) <|
     .prim (.ar .mul .i64) (.mk2 tI tI (.p1 tI aD (.vr 0)) (aJ (.pair tI aD) 1 (.vr 0))) <|
     .prim (.cmp .eql .i64) (.mk2 tI tI (.vr 5) (.vr 6)) <|
     .ite (.vr 7) (
      .call 0 (aQ (.pair tI aD) 2 (.vr 0)) <|
      .ret (.vr 8)) (
      .ret (.cb false))))))
set_option maxRecDepth 100000 in
theorem aWO:bS Tryz.prog [gD] iH false 3000 ⟨[],[]⟩ = .ok aC8:=by kernel_rfl
theorem aWC (x:Int × cE) (hx:okD (.pair tI aD) x) (hp:(fun _=>True) x):aC8.wp [gD] [⟨(.pair tI aD),x⟩] [] (fun v=>v.as .bool = (fun x=>tS x) x):=by
 delta aC8 gD;refine eS ?_;try with_reducible exact True.intro
 (refine gR ?_;try with_reducible exact True.intro)
 (repeat' first | intro _ | (with_reducible apply And.intro))
 all_goals first | (first | (refine (Bool.eq_false_iff.2 ?_).symm;rw [ne_eq,kQ];intro hh;omega) | (refine (kQ.2 ?_).symm;omega)) | (have:=aUR (a:=x.1) (b:=x.2.1) (by omega) (by omega) (by omega) (by omega);omega) | (rw [Bool.eq_iff_iff,kQ];exact ⟨fun h=>⟨⟨by omega,by omega,by omega,by omega,by assumption⟩,h⟩,fun h=>h.2⟩)
theorem aD2:Con.Holds Tryz.prog iH:=aT aY (aK zT aU) aWO fun x hx hp=>aWC x hx hp
noncomputable def jY:Con:=⟨315,(.pair (.pair tI aD) aB),(.pair aB .bool),[.val ⟨true,(.pair tI aD),[]⟩,.val ⟨false,aB,[]⟩],[⟨false,aB,[2]⟩,⟨false,.bool,[0]⟩],false,none,
 ((fun _=>True):((Int × cE) × cG)→Prop),
 ((fun x=>iW x.1 x.2):((Int × cE) × cG)→(cG × Bool))⟩
def aAI:T :=
 .call 0 (.p1 (.pair tI aD) aB (.vr 0)) <|
 .prim .not (.vr 1) <|
 .ite (.vr 2) (
  .ret (.mk2 aB .bool (.nl 3 tI) (.cb false))) (
  .call 1 (.mk2 aB tI (aQ (.pair (.pair tI aD) aB) 1 (.vr 0)) (aJ (.pair tI aD) 1 (.p1 (.pair tI aD) aB (.vr 0)))) <|
  .prim .not (.vr 3) <|
  .ite (.vr 4) (
   .ret (.mk2 aB .bool (.nl 3 tI) (.cb false))) (
   .loop (.pair tI (.pair .bool aB)) (bF (.pair tI (.pair .bool aB)) [(.ci .i64 0),(.cb false),(.nl 3 tI)]) <|
    .prim (.cmp .lss .i64) (.mk2 tI tI (.p1 tI (.pair .bool aB) (.vr 5)) (.p1 tI aD (.p1 (.pair tI aD) aB (.vr 0)))) <|
    .ite (.vr 6) (
     .prim (.ar .mul .i64) (.mk2 tI tI (.p1 tI (.pair .bool aB) (.vr 5)) (aJ (.pair tI aD) 1 (.p1 (.pair tI aD) aB (.vr 0)))) <|
     .prim (.ar .add .i64) (.mk2 tI tI (.p1 tI (.pair .bool aB) (.vr 5)) (.ci .i64 1)) <|
     .prim (.ar .mul .i64) (.mk2 tI tI (.vr 8) (aJ (.pair tI aD) 1 (.p1 (.pair tI aD) aB (.vr 0)))) <|
     .prim (.lsub 3 tI) (bF (.pair aB aO) [(aQ (.pair tI aD) 2 (.p1 (.pair tI aD) aB (.vr 0))),(.vr 7),(.vr 9)]) <|
     .call 2 (.mk2 aB aB (.vr 10) (aQ (.pair (.pair tI aD) aB) 1 (.vr 0))) <|
     .prim (.lit 3 tI 1) (.p1 tI .bool (.vr 11)) <|
     .prim (.lapp 3 tI 8) (.mk2 aB aB (aQ (.pair tI (.pair .bool aB)) 2 (.vr 5)) (.vr 12)) <|
     .ite (aJ (.pair tI (.pair .bool aB)) 1 (.vr 5)) (
      .prim (.ar .add .i64) (.mk2 tI tI (.p1 tI (.pair .bool aB) (.vr 5)) (.ci .i64 1)) <|
      .again 0 (bF (.pair tI (.pair .bool aB)) [(.vr 14),(.cb true),(.vr 13)])) (
      .prim (.ar .add .i64) (.mk2 tI tI (.p1 tI (.pair .bool aB) (.vr 5)) (.ci .i64 1)) <|
      .again 0 (bF (.pair tI (.pair .bool aB)) [(.vr 14),(aQ (.pair tI .bool) 1 (.vr 11)),(.vr 13)]))) (
     .ret (.mk2 aB .bool (aQ (.pair tI (.pair .bool aB)) 2 (.vr 5)) (aJ (.pair tI (.pair .bool aB)) 1 (.vr 5))))))
set_option maxRecDepth 100000 in
theorem aQL:bS Tryz.prog [iH,bV,gL] jY false 3000 ⟨[(2984,4005,mL 21 11 ++ [.dr 0,.tm 8 0,.tm 7 0,.on 6,.sl 2])],[]⟩ = .ok aAI:=by kernel_rfl
theorem aRX (x:(Int × cE) × cG) (hx:okD (.pair (.pair tI aD) aB) x) (hp:(fun _=>True) x):aAI.wp [iH,bV,gL] [⟨(.pair (.pair tI aD) aB),x⟩] [] (fun v=>v.as (.pair aB .bool) = (fun x=>iW x.1 x.2) x):=by
 obtain ⟨m,v⟩:=x
 delta aAI iH bV gL;refine eS ?_;try with_reducible exact True.intro
 simp only [Bool.not_eq_true',Bool.not_eq_false']
 refine ⟨fun h=>?_,fun h1=>⟨fun h=>?_,fun h2=>?_⟩⟩
 ·unfold iW;rw [if_neg (by rw [h];simp)]
 ·unfold iW;rw [if_neg (by rw [h];simp)]
 rw [show iW m v = _ from if_pos ⟨h1,h2⟩]
 obtain ⟨R,C,data,rfl,g1,g2,g3,g4,g5,g6,g7⟩:=kL h1
 refine dG (fun k=>((k:Int),an k (fun r=>(fD (wO ((R:Int),(C:Int),data) r) v).2),mp k fun r=>(fD (wO ((R:Int),(C:Int),data) r) v).1)) R rfl fun I μ k hk _ go=>?_
 dsimp only
 obtain ⟨p,e0⟩:∃ p,p = k * C:=⟨_,rfl⟩
 have e1:(k:Int) * (C:Int) = (p:Int):=by rw [e0];exact (Int.natCast_mul k C).symm
 have e2:((k:Int) + 1) * (C:Int) = ((p + C:Nat):Int):=by rw [Int.add_mul,e1,Int.one_mul];rfl
 have e4:k < R→p + C≤data.length:=fun h=>by rw [e0,g5];exact aD7 h
 simp only [e1,e2,oL,gQ,← aGB R C k p data e0]
 (repeat' first | intro _ | (refine go _ ?_ ?_ ?_) | (refine go _ ?_ ?_) | (with_reducible apply And.intro))
 all_goals first | omega | (unfold maxLen;omega) | (rw [gS,kM];first | exact Prod.ext rfl (Prod.ext (gP (by assumption)) rfl) | exact Prod.ext rfl (Prod.ext (kN (by assumption)) rfl)) | (have e:k = R:=(by omega);subst e;rfl)
theorem aF6:Con.Holds Tryz.prog jY:=aT aY (aK aD2 (aK jG (aK aAO aU))) aQL fun x hx hp=>aRX x hx hp
noncomputable def kS:Con:=⟨331,(.pair tI aD),(.pair tI aD),[.val ⟨true,(.pair tI aD),[]⟩],[⟨true,(.pair tI aD),[0,0,2]⟩],false,none,
 ((fun _=>True):(Int × cE)→Prop),
 ((fun x=>nY x):(Int × cE)→(Int × cE))⟩
def rO:T :=
 .call 0 (.vr 0) <|
 .prim .not (.vr 1) <|
 .ite (.vr 2) (
  .ret (bF (.pair tI aD) [(.ci .i64 0),(.ci .i64 0),(.nl 3 tI)])) (
  .loop aD (.mk2 tI aB (.ci .i64 0) (.nl 3 tI)) <|
   .prim (.cmp .lss .i64) (.mk2 tI tI (.p1 tI aB (.vr 3)) (aJ (.pair tI aD) 1 (.vr 0))) <|
   .ite (.vr 4) (
    .loop aD (.mk2 tI aB (.ci .i64 0) (aQ aD 1 (.vr 3))) <|
     .prim (.cmp .lss .i64) (.mk2 tI tI (.p1 tI aB (.vr 5)) (.p1 tI aD (.vr 0))) <|
     .ite (.vr 6) (
      .prim (.ar .mul .i64) (.mk2 tI tI (.p1 tI aB (.vr 5)) (aJ (.pair tI aD) 1 (.vr 0))) <|
      .prim (.ar .add .i64) (.mk2 tI tI (.vr 7) (.p1 tI aB (.vr 3))) <|
      .prim (.lidx 3 tI) (.mk2 aB tI (aQ (.pair tI aD) 2 (.vr 0)) (.vr 8)) <|
      .prim (.lit 3 tI 1) (.vr 9) <|
      .prim (.lapp 3 tI 8) (.mk2 aB aB (aQ aD 1 (.vr 5)) (.vr 10)) <|
      .prim (.ar .add .i64) (.mk2 tI tI (.p1 tI aB (.vr 5)) (.ci .i64 1)) <|
      .again 0 (.mk2 tI aB (.vr 12) (.vr 11))) (
      .prim (.ar .add .i64) (.mk2 tI tI (.p1 tI aB (.vr 3)) (.ci .i64 1)) <|
      .again 1 (.mk2 tI aB (.vr 7) (aQ aD 1 (.vr 5))))) (
    .ret (bF (.pair tI aD) [(aJ (.pair tI aD) 1 (.vr 0)),(.p1 tI aD (.vr 0)),(aQ aD 1 (.vr 3))])))
set_option maxRecDepth 100000 in
theorem aHH:bS Tryz.prog [iH] kS false 3000 ⟨[(2986,2003,mL 14 10 ++ mL 8 6 ++ [.dr 0,.tm 4 0,.sl 6]),(2975,6005,[.tm 5 0,.sl 6])],[]⟩ = .ok rO:=by kernel_rfl
theorem aHM (x:Int × cE) (hx:okD (.pair tI aD) x) (hp:(fun _=>True) x):rO.wp [iH] [⟨(.pair tI aD),x⟩] [] (fun v=>v.as (.pair tI aD) = (fun x=>nY x) x):=by
 obtain ⟨m,rfl⟩:∃ m,m = x:=⟨_,rfl⟩
 delta rO iH;refine eS ?_;try with_reducible exact True.intro
 simp only [Bool.not_eq_true',Bool.not_eq_false']
 refine ⟨fun h=>?_,fun h1=>?_⟩
 ·unfold nY;rw [if_neg (by rw [h];exact Bool.false_ne_true)];rfl
 rw [show nY m = _ from if_pos h1]
 obtain ⟨R,C,data,rfl,g1,g2,g3,g4,g5,g6,g7⟩:=kL h1
 refine dG (fun c=>((c:Int),nN (qC ((R:Int),(C:Int),data)) c)) C rfl fun I μ c hc _ go=>?_
 dsimp only
 (refine gR ?_;try with_reducible exact True.intro)
 have hl:(nN (qC ((R:Int),(C:Int),data)) c).length = c * R:=pA (fun i=>aJD _ _) c
 have hq:c * R≤36:=Nat.le_trans (Nat.mul_le_mul hc g2) (by omega)
 generalize hD:nN (qC ((R:Int),(C:Int),data)) c = D at *
 constructor
 ·intro hlt
  refine dG (fun r=>((r:Int),D ++ mp r fun i=>data.getD (i * C + c) 0)) R (by simp [aJV]) fun I2 μ2 k hk _ go2=>?_
  dsimp only
  obtain ⟨p,e0⟩:∃ p,p = k * C:=⟨_,rfl⟩
  have e1:(k:Int) * (C:Int) = (p:Int):=by rw [e0];exact (Int.natCast_mul k C).symm
  have e2:(p:Int) + (c:Int) = ((p + c:Nat):Int):=rfl
  have e4:k < R→p + C≤data.length:=fun h=>by rw [e0,g5];exact aD7 h
  simp only [e1,e2,oL,gQ]
  (repeat' first | intro _ | (refine go2 _ ?_ ?_ ?_) | (refine go2 _ ?_ ?_) | (refine go _ ?_ ?_ ?_) | (refine go _ ?_ ?_) | (with_reducible apply And.intro))
  all_goals first | omega | (unfold maxLen;omega) | (rw [gS,← List.append_assoc,← e0];rfl) | (have e:k = R:=(by omega);subst e;rw [nN,hD];rfl)
 ·intro hge
  have e:c = C:=by omega
  subst e
  rw [← hD]
theorem aHX:Con.Holds Tryz.prog kS:=aT aY (aK aD2 aU) aHH fun x hx hp=>aHM x hx hp
noncomputable def nS:Con:=⟨321,(.pair (.pair tI aD) aB),(.pair aB .bool),[.val ⟨true,(.pair tI aD),[]⟩,.val ⟨false,aB,[]⟩],[⟨false,aB,[2]⟩,⟨false,.bool,[0]⟩],false,none,
 ((fun _=>True):((Int × cE) × cG)→Prop),
 ((fun x=>fU x.1 x.2):((Int × cE) × cG)→(cG × Bool))⟩
def yA:T :=
 .call 0 (.p1 (.pair tI aD) aB (.vr 0)) <|
 .prim .not (.vr 1) <|
 .ite (.vr 2) (
  .ret (.mk2 aB .bool (.nl 3 tI) (.cb false))) (
  .call 1 (.mk2 aB tI (aQ (.pair (.pair tI aD) aB) 1 (.vr 0)) (.p1 tI aD (.p1 (.pair tI aD) aB (.vr 0)))) <|
  .prim .not (.vr 3) <|
  .ite (.vr 4) (
   .ret (.mk2 aB .bool (.nl 3 tI) (.cb false))) (
   .call 2 (.p1 (.pair tI aD) aB (.vr 0)) <|
   .call 3 (.mk2 (.pair tI aD) aB (.vr 5) (aQ (.pair (.pair tI aD) aB) 1 (.vr 0))) <|
   .ret (.vr 6)))
set_option maxRecDepth 100000 in
theorem aO6:bS Tryz.prog [iH,bV,kS,jY] nS false 3000 ⟨[],[]⟩ = .ok yA:=by kernel_rfl
theorem aOR (x:(Int × cE) × cG) (hx:okD (.pair (.pair tI aD) aB) x) (hp:(fun _=>True) x):yA.wp [iH,bV,kS,jY] [⟨(.pair (.pair tI aD) aB),x⟩] [] (fun v=>v.as (.pair aB .bool) = (fun x=>fU x.1 x.2) x):=by
 obtain ⟨m,d⟩:=x
 delta yA iH bV kS jY;refine eS ?_;try with_reducible exact True.intro
 simp only [Bool.not_eq_true',Bool.not_eq_false']
 refine ⟨fun h=>?_,fun h1=>⟨fun h=>?_,fun h2 _ _=>bBO h1 h2⟩⟩
 ·unfold fU;rw [if_neg (by rw [h];simp)]
 ·unfold fU;rw [if_neg (by rw [h];simp)]
theorem aNE:Con.Holds Tryz.prog nS:=aT aY (aK aD2 (aK jG (aK aHX (aK aF6 aU)))) aO6 fun x hx hp=>aOR x hx hp
noncomputable def sY:Con:=⟨322,aI,(.pair (.pair tI aD) .bool),[.val ⟨false,aB,[]⟩,.val ⟨false,aB,[]⟩],[⟨true,(.pair tI aD),[0,0,2]⟩,⟨false,.bool,[0]⟩],false,none,
 ((fun _=>True):(cN)→Prop),
 ((fun x=>oH x.1 x.2):(cN)→((Int × cE) × Bool))⟩
def aD3:T :=
 .call 0 (.p1 aB aB (.vr 0)) <|
 .prim .not (.vr 1) <|
 .ite (.vr 2) (
  .ret (.mk2 (.pair tI aD) .bool (bF (.pair tI aD) [(.ci .i64 0),(.ci .i64 0),(.nl 3 tI)]) (.cb false))) (
  .call 0 (aQ aI 1 (.vr 0)) <|
  .prim .not (.vr 3) <|
  .ite (.vr 4) (
   .ret (.mk2 (.pair tI aD) .bool (bF (.pair tI aD) [(.ci .i64 0),(.ci .i64 0),(.nl 3 tI)]) (.cb false))) (
   .prim (.llen 3 tI) (.p1 aB aB (.vr 0)) <|
   .prim (.llen 3 tI) (aQ aI 1 (.vr 0)) <|
   .prim (.llen 3 tI) (.p1 aB aB (.vr 0)) <|
   .loop (.pair tI (.pair .bool aB)) (bF (.pair tI (.pair .bool aB)) [(.ci .i64 0),(.cb false),(.nl 3 tI)]) <|
    .prim (.cmp .lss .i64) (.mk2 tI tI (.p1 tI (.pair .bool aB) (.vr 8)) (.vr 7)) <|
    .ite (.vr 9) (
     .prim (.lidx 3 tI) (.mk2 aB tI (.p1 aB aB (.vr 0)) (.p1 tI (.pair .bool aB) (.vr 8))) <|
     .prim (.llen 3 tI) (aQ aI 1 (.vr 0)) <|
     .loop (.pair tI (.pair .bool aB)) (.mk2 tI (.pair .bool aB) (.ci .i64 0) (aQ (.pair tI (.pair .bool aB)) 1 (.vr 8))) <|
      .prim (.cmp .lss .i64) (.mk2 tI tI (.p1 tI (.pair .bool aB) (.vr 12)) (.vr 11)) <|
      .ite (.vr 13) (
       .prim (.lidx 3 tI) (.mk2 aB tI (aQ aI 1 (.vr 0)) (.p1 tI (.pair .bool aB) (.vr 12))) <|
       .call 1 (.mk2 tI tI (.vr 10) (.vr 14)) <|
       .prim (.lit 3 tI 1) (.p1 tI .bool (.vr 15)) <|
       .prim (.lapp 3 tI 8) (.mk2 aB aB (aQ (.pair tI (.pair .bool aB)) 2 (.vr 12)) (.vr 16)) <|
       .ite (aJ (.pair tI (.pair .bool aB)) 1 (.vr 12)) (
        .prim (.ar .add .i64) (.mk2 tI tI (.p1 tI (.pair .bool aB) (.vr 12)) (.ci .i64 1)) <|
        .again 0 (bF (.pair tI (.pair .bool aB)) [(.vr 18),(.cb true),(.vr 17)])) (
        .prim (.ar .add .i64) (.mk2 tI tI (.p1 tI (.pair .bool aB) (.vr 12)) (.ci .i64 1)) <|
        .again 0 (bF (.pair tI (.pair .bool aB)) [(.vr 18),(aQ (.pair tI .bool) 1 (.vr 15)),(.vr 17)]))) (
       .prim (.ar .add .i64) (.mk2 tI tI (.p1 tI (.pair .bool aB) (.vr 8)) (.ci .i64 1)) <|
       .again 1 (.mk2 tI (.pair .bool aB) (.vr 14) (aQ (.pair tI (.pair .bool aB)) 1 (.vr 12))))) (
     .ret (.mk2 (.pair tI aD) .bool (bF (.pair tI aD) [(.vr 5),(.vr 6),(aQ (.pair tI (.pair .bool aB)) 2 (.vr 8))]) (aJ (.pair tI (.pair .bool aB)) 1 (.vr 8))))))
set_option maxRecDepth 100000 in
theorem aWX:bS Tryz.prog [cV,gG] sY false 3000 ⟨[(2984,4008,mL 27 23 ++ mL 21 14 ++ [.dr 0,.tm 30 0,.tm 7 0,.sl 5]),(2971,12012,[.tm 36 0,.tm 7 0,.sl 5])],[]⟩ = .ok aD3:=by kernel_rfl
theorem aXQ (x:cN) (hx:okD aI x) (hp:(fun _=>True) x):aD3.wp [cV,gG] [⟨aI,x⟩] [] (fun v=>v.as (.pair (.pair tI aD) .bool) = (fun x=>oH x.1 x.2) x):=by
 obtain ⟨d,v⟩:=x
 delta aD3 cV gG;refine eS ?_;try with_reducible exact True.intro
 simp only [Bool.not_eq_true',Bool.not_eq_false']
 refine ⟨fun h=>?_,fun h1=>⟨fun h=>?_,fun h2 _ _ _=>?_⟩⟩
 ·unfold oH;rw [if_neg (by rw [h];simp)];rfl
 ·unfold oH;rw [if_neg (by rw [h];simp)];rfl
 rw [show oH d v = _ from if_pos ⟨h1,h2⟩]
 have hd:=(cJ d).1 h1
 have hv:=(cJ v).1 h2
 refine dG (fun i=>((i:Int),an i (aHG d v),nN (uZ d v) i)) d.length rfl fun I μ i hi _ go=>?_
 dsimp only
 (refine gR ?_;try with_reducible exact True.intro)
 have hl:(nN (uZ d v) i).length = i * v.length:=pA (fun i=>gQ _ _) i
 have hq:i * v.length≤36:=Nat.le_trans (Nat.mul_le_mul hi (show v.length≤6 by omega)) (by omega)
 generalize hD:nN (uZ d v) i = D at *
 generalize hA:an i (aHG d v) = A at *
 constructor
 ·intro hlt
  refine ⟨by omega,fun _ _=>?_⟩
  refine dG (fun j=>((j:Int),A || an j (fun j=>(eL (d.getD i 0) (v.getD j 0)).2),D ++ mp j fun j=>(eL (d.getD i 0) (v.getD j 0)).1)) v.length (by simp [aJV,aU6]) fun I2 μ2 j hj _ go2=>?_
  dsimp only
  simp only [oL,gQ]
  have ea:(A || an (j + 1) (fun j=>(eL (d.getD i 0) (v.getD j 0)).2)) = ((A || an j (fun j=>(eL (d.getD i 0) (v.getD j 0)).2)) || (eL (d.getD i 0) (v.getD j 0)).2):=by rw [kM,Bool.or_assoc]
  (repeat' first | intro _ | (refine go2 _ ?_ ?_ ?_) | (refine go2 _ ?_ ?_) | (refine go _ ?_ ?_ ?_) | (refine go _ ?_ ?_) | (with_reducible apply And.intro))
  all_goals first | omega | (unfold maxLen;omega) | (rw [gS,← List.append_assoc,ea];first | exact Prod.ext rfl (Prod.ext (gP (by assumption)) rfl) | exact Prod.ext rfl (Prod.ext (kN (by assumption)) rfl)) | (have e:j = v.length:=(by omega);subst e;rw [nN,hD,kM,hA];rfl)
 ·intro hge
  have e:i = d.length:=by omega
  subst e
  rw [← hD,← hA]
theorem aWZ:Con.Holds Tryz.prog sY:=aT aY (aK mP (aK zL aU)) aWX fun x hx hp=>aXQ x hx hp
noncomputable def lK:Con:=⟨316,aZ,(.pair tI aD),[.val ⟨true,aZ,[]⟩],[⟨true,(.pair tI aD),[0,0,0]⟩],true,none,
 ((fun _=>True):(iC)→Prop),
 ((fun x=>sS x):(iC)→(Int × cE))⟩
def aCG:T :=
 .ret (bF (.pair tI aD) [(aJ aZ 2 (.vr 0)),(aJ aZ 1 (.vr 0)),(aQ aZ 3 (.vr 0))])
set_option maxRecDepth 100000 in
theorem aXG:bS Tryz.prog [] lK false 3000 ⟨[],[]⟩ = .ok aCG:=by kernel_rfl
theorem aWA (x:iC) (hx:okD aZ x) (hp:(fun _=>True) x):aCG.wp [] [⟨aZ,x⟩] [] (fun v=>v.as (.pair tI aD) = (fun x=>sS x) x):=by
 delta aCG;refine eS ?_;try with_reducible exact True.intro
 rfl
theorem aJC:Con.Holds Tryz.prog lK:=aT aY aU aXG fun x hx hp=>aWA x hx hp
noncomputable def lA:Con:=⟨284,(.pair aZ aB),(.pair aB .bool),[.val ⟨true,aZ,[]⟩,.val ⟨false,aB,[]⟩],[⟨false,aB,[2]⟩,⟨false,.bool,[0]⟩],false,none,
 ((fun _=>True):(iC × cG)→Prop),
 ((fun x=>nE x.1 x.2):(iC × cG)→(cG × Bool))⟩
def sK:T :=
 .call 0 (.p1 aZ aB (.vr 0)) <|
 .prim .not (.vr 1) <|
 .ite (.vr 2) (
  .ret (.mk2 aB .bool (.nl 3 tI) (.cb false))) (
  .call 1 (.mk2 aB tI (aQ (.pair aZ aB) 1 (.vr 0)) (aJ aZ 1 (.p1 aZ aB (.vr 0)))) <|
  .prim .not (.vr 3) <|
  .ite (.vr 4) (
   .ret (.mk2 aB .bool (.nl 3 tI) (.cb false))) (
   .prim (.cmp .eql .i64) (.mk2 tI tI (.p1 tI (.pair tI aD) (.p1 aZ aB (.vr 0))) (.ci .i64 1)) <|
   .ite (.vr 5) (
    .call 2 (.p1 aZ aB (.vr 0)) <|
    .call 3 (.mk2 (.pair tI aD) aB (.vr 6) (aQ (.pair aZ aB) 1 (.vr 0))) <|
    .ret (.vr 7)) (
    .prim (.cmp .eql .i64) (.mk2 tI tI (.p1 tI (.pair tI aD) (.p1 aZ aB (.vr 0))) (.ci .i64 2)) <|
    .ite (.vr 6) (
     .call 4 (.mk2 aB aB (aQ (.pair aZ aB) 1 (.vr 0)) (aQ aZ 3 (.p1 aZ aB (.vr 0)))) <|
     .ret (.vr 7)) (
     .prim (.cmp .eql .i64) (.mk2 tI tI (.p1 tI (.pair tI aD) (.p1 aZ aB (.vr 0))) (.ci .i64 4)) <|
     .ite (.vr 7) (
      .prim (.lidx 3 tI) (.mk2 aB tI (aQ aZ 3 (.p1 aZ aB (.vr 0))) (.ci .i64 0)) <|
      .call 5 (.mk2 tI aB (.vr 8) (aQ (.pair aZ aB) 1 (.vr 0))) <|
      .ret (.vr 9)) (
      .prim (.cmp .eql .i64) (.mk2 tI tI (.p1 tI (.pair tI aD) (.p1 aZ aB (.vr 0))) (.ci .i64 5)) <|
      .ite (.vr 8) (
       .call 2 (.p1 aZ aB (.vr 0)) <|
       .call 3 (.mk2 (.pair tI aD) aB (.vr 9) (aQ (.pair aZ aB) 1 (.vr 0))) <|
       .call 4 (.mk2 aB aB (aQ (.pair aZ aB) 1 (.vr 0)) (.p1 aB .bool (.vr 10))) <|
       .ite (aQ (.pair aB .bool) 1 (.vr 10)) (
        .ret (.mk2 aB .bool (.p1 aB .bool (.vr 11)) (.cb true))) (
        .ret (.vr 11))) (
       .call 6 (aQ (.pair aZ aB) 1 (.vr 0)) <|
       .ret (.mk2 aB .bool (.vr 9) (.cb false))))))))
set_option maxRecDepth 100000 in
theorem aHQ:bS Tryz.prog [jT,bV,lK,jY,kA,gY,nF] lA false 3000 ⟨[],[]⟩ = .ok sK:=by kernel_rfl
theorem aHI (x:iC × cG) (hx:okD (.pair aZ aB) x) (hp:(fun _=>True) x):sK.wp [jT,bV,lK,jY,kA,gY,nF] [⟨(.pair aZ aB),x⟩] [] (fun v=>v.as (.pair aB .bool) = (fun x=>nE x.1 x.2) x):=by
 obtain ⟨⟨kd,i,ou,P⟩,v⟩:=x
 delta sK jT bV lK jY kA gY nF;refine eS ?_;try with_reducible exact True.intro
 simp only [Bool.not_eq_true',Bool.not_eq_false']
 refine ⟨fun h=>?_,fun h1=>⟨fun h=>?_,fun h2=>?_⟩⟩
 ·unfold nE;rw [if_pos (by rw [h];simp)]
 ·unfold nE;rw [if_pos (by rw [h];simp)]
 have h4:=aE9 h1
 have hk:=((lC _).1 h1).1
 dsimp only at h4 hk
 (refine gR ?_;try with_reducible exact True.intro)
 (repeat' first | intro _ | (with_reducible apply And.intro))
 all_goals first | omega | (obtain rfl:kd = 3:=(by omega);simp [nE,h1,h2];done) | (simp_all [nE];done)
theorem aHU:Con.Holds Tryz.prog lA:=aT aY (aK aER (aK jG (aK aJC (aK aF6 (aK aGN (aK aBG (aK aMK aU))))))) aHQ fun x hx hp=>aHI x hx hp
noncomputable def jS:Con:=⟨290,(.pair aZ aI),(.pair aB (.pair aB .bool)),[.val ⟨true,aZ,[]⟩,.val ⟨false,aB,[]⟩,.val ⟨false,aB,[]⟩],[⟨false,aB,[2]⟩,⟨false,aB,[2]⟩,⟨false,.bool,[0]⟩],false,none,
 ((fun _=>True):(iC × cN)→Prop),
 ((fun x=>gO x.1 x.2.1 x.2.2):(iC × cN)→(cG × (cG × Bool)))⟩
def pM:T :=
 .call 0 (.p1 aZ aI (.vr 0)) <|
 .prim .not (.vr 1) <|
 .ite (.vr 2) (
  .ret (bF (.pair aB (.pair aB .bool)) [(.nl 3 tI),(.nl 3 tI),(.cb false)])) (
  .call 1 (.mk2 aB tI (aJ (.pair aZ aI) 1 (.vr 0)) (aJ aZ 1 (.p1 aZ aI (.vr 0)))) <|
  .prim .not (.vr 3) <|
  .ite (.vr 4) (
   .ret (bF (.pair aB (.pair aB .bool)) [(.nl 3 tI),(.nl 3 tI),(.cb false)])) (
   .call 1 (.mk2 aB tI (aQ (.pair aZ aI) 2 (.vr 0)) (aJ aZ 2 (.p1 aZ aI (.vr 0)))) <|
   .prim .not (.vr 5) <|
   .ite (.vr 6) (
    .ret (bF (.pair aB (.pair aB .bool)) [(.nl 3 tI),(.nl 3 tI),(.cb false)])) (
    .prim (.cmp .eql .i64) (.mk2 tI tI (.p1 tI (.pair tI aD) (.p1 aZ aI (.vr 0))) (.ci .i64 1)) <|
    .ite (.vr 7) (
     .call 2 (.p1 aZ aI (.vr 0)) <|
     .call 3 (.mk2 (.pair tI aD) aB (.vr 8) (aQ (.pair aZ aI) 2 (.vr 0))) <|
     .call 4 (.mk2 aB aB (aQ (.pair aZ aI) 2 (.vr 0)) (aJ (.pair aZ aI) 1 (.vr 0))) <|
     .ite (aQ (.pair aB .bool) 1 (.vr 9)) (
      .ret (bF (.pair aB (.pair aB .bool)) [(.p1 aB .bool (.vr 9)),(aQ (.pair tI aD) 2 (.p1 (.pair tI aD) .bool (.vr 10))),(.cb true)])) (
      .ret (bF (.pair aB (.pair aB .bool)) [(.p1 aB .bool (.vr 9)),(aQ (.pair tI aD) 2 (.p1 (.pair tI aD) .bool (.vr 10))),(aQ (.pair (.pair tI aD) .bool) 1 (.vr 10))]))) (
     .prim (.cmp .eql .i64) (.mk2 tI tI (.p1 tI (.pair tI aD) (.p1 aZ aI (.vr 0))) (.ci .i64 2)) <|
     .ite (.vr 8) (
      .call 5 (aQ (.pair aZ aI) 2 (.vr 0)) <|
      .call 5 (aQ (.pair aZ aI) 2 (.vr 0)) <|
      .ret (bF (.pair aB (.pair aB .bool)) [(.vr 9),(.vr 10),(.cb false)])) (
      .prim (.cmp .eql .i64) (.mk2 tI tI (.p1 tI (.pair tI aD) (.p1 aZ aI (.vr 0))) (.ci .i64 4)) <|
      .ite (.vr 9) (
       .prim (.lidx 3 tI) (.mk2 aB tI (aQ aZ 3 (.p1 aZ aI (.vr 0))) (.ci .i64 0)) <|
       .call 6 (.mk2 tI aB (.vr 10) (aQ (.pair aZ aI) 2 (.vr 0))) <|
       .call 7 (.mk2 aB aB (aQ (.pair aZ aI) 2 (.vr 0)) (aJ (.pair aZ aI) 1 (.vr 0))) <|
       .prim (.lit 3 tI 1) (.p1 tI .bool (.vr 12)) <|
       .ite (aQ (.pair aB .bool) 1 (.vr 11)) (
        .ret (bF (.pair aB (.pair aB .bool)) [(.p1 aB .bool (.vr 11)),(.vr 13),(.cb true)])) (
        .ret (bF (.pair aB (.pair aB .bool)) [(.p1 aB .bool (.vr 11)),(.vr 13),(aQ (.pair tI .bool) 1 (.vr 12))]))) (
       .prim (.cmp .eql .i64) (.mk2 tI tI (.p1 tI (.pair tI aD) (.p1 aZ aI (.vr 0))) (.ci .i64 5)) <|
       .ite (.vr 10) (
        .call 2 (.p1 aZ aI (.vr 0)) <|
        .call 3 (.mk2 (.pair tI aD) aB (.vr 11) (aQ (.pair aZ aI) 2 (.vr 0))) <|
        .call 8 (.mk2 aB aB (aQ (.pair aZ aI) 2 (.vr 0)) (.p1 aB .bool (.vr 12))) <|
        .call 4 (.mk2 aB aB (aQ (.pair aZ aI) 2 (.vr 0)) (aJ (.pair aZ aI) 1 (.vr 0))) <|
        .ite (aQ (.pair aB .bool) 1 (.vr 12)) (
         .ret (bF (.pair aB (.pair aB .bool)) [(.p1 aB .bool (.vr 13)),(aQ (.pair tI aD) 2 (.p1 (.pair tI aD) .bool (.vr 14))),(.cb true)])) (
         .ite (aQ (.pair aB .bool) 1 (.vr 13)) (
          .ret (bF (.pair aB (.pair aB .bool)) [(.p1 aB .bool (.vr 13)),(aQ (.pair tI aD) 2 (.p1 (.pair tI aD) .bool (.vr 14))),(.cb true)])) (
          .ret (bF (.pair aB (.pair aB .bool)) [(.p1 aB .bool (.vr 13)),(aQ (.pair tI aD) 2 (.p1 (.pair tI aD) .bool (.vr 14))),(aQ (.pair (.pair tI aD) .bool) 1 (.vr 14))])))) (
        .call 9 (aQ (.pair aZ aI) 1 (.vr 0)) <|
        .ret (bF (.pair aB (.pair aB .bool)) [(.vr 11),(.nl 3 tI),(.cb false)]))))))))
set_option maxRecDepth 100000 in
theorem aH8:bS Tryz.prog [jT,bV,lK,nS,sY,bN,gY,gL,kA,nI] jS false 3000 ⟨[],[]⟩ = .ok pM:=by kernel_rfl
theorem aEY (x:iC × cN) (hx:okD (.pair aZ aI) x) (hp:(fun _=>True) x):pM.wp [jT,bV,lK,nS,sY,bN,gY,gL,kA,nI] [⟨(.pair aZ aI),x⟩] [] (fun v=>v.as (.pair aB (.pair aB .bool)) = (fun x=>gO x.1 x.2.1 x.2.2) x):=by
 obtain ⟨⟨kd,i,ou,P⟩,v,d⟩:=x
 delta pM jT bV lK nS sY bN gY gL kA nI;refine eS ?_;try with_reducible exact True.intro
 simp only [Bool.not_eq_true',Bool.not_eq_false']
 refine ⟨fun h=>?_,fun h1=>⟨fun h=>?_,fun h2=>⟨fun h=>?_,fun h3=>?_⟩⟩⟩
 ·unfold gO;rw [if_pos (by rw [h];simp)]
 ·unfold gO;rw [if_pos (by rw [h];simp)]
 ·unfold gO;rw [if_pos (by rw [h];simp)]
 have h4:=aE9 h1
 have hk:=((lC _).1 h1).1
 have hd:=(cJ _).1 ((bY _ _).1 h3).1
 dsimp only at h4 hk
 (refine gR ?_;try with_reducible exact True.intro)
 (repeat' first | intro _ | (with_reducible apply And.intro))
 all_goals first | omega | (obtain rfl:kd = 3:=(by omega);simp [gO,h1,h2,h3];done) | (simp_all [gO];done)
theorem aET:Con.Holds Tryz.prog jS:=aT aY (aK aER (aK jG (aK aJC (aK aNE (aK aWZ (aK fW (aK aBG (aK aAO (aK aGN (aK aOD aU)))))))))) aH8 fun x hx hp=>aEY x hx hp
noncomputable def lJ:Con:=⟨324,(.pair tI aD),.bool,[.val ⟨true,(.pair tI aD),[]⟩],[⟨false,.bool,[0]⟩],false,none,
 ((fun _=>True):(Int × cE)→Prop),
 ((fun x=>tS x):(Int × cE)→(Bool))⟩
def aCD:T :=
 .call 0 (bF (.pair tI aO) [(.p1 tI aD (.vr 0)),(.ci .i64 1),(.ci .i64 6)]) <|
 .prim .not (.vr 1) <|
 .ite (.vr 2) (
  .ret (.cb false)) (
  .call 0 (bF (.pair tI aO) [(aJ (.pair tI aD) 1 (.vr 0)),(.ci .i64 1),(.ci .i64 6)]) <|
  .prim .not (.vr 3) <|
  .ite (.vr 4) (
   .ret (.cb false)) (
   .prim (.llen 3 tI) (aQ (.pair tI aD) 2 (.vr 0)) <|
   .prim (.ar .mul .i64) (.mk2 tI tI (.p1 tI aD (.vr 0)) (aJ (.pair tI aD) 1 (.vr 0))) <|
   .prim (.cmp .neq .i64) (.mk2 tI tI (.vr 5) (.vr 6)) <|
   .ite (.vr 7) (
    .ret (.cb false)) (
    .loop tI (.ci .i64 0) <|
     .prim (.llen 3 tI) (aQ (.pair tI aD) 2 (.vr 0)) <|
     .prim (.cmp .lss .i64) (.mk2 tI tI (.vr 8) (.vr 9)) <|
     .ite (.vr 10) (
      .prim (.lidx 3 tI) (.mk2 aB tI (aQ (.pair tI aD) 2 (.vr 0)) (.vr 8)) <|
      .call 1 (.vr 11) <|
      .prim .not (.vr 12) <|
      .ite (.vr 13) (
       .ret (.cb false)) (
       .prim (.ar .add .i64) (.mk2 tI tI (.vr 8) (.ci .i64 1)) <|
       .again 0 (.vr 14))) (
      .ret (.cb true)))))
set_option maxRecDepth 100000 in
theorem aVW:bS Tryz.prog [bU,fP] lJ false 3000 ⟨[(2988,8008,mL 24 4 ++ [.dr 0,.tm 3 0])],[]⟩ = .ok aCD:=by kernel_rfl
theorem aXJ (x:Int × cE) (hx:okD (.pair tI aD) x) (hp:(fun _=>True) x):aCD.wp [bU,fP] [⟨(.pair tI aD),x⟩] [] (fun v=>v.as .bool = (fun x=>tS x) x):=by
 have hm:List.length x.2.2≤9223372036854775807:=hx.2.2.1
 delta aCD bU fP;refine eS ?_;try with_reducible exact True.intro
 simp only [oL,aCN,aCX]
 (repeat' first | intro _ | (with_reducible apply And.intro))
 all_goals first | (first | (refine (Bool.eq_false_iff.2 ?_).symm;rw [ne_eq,kQ];intro hh;omega) | (refine (kQ.2 ?_).symm;omega)) | (have:=aUR (a:=x.1) (b:=x.2.1) (by omega) (by omega) (by omega) (by omega);omega) | (refine (Bool.eq_false_iff.2 fun h=>?_).symm;rw [kQ] at h;exact absurd h.1.2.2.2.2 (by assumption)) | skip
 refine aDX (fun k=>(k:Int)) (fun k=>(List.take k x.2.2).all mF = true) x.2.2.length rfl rfl fun I μ k hk hG _ go=>?_
 try dsimp only
 (refine gR ?_;try with_reducible exact True.intro)
 have e:∀ h:k < x.2.2.length,(List.take (k + 1) x.2.2).all mF = mF (x.2.2.getD k 0):=fun h=>by rw [sP mF x.2.2 h,hG,Bool.true_and,bD h]
 (repeat' first | intro _ | (refine go _ ?_ ?_ ?_) | (refine go _ ?_ ?_) | (with_reducible apply And.intro))
 all_goals first | omega | (refine (Bool.eq_false_iff.2 fun hh=>?_).symm;have h1:=List.all_eq_true.1 ((kQ x).1 hh).2 _ (List.getElem_mem (show k < x.2.2.length by omega));rw [← bD (d:=0)] at h1;exact Bool.noConfusion (h1.symm.trans (by assumption:_ = false))) | (exact (e (by omega)).trans (by assumption)) | rfl | skip
 refine ((kQ x).2 ⟨⟨by omega,by omega,by omega,by omega,by omega⟩,?_⟩).symm
 rwa [List.take_of_length_le (by omega)] at hG
theorem aJ4:Con.Holds Tryz.prog lJ:=aT aY (aK jB (aK yJ aU)) aVW fun x hx hp=>aXJ x hx hp
noncomputable def tD:Con:=⟨325,(.pair (.pair tI aD) tI),aB,[.val ⟨true,(.pair tI aD),[]⟩,.val ⟨false,tI,[]⟩],[⟨false,aB,[0]⟩],true,none,
 ((fun x=>tS x.1 = true∧0≤x.2∧x.2 < x.1.1):((Int × cE) × Int)→Prop),
 ((fun x=>wO x.1 x.2.toNat):((Int × cE) × Int)→(List Int))⟩
def aCR:T :=
 .prim (.ar .mul .i64) (.mk2 tI tI (aQ (.pair (.pair tI aD) tI) 1 (.vr 0)) (aJ (.pair tI aD) 1 (.p1 (.pair tI aD) tI (.vr 0)))) <|
 .prim (.ar .add .i64) (.mk2 tI tI (aQ (.pair (.pair tI aD) tI) 1 (.vr 0)) (.ci .i64 1)) <|
 .prim (.ar .mul .i64) (.mk2 tI tI (.vr 2) (aJ (.pair tI aD) 1 (.p1 (.pair tI aD) tI (.vr 0)))) <|
 .prim (.lsub 3 tI) (bF (.pair aB aO) [(aQ (.pair tI aD) 2 (.p1 (.pair tI aD) tI (.vr 0))),(.vr 1),(.vr 3)]) <|
 .ret (.vr 4)
set_option maxRecDepth 100000 in
theorem aWD:bS Tryz.prog [] tD false 3000 ⟨[],[]⟩ = .ok aCR:=by kernel_rfl
theorem aVF (x:(Int × cE) × Int) (hx:okD (.pair (.pair tI aD) tI) x) (hp:(fun x=>tS x.1 = true∧0≤x.2∧x.2 < x.1.1) x):aCR.wp [] [⟨(.pair (.pair tI aD) tI),x⟩] [] (fun v=>v.as aB = (fun x=>wO x.1 x.2.toNat) x):=by
 obtain ⟨m,k⟩:=x
 obtain ⟨h1,h2,h3⟩:tS m = true∧0≤k∧k < m.1:=hp
 obtain ⟨R,C,data,rfl,g1,g2,g3,g4,g5,g6,g7⟩:=kL h1
 obtain ⟨k,rfl⟩:=Int.eq_ofNat_of_zero_le h2
 have h3:k < R:=by dsimp only at h3;omega
 delta aCR;refine eS ?_;try with_reducible exact True.intro
 obtain ⟨p,e0⟩:∃ p,p = k * C:=⟨_,rfl⟩
 have e1:(k:Int) * (C:Int) = (p:Int):=by rw [e0];exact (Int.natCast_mul k C).symm
 have e2:((k:Int) + 1) * (C:Int) = ((p + C:Nat):Int):=by rw [Int.add_mul,e1,Int.one_mul];rfl
 have e4:p + C≤data.length:=by rw [e0,g5];exact aD7 h3
 simp only [e1,e2,oL,← aGB R C k p data e0]
 (repeat' first | intro _ | (with_reducible apply And.intro))
 all_goals first | omega | trivial | rfl
theorem aWK:Con.Holds Tryz.prog tD:=aT aY aU aWD fun x hx hp=>aVF x hx hp
noncomputable def tC:Con:=⟨328,(.pair (.pair tI aD) tI),aB,[.val ⟨true,(.pair tI aD),[]⟩,.val ⟨false,tI,[]⟩],[⟨false,aB,[2]⟩],false,none,
 ((fun x=>tS x.1 = true∧0≤x.2∧x.2 < x.1.2.1):((Int × cE) × Int)→Prop),
 ((fun x=>qC x.1 x.2.toNat):((Int × cE) × Int)→(List Int))⟩
def aCE:T :=
 .loop aD (.mk2 tI aB (.ci .i64 0) (.nl 3 tI)) <|
  .prim (.cmp .lss .i64) (.mk2 tI tI (.p1 tI aB (.vr 1)) (.p1 tI aD (.p1 (.pair tI aD) tI (.vr 0)))) <|
  .ite (.vr 2) (
   .prim (.ar .mul .i64) (.mk2 tI tI (.p1 tI aB (.vr 1)) (aJ (.pair tI aD) 1 (.p1 (.pair tI aD) tI (.vr 0)))) <|
   .prim (.ar .add .i64) (.mk2 tI tI (.vr 3) (aQ (.pair (.pair tI aD) tI) 1 (.vr 0))) <|
   .prim (.lidx 3 tI) (.mk2 aB tI (aQ (.pair tI aD) 2 (.p1 (.pair tI aD) tI (.vr 0))) (.vr 4)) <|
   .prim (.lit 3 tI 1) (.vr 5) <|
   .prim (.lapp 3 tI 8) (.mk2 aB aB (aQ aD 1 (.vr 1)) (.vr 6)) <|
   .prim (.ar .add .i64) (.mk2 tI tI (.p1 tI aB (.vr 1)) (.ci .i64 1)) <|
   .again 0 (.mk2 tI aB (.vr 8) (.vr 7))) (
   .ret (aQ aD 1 (.vr 1)))
set_option maxRecDepth 100000 in
theorem aXO:bS Tryz.prog [] tC false 3000 ⟨[(2991,1001,[.dr 7,.dr 0,.tm 6 0,.on 5,.sl 2])],[]⟩ = .ok aCE:=by kernel_rfl
theorem aWJ (x:(Int × cE) × Int) (hx:okD (.pair (.pair tI aD) tI) x) (hp:(fun x=>tS x.1 = true∧0≤x.2∧x.2 < x.1.2.1) x):aCE.wp [] [⟨(.pair (.pair tI aD) tI),x⟩] [] (fun v=>v.as aB = (fun x=>qC x.1 x.2.toNat) x):=by
 obtain ⟨m,c⟩:=x
 obtain ⟨h1,h2,h3⟩:tS m = true∧0≤c∧c < m.2.1:=hp
 obtain ⟨R,C,data,rfl,g1,g2,g3,g4,g5,g6,g7⟩:=kL h1
 obtain ⟨c,rfl⟩:=Int.eq_ofNat_of_zero_le h2
 have h3:c < C:=by dsimp only at h3;omega
 delta aCE;refine eS ?_;try with_reducible exact True.intro
 refine dG (fun r=>((r:Int),mp r fun i=>data.getD (i * C + c) 0)) R rfl fun I μ k hk _ go=>?_
 dsimp only
 obtain ⟨p,e0⟩:∃ p,p = k * C:=⟨_,rfl⟩
 have e1:(k:Int) * (C:Int) = (p:Int):=by rw [e0];exact (Int.natCast_mul k C).symm
 have e2:(p:Int) + (c:Int) = ((p + c:Nat):Int):=rfl
 have e4:k < R→p + C≤data.length:=fun h=>by rw [e0,g5];exact aD7 h
 simp only [e1,e2,oL,gQ]
 (repeat' first | intro _ | (refine go _ ?_ ?_ ?_) | (refine go _ ?_ ?_) | (with_reducible apply And.intro))
 all_goals first | omega | (unfold maxLen;omega) | (rw [gS,← e0];rfl) | (have e:k = R:=(by omega);subst e;rfl)
theorem aXI:Con.Holds Tryz.prog tC:=aT aY aU aXO fun x hx hp=>aWJ x hx hp
noncomputable def pI:Con:=⟨306,(.pair (.pair tI aD) aB),(.pair aB .bool),[.val ⟨true,(.pair tI aD),[]⟩,.val ⟨false,aB,[]⟩],[⟨false,aB,[2]⟩,⟨false,.bool,[0]⟩],false,none,
 ((fun _=>True):((Int × cE) × cG)→Prop),
 ((fun x=>iW x.1 x.2):((Int × cE) × cG)→(cG × Bool))⟩
def aAN:T :=
 .call 0 (.p1 (.pair tI aD) aB (.vr 0)) <|
 .prim .not (.vr 1) <|
 .ite (.vr 2) (
  .ret (.mk2 aB .bool (.nl 3 tI) (.cb false))) (
  .call 1 (aQ (.pair (.pair tI aD) aB) 1 (.vr 0)) <|
  .prim .not (.vr 3) <|
  .ite (.vr 4) (
   .ret (.mk2 aB .bool (.nl 3 tI) (.cb false))) (
   .prim (.llen 3 tI) (aQ (.pair (.pair tI aD) aB) 1 (.vr 0)) <|
   .prim (.cmp .neq .i64) (.mk2 tI tI (.vr 5) (aJ (.pair tI aD) 1 (.p1 (.pair tI aD) aB (.vr 0)))) <|
   .ite (.vr 6) (
    .ret (.mk2 aB .bool (.nl 3 tI) (.cb false))) (
    .loop (.pair tI (.pair .bool aB)) (bF (.pair tI (.pair .bool aB)) [(.ci .i64 0),(.cb false),(.nl 3 tI)]) <|
     .prim (.cmp .lss .i64) (.mk2 tI tI (.p1 tI (.pair .bool aB) (.vr 7)) (.p1 tI aD (.p1 (.pair tI aD) aB (.vr 0)))) <|
     .ite (.vr 8) (
      .call 2 (.mk2 (.pair tI aD) tI (.p1 (.pair tI aD) aB (.vr 0)) (.p1 tI (.pair .bool aB) (.vr 7))) <|
      .call 3 (.mk2 aB aB (.vr 9) (aQ (.pair (.pair tI aD) aB) 1 (.vr 0))) <|
      .prim (.lit 3 tI 1) (.p1 tI .bool (.vr 10)) <|
      .prim (.lapp 3 tI 8) (.mk2 aB aB (aQ (.pair tI (.pair .bool aB)) 2 (.vr 7)) (.vr 11)) <|
      .ite (aJ (.pair tI (.pair .bool aB)) 1 (.vr 7)) (
       .prim (.ar .add .i64) (.mk2 tI tI (.p1 tI (.pair .bool aB) (.vr 7)) (.ci .i64 1)) <|
       .again 0 (bF (.pair tI (.pair .bool aB)) [(.vr 13),(.cb true),(.vr 12)])) (
       .prim (.ar .add .i64) (.mk2 tI tI (.p1 tI (.pair .bool aB) (.vr 7)) (.ci .i64 1)) <|
       .again 0 (bF (.pair tI (.pair .bool aB)) [(.vr 13),(aQ (.pair tI .bool) 1 (.vr 10)),(.vr 12)]))) (
      .ret (.mk2 aB .bool (aQ (.pair tI (.pair .bool aB)) 2 (.vr 7)) (aJ (.pair tI (.pair .bool aB)) 1 (.vr 7)))))))
set_option maxRecDepth 100000 in
theorem aRA:bS Tryz.prog [lJ,bJ,tD,eK] pI false 3000 ⟨[(2984,8007,mL 26 11 ++ [.dr 0,.tm 8 0,.tm 7 0,.on 6,.sl 2])],[]⟩ = .ok aAN:=by kernel_rfl
theorem aQQ (x:(Int × cE) × cG) (hx:okD (.pair (.pair tI aD) aB) x) (hp:(fun _=>True) x):aAN.wp [lJ,bJ,tD,eK] [⟨(.pair (.pair tI aD) aB),x⟩] [] (fun v=>v.as (.pair aB .bool) = (fun x=>iW x.1 x.2) x):=by
 obtain ⟨m,v⟩:=x
 delta aAN lJ bJ tD eK;refine eS ?_;try with_reducible exact True.intro
 simp only [Bool.not_eq_true',Bool.not_eq_false',aCN,aCX]
 refine ⟨fun h=>?_,fun h1=>⟨fun h=>?_,fun h2 _=>⟨fun h=>?_,fun h3=>?_⟩⟩⟩
 ·unfold iW;rw [if_neg (by rw [h];simp)]
 ·unfold iW eX;rw [if_neg (by rw [h];simp)]
 ·unfold iW eX;rw [if_neg (fun hh=>h (by have:=hh.2;rw [Bool.and_eq_true,decide_eq_true_eq] at this;exact this.2))]
 have h4:eX v m.2.1 = true:=(bY _ _).2 ⟨h2,h3⟩
 rw [show iW m v = _ from if_pos ⟨h1,h4⟩]
 obtain ⟨R,C,data,rfl,g1,g2,g3,g4,g5,g6,g7⟩:=kL h1
 refine dG (fun k=>((k:Int),an k (fun r=>(fD (wO ((R:Int),(C:Int),data) r) v).2),mp k fun r=>(fD (wO ((R:Int),(C:Int),data) r) v).1)) R rfl fun I μ k hk _ go=>?_
 dsimp only
 simp only [oL,gQ]
 (repeat' first | intro _ | (refine go _ ?_ ?_ ?_) | (refine go _ ?_ ?_) | (with_reducible apply And.intro))
 all_goals first | omega | exact h1 | (unfold maxLen;omega) | (rw [gS,kM];first | exact Prod.ext rfl (Prod.ext (gP (by assumption)) rfl) | exact Prod.ext rfl (Prod.ext (kN (by assumption)) rfl)) | (have e:k = R:=(by omega);subst e;rfl)
theorem aTF:Con.Holds Tryz.prog pI:=aT aY (aK aJ4 (aK fC (aK aWK (aK uS aU)))) aRA fun x hx hp=>aQQ x hx hp
noncomputable def nV:Con:=⟨313,(.pair (.pair tI aD) aB),(.pair aB .bool),[.val ⟨true,(.pair tI aD),[]⟩,.val ⟨false,aB,[]⟩],[⟨false,aB,[2]⟩,⟨false,.bool,[0]⟩],false,none,
 ((fun _=>True):((Int × cE) × cG)→Prop),
 ((fun x=>fU x.1 x.2):((Int × cE) × cG)→(cG × Bool))⟩
def vV:T :=
 .call 0 (.p1 (.pair tI aD) aB (.vr 0)) <|
 .prim .not (.vr 1) <|
 .ite (.vr 2) (
  .ret (.mk2 aB .bool (.nl 3 tI) (.cb false))) (
  .call 1 (aQ (.pair (.pair tI aD) aB) 1 (.vr 0)) <|
  .prim .not (.vr 3) <|
  .ite (.vr 4) (
   .ret (.mk2 aB .bool (.nl 3 tI) (.cb false))) (
   .prim (.llen 3 tI) (aQ (.pair (.pair tI aD) aB) 1 (.vr 0)) <|
   .prim (.cmp .neq .i64) (.mk2 tI tI (.vr 5) (.p1 tI aD (.p1 (.pair tI aD) aB (.vr 0)))) <|
   .ite (.vr 6) (
    .ret (.mk2 aB .bool (.nl 3 tI) (.cb false))) (
    .loop (.pair tI (.pair .bool aB)) (bF (.pair tI (.pair .bool aB)) [(.ci .i64 0),(.cb false),(.nl 3 tI)]) <|
     .prim (.cmp .lss .i64) (.mk2 tI tI (.p1 tI (.pair .bool aB) (.vr 7)) (aJ (.pair tI aD) 1 (.p1 (.pair tI aD) aB (.vr 0)))) <|
     .ite (.vr 8) (
      .call 2 (.mk2 (.pair tI aD) tI (.p1 (.pair tI aD) aB (.vr 0)) (.p1 tI (.pair .bool aB) (.vr 7))) <|
      .call 3 (.mk2 aB aB (.vr 9) (aQ (.pair (.pair tI aD) aB) 1 (.vr 0))) <|
      .prim (.lit 3 tI 1) (.p1 tI .bool (.vr 10)) <|
      .prim (.lapp 3 tI 8) (.mk2 aB aB (aQ (.pair tI (.pair .bool aB)) 2 (.vr 7)) (.vr 11)) <|
      .ite (aJ (.pair tI (.pair .bool aB)) 1 (.vr 7)) (
       .prim (.ar .add .i64) (.mk2 tI tI (.p1 tI (.pair .bool aB) (.vr 7)) (.ci .i64 1)) <|
       .again 0 (bF (.pair tI (.pair .bool aB)) [(.vr 13),(.cb true),(.vr 12)])) (
       .prim (.ar .add .i64) (.mk2 tI tI (.p1 tI (.pair .bool aB) (.vr 7)) (.ci .i64 1)) <|
       .again 0 (bF (.pair tI (.pair .bool aB)) [(.vr 13),(aQ (.pair tI .bool) 1 (.vr 10)),(.vr 12)]))) (
      .ret (.mk2 aB .bool (aQ (.pair tI (.pair .bool aB)) 2 (.vr 7)) (aJ (.pair tI (.pair .bool aB)) 1 (.vr 7)))))))
set_option maxRecDepth 100000 in
theorem aOQ:bS Tryz.prog [lJ,bJ,tC,eK] nV false 3000 ⟨[(2984,8007,mL 26 11 ++ [.dr 0,.tm 8 0,.tm 7 0,.on 6,.sl 2])],[]⟩ = .ok vV:=by kernel_rfl
theorem aOH (x:(Int × cE) × cG) (hx:okD (.pair (.pair tI aD) aB) x) (hp:(fun _=>True) x):vV.wp [lJ,bJ,tC,eK] [⟨(.pair (.pair tI aD) aB),x⟩] [] (fun v=>v.as (.pair aB .bool) = (fun x=>fU x.1 x.2) x):=by
 obtain ⟨m,v⟩:=x
 delta vV lJ bJ tC eK;refine eS ?_;try with_reducible exact True.intro
 simp only [Bool.not_eq_true',Bool.not_eq_false',aCN,aCX]
 refine ⟨fun h=>?_,fun h1=>⟨fun h=>?_,fun h2 _=>⟨fun h=>?_,fun h3=>?_⟩⟩⟩
 ·unfold fU;rw [if_neg (by rw [h];simp)]
 ·unfold fU eX;rw [if_neg (by rw [h];simp)]
 ·unfold fU eX;rw [if_neg (fun hh=>h (by have:=hh.2;rw [Bool.and_eq_true,decide_eq_true_eq] at this;exact this.2))]
 have h4:eX v m.1 = true:=(bY _ _).2 ⟨h2,h3⟩
 rw [show fU m v = _ from if_pos ⟨h1,h4⟩]
 obtain ⟨R,C,data,rfl,g1,g2,g3,g4,g5,g6,g7⟩:=kL h1
 refine dG (fun k=>((k:Int),an k (fun r=>(fD (qC ((R:Int),(C:Int),data) r) v).2),mp k fun r=>(fD (qC ((R:Int),(C:Int),data) r) v).1)) C rfl fun I μ k hk _ go=>?_
 dsimp only
 simp only [oL,gQ]
 (repeat' first | intro _ | (refine go _ ?_ ?_ ?_) | (refine go _ ?_ ?_) | (with_reducible apply And.intro))
 all_goals first | omega | exact h1 | (unfold maxLen;omega) | (rw [gS,kM];first | exact Prod.ext rfl (Prod.ext (gP (by assumption)) rfl) | exact Prod.ext rfl (Prod.ext (kN (by assumption)) rfl)) | (have e:k = C:=(by omega);subst e;rfl)
theorem aM5:Con.Holds Tryz.prog nV:=aT aY (aK aJ4 (aK fC (aK aXI (aK uS aU)))) aOQ fun x hx hp=>aOH x hx hp
noncomputable def tG:Con:=⟨314,aI,(.pair (.pair tI aD) .bool),[.val ⟨false,aB,[]⟩,.val ⟨false,aB,[]⟩],[⟨true,(.pair tI aD),[0,0,2]⟩,⟨false,.bool,[0]⟩],false,none,
 ((fun _=>True):(cN)→Prop),
 ((fun x=>oH x.1 x.2):(cN)→((Int × cE) × Bool))⟩
def aCZ:T :=
 .call 0 (.p1 aB aB (.vr 0)) <|
 .prim .not (.vr 1) <|
 .ite (.vr 2) (
  .ret (.mk2 (.pair tI aD) .bool (bF (.pair tI aD) [(.ci .i64 0),(.ci .i64 0),(.nl 3 tI)]) (.cb false))) (
  .call 0 (aQ aI 1 (.vr 0)) <|
  .prim .not (.vr 3) <|
  .ite (.vr 4) (
   .ret (.mk2 (.pair tI aD) .bool (bF (.pair tI aD) [(.ci .i64 0),(.ci .i64 0),(.nl 3 tI)]) (.cb false))) (
   .prim (.llen 3 tI) (.p1 aB aB (.vr 0)) <|
   .prim (.llen 3 tI) (aQ aI 1 (.vr 0)) <|
   .loop (.pair tI (.pair .bool aB)) (bF (.pair tI (.pair .bool aB)) [(.ci .i64 0),(.cb false),(.nl 3 tI)]) <|
    .prim (.llen 3 tI) (.p1 aB aB (.vr 0)) <|
    .prim (.cmp .lss .i64) (.mk2 tI tI (.p1 tI (.pair .bool aB) (.vr 7)) (.vr 8)) <|
    .ite (.vr 9) (
     .loop (.pair tI (.pair .bool aB)) (.mk2 tI (.pair .bool aB) (.ci .i64 0) (aQ (.pair tI (.pair .bool aB)) 1 (.vr 7))) <|
      .prim (.llen 3 tI) (aQ aI 1 (.vr 0)) <|
      .prim (.cmp .lss .i64) (.mk2 tI tI (.p1 tI (.pair .bool aB) (.vr 10)) (.vr 11)) <|
      .ite (.vr 12) (
       .prim (.lidx 3 tI) (.mk2 aB tI (.p1 aB aB (.vr 0)) (.p1 tI (.pair .bool aB) (.vr 7))) <|
       .prim (.lidx 3 tI) (.mk2 aB tI (aQ aI 1 (.vr 0)) (.p1 tI (.pair .bool aB) (.vr 10))) <|
       .call 1 (.mk2 tI tI (.vr 13) (.vr 14)) <|
       .prim (.lit 3 tI 1) (.p1 tI .bool (.vr 15)) <|
       .prim (.lapp 3 tI 8) (.mk2 aB aB (aQ (.pair tI (.pair .bool aB)) 2 (.vr 10)) (.vr 16)) <|
       .ite (aJ (.pair tI (.pair .bool aB)) 1 (.vr 10)) (
        .prim (.ar .add .i64) (.mk2 tI tI (.p1 tI (.pair .bool aB) (.vr 10)) (.ci .i64 1)) <|
        .again 0 (bF (.pair tI (.pair .bool aB)) [(.vr 18),(.cb true),(.vr 17)])) (
        .prim (.ar .add .i64) (.mk2 tI tI (.p1 tI (.pair .bool aB) (.vr 10)) (.ci .i64 1)) <|
        .again 0 (bF (.pair tI (.pair .bool aB)) [(.vr 18),(aQ (.pair tI .bool) 1 (.vr 15)),(.vr 17)]))) (
       .prim (.ar .add .i64) (.mk2 tI tI (.p1 tI (.pair .bool aB) (.vr 7)) (.ci .i64 1)) <|
       .again 1 (.mk2 tI (.pair .bool aB) (.vr 13) (aQ (.pair tI (.pair .bool aB)) 1 (.vr 10))))) (
     .ret (.mk2 (.pair tI aD) .bool (bF (.pair tI aD) [(.vr 5),(.vr 6),(aQ (.pair tI (.pair .bool aB)) 2 (.vr 7))]) (aJ (.pair tI (.pair .bool aB)) 1 (.vr 7))))))
set_option maxRecDepth 100000 in
theorem aW1:bS Tryz.prog [bJ,gF] tG false 3000 ⟨[(2984,4007,mL 25 21 ++ mL 19 12 ++ [.tm 8 0,.tm 7 0,.sl 5]),(2973,12010,[.tm 9 0,.tm 7 0,.sl 5])],[]⟩ = .ok aCZ:=by kernel_rfl
theorem aWM (x:cN) (hx:okD aI x) (hp:(fun _=>True) x):aCZ.wp [bJ,gF] [⟨aI,x⟩] [] (fun v=>v.as (.pair (.pair tI aD) .bool) = (fun x=>oH x.1 x.2) x):=by
 obtain ⟨d,v⟩:=x
 delta aCZ bJ gF;refine eS ?_;try with_reducible exact True.intro
 simp only [Bool.not_eq_true',Bool.not_eq_false']
 refine ⟨fun h=>?_,fun h1=>⟨fun h=>?_,fun h2 _ _=>?_⟩⟩
 ·unfold oH;rw [if_neg (by rw [h];simp)];rfl
 ·unfold oH;rw [if_neg (by rw [h];simp)];rfl
 rw [show oH d v = _ from if_pos ⟨h1,h2⟩]
 have hd:=(cJ d).1 h1
 have hv:=(cJ v).1 h2
 refine dG (fun i=>((i:Int),an i (aHG d v),nN (uZ d v) i)) d.length rfl fun I μ i hi _ go=>?_
 dsimp only
 (refine gR ?_;try with_reducible exact True.intro)
 have hl:(nN (uZ d v) i).length = i * v.length:=pA (fun i=>gQ _ _) i
 have hq:i * v.length≤36:=Nat.le_trans (Nat.mul_le_mul hi (show v.length≤6 by omega)) (by omega)
 generalize hD:nN (uZ d v) i = D at *
 generalize hA:an i (aHG d v) = A at *
 intro _
 constructor
 ·intro hlt
  refine dG (fun j=>((j:Int),A || an j (fun j=>(eL (d.getD i 0) (v.getD j 0)).2),D ++ mp j fun j=>(eL (d.getD i 0) (v.getD j 0)).1)) v.length (by simp [aJV,aU6]) fun I2 μ2 j hj _ go2=>?_
  dsimp only
  simp only [oL,gQ]
  have ea:(A || an (j + 1) (fun j=>(eL (d.getD i 0) (v.getD j 0)).2)) = ((A || an j (fun j=>(eL (d.getD i 0) (v.getD j 0)).2)) || (eL (d.getD i 0) (v.getD j 0)).2):=by rw [kM,Bool.or_assoc]
  (repeat' first | intro _ | (refine go2 _ ?_ ?_ ?_) | (refine go2 _ ?_ ?_) | (refine go _ ?_ ?_ ?_) | (refine go _ ?_ ?_) | (with_reducible apply And.intro))
  all_goals first | omega | (unfold maxLen;omega) | (rw [gS,← List.append_assoc,ea];first | exact Prod.ext rfl (Prod.ext (gP (by assumption)) rfl) | exact Prod.ext rfl (Prod.ext (kN (by assumption)) rfl)) | (have e:j = v.length:=(by omega);subst e;rw [nN,hD,kM,hA];rfl)
 ·intro hge
  have e:i = d.length:=by omega
  subst e
  rw [← hD,← hA]
theorem aXF:Con.Holds Tryz.prog tG:=aT aY (aK fC (aK aA9 aU)) aW1 fun x hx hp=>aWM x hx hp
noncomputable def lM:Con:=⟨307,aZ,(.pair tI aD),[.val ⟨true,aZ,[]⟩],[⟨true,(.pair tI aD),[0,0,0]⟩],true,none,
 ((fun _=>True):(iC)→Prop),
 ((fun x=>sS x):(iC)→(Int × cE))⟩
def aCB:T :=
 .ret (bF (.pair tI aD) [(aJ aZ 2 (.vr 0)),(aJ aZ 1 (.vr 0)),(aQ aZ 3 (.vr 0))])
set_option maxRecDepth 100000 in
theorem aWT:bS Tryz.prog [] lM false 3000 ⟨[],[]⟩ = .ok aCB:=by kernel_rfl
theorem aVE (x:iC) (hx:okD aZ x) (hp:(fun _=>True) x):aCB.wp [] [⟨aZ,x⟩] [] (fun v=>v.as (.pair tI aD) = (fun x=>sS x) x):=by
 delta aCB;refine eS ?_;try with_reducible exact True.intro
 rfl
theorem aJ0:Con.Holds Tryz.prog lM:=aT aY aU aWT fun x hx hp=>aVE x hx hp
noncomputable def kX:Con:=⟨272,(.pair aZ aB),(.pair aB .bool),[.val ⟨true,aZ,[]⟩,.val ⟨false,aB,[]⟩],[⟨false,aB,[2]⟩,⟨false,.bool,[0]⟩],false,none,
 ((fun _=>True):(iC × cG)→Prop),
 ((fun x=>nE x.1 x.2):(iC × cG)→(cG × Bool))⟩
def rV:T :=
 .call 0 (.p1 aZ aB (.vr 0)) <|
 .prim .not (.vr 1) <|
 .ite (.vr 2) (
  .ret (.mk2 aB .bool (.nl 3 tI) (.cb false))) (
  .call 1 (aQ (.pair aZ aB) 1 (.vr 0)) <|
  .prim .not (.vr 3) <|
  .ite (.vr 4) (
   .ret (.mk2 aB .bool (.nl 3 tI) (.cb false))) (
   .prim (.llen 3 tI) (aQ (.pair aZ aB) 1 (.vr 0)) <|
   .prim (.cmp .neq .i64) (.mk2 tI tI (.vr 5) (aJ aZ 1 (.p1 aZ aB (.vr 0)))) <|
   .ite (.vr 6) (
    .ret (.mk2 aB .bool (.nl 3 tI) (.cb false))) (
    .prim (.cmp .eql .i64) (.mk2 tI tI (.p1 tI (.pair tI aD) (.p1 aZ aB (.vr 0))) (.ci .i64 1)) <|
    .ite (.vr 7) (
     .call 2 (.p1 aZ aB (.vr 0)) <|
     .call 3 (.mk2 (.pair tI aD) aB (.vr 8) (aQ (.pair aZ aB) 1 (.vr 0))) <|
     .ret (.vr 9)) (
     .prim (.cmp .eql .i64) (.mk2 tI tI (.p1 tI (.pair tI aD) (.p1 aZ aB (.vr 0))) (.ci .i64 2)) <|
     .ite (.vr 8) (
      .call 4 (.mk2 aB aB (aQ (.pair aZ aB) 1 (.vr 0)) (aQ aZ 3 (.p1 aZ aB (.vr 0)))) <|
      .ret (.vr 9)) (
      .prim (.cmp .eql .i64) (.mk2 tI tI (.p1 tI (.pair tI aD) (.p1 aZ aB (.vr 0))) (.ci .i64 3)) <|
      .ite (.vr 9) (
       .call 5 (aQ (.pair aZ aB) 1 (.vr 0)) <|
       .ret (.mk2 aB .bool (.vr 10) (.cb false))) (
       .prim (.cmp .eql .i64) (.mk2 tI tI (.p1 tI (.pair tI aD) (.p1 aZ aB (.vr 0))) (.ci .i64 4)) <|
       .ite (.vr 10) (
        .prim (.lidx 3 tI) (.mk2 aB tI (aQ aZ 3 (.p1 aZ aB (.vr 0))) (.ci .i64 0)) <|
        .call 6 (.mk2 tI aB (.vr 11) (aQ (.pair aZ aB) 1 (.vr 0))) <|
        .ret (.vr 12)) (
        .call 2 (.p1 aZ aB (.vr 0)) <|
        .call 3 (.mk2 (.pair tI aD) aB (.vr 11) (aQ (.pair aZ aB) 1 (.vr 0))) <|
        .call 4 (.mk2 aB aB (aQ (.pair aZ aB) 1 (.vr 0)) (.p1 aB .bool (.vr 12))) <|
        .ite (aQ (.pair aB .bool) 1 (.vr 12)) (
         .ret (.mk2 aB .bool (.p1 aB .bool (.vr 13)) (.cb true))) (
         .ret (.vr 13)))))))))
set_option maxRecDepth 100000 in
theorem aIA:bS Tryz.prog [jV,bJ,lM,pI,kF,nT,hK] kX false 3000 ⟨[],[]⟩ = .ok rV:=by kernel_rfl
theorem aI9 (x:iC × cG) (hx:okD (.pair aZ aB) x) (hp:(fun _=>True) x):rV.wp [jV,bJ,lM,pI,kF,nT,hK] [⟨(.pair aZ aB),x⟩] [] (fun v=>v.as (.pair aB .bool) = (fun x=>nE x.1 x.2) x):=by
 obtain ⟨⟨kd,i,ou,P⟩,v⟩:=x
 delta rV jV bJ lM pI kF nT hK;refine eS ?_;try with_reducible exact True.intro
 simp only [Bool.not_eq_true',Bool.not_eq_false',aCN,aCX]
 refine ⟨fun h=>?_,fun h1=>⟨fun h=>?_,fun h2 _=>⟨fun h=>?_,fun h3=>?_⟩⟩⟩
 ·unfold nE;rw [if_pos (by rw [h];simp)]
 ·unfold nE eX;rw [if_pos (by rw [h];simp)]
 ·unfold nE;rw [if_pos (fun hh=>h ((bY _ _).1 hh.2).2)]
 have h9:eX v i = true:=(bY _ _).2 ⟨h2,h3⟩
 clear h2 h3
 have h4:=aE9 h1
 have hk:=((lC _).1 h1).1
 dsimp only at h4 hk
 (refine gR ?_;try with_reducible exact True.intro)
 (repeat' first | intro _ | (with_reducible apply And.intro))
 all_goals first | omega | (simp_all [nE];done) | (have e5:kd = 5:=(by omega);subst e5;simp_all [nE];done)
theorem aHP:Con.Holds Tryz.prog kX:=aT aY (aK aFL (aK fC (aK aJ0 (aK aTF (aK aG1 (aK aPQ (aK aBX aU))))))) aIA fun x hx hp=>aI9 x hx hp
noncomputable def jQ:Con:=⟨278,(.pair aZ aI),(.pair aB (.pair aB .bool)),[.val ⟨true,aZ,[]⟩,.val ⟨false,aB,[]⟩,.val ⟨false,aB,[]⟩],[⟨false,aB,[2]⟩,⟨false,aB,[2]⟩,⟨false,.bool,[0]⟩],false,none,
 ((fun _=>True):(iC × cN)→Prop),
 ((fun x=>gO x.1 x.2.1 x.2.2):(iC × cN)→(cG × (cG × Bool)))⟩
def qP:T :=
 .call 0 (.p1 aZ aI (.vr 0)) <|
 .prim .not (.vr 1) <|
 .ite (.vr 2) (
  .ret (bF (.pair aB (.pair aB .bool)) [(.nl 3 tI),(.nl 3 tI),(.cb false)])) (
  .call 1 (aJ (.pair aZ aI) 1 (.vr 0)) <|
  .prim .not (.vr 3) <|
  .ite (.vr 4) (
   .ret (bF (.pair aB (.pair aB .bool)) [(.nl 3 tI),(.nl 3 tI),(.cb false)])) (
   .prim (.llen 3 tI) (aJ (.pair aZ aI) 1 (.vr 0)) <|
   .prim (.cmp .neq .i64) (.mk2 tI tI (.vr 5) (aJ aZ 1 (.p1 aZ aI (.vr 0)))) <|
   .ite (.vr 6) (
    .ret (bF (.pair aB (.pair aB .bool)) [(.nl 3 tI),(.nl 3 tI),(.cb false)])) (
    .call 1 (aQ (.pair aZ aI) 2 (.vr 0)) <|
    .prim .not (.vr 7) <|
    .ite (.vr 8) (
     .ret (bF (.pair aB (.pair aB .bool)) [(.nl 3 tI),(.nl 3 tI),(.cb false)])) (
     .prim (.llen 3 tI) (aQ (.pair aZ aI) 2 (.vr 0)) <|
     .prim (.cmp .neq .i64) (.mk2 tI tI (.vr 9) (aJ aZ 2 (.p1 aZ aI (.vr 0)))) <|
     .ite (.vr 10) (
      .ret (bF (.pair aB (.pair aB .bool)) [(.nl 3 tI),(.nl 3 tI),(.cb false)])) (
      .prim (.cmp .eql .i64) (.mk2 tI tI (.p1 tI (.pair tI aD) (.p1 aZ aI (.vr 0))) (.ci .i64 2)) <|
      .ite (.vr 11) (
       .prim (.lapp 3 tI 8) (.mk2 aB aB (.nl 3 tI) (aQ (.pair aZ aI) 2 (.vr 0))) <|
       .prim (.lapp 3 tI 8) (.mk2 aB aB (.nl 3 tI) (aQ (.pair aZ aI) 2 (.vr 0))) <|
       .ret (bF (.pair aB (.pair aB .bool)) [(.vr 12),(.vr 13),(.cb false)])) (
       .prim (.cmp .eql .i64) (.mk2 tI tI (.p1 tI (.pair tI aD) (.p1 aZ aI (.vr 0))) (.ci .i64 3)) <|
       .ite (.vr 12) (
        .call 2 (aQ (.pair aZ aI) 1 (.vr 0)) <|
        .ret (bF (.pair aB (.pair aB .bool)) [(.vr 13),(.nl 3 tI),(.cb false)])) (
        .prim (.cmp .eql .i64) (.mk2 tI tI (.p1 tI (.pair tI aD) (.p1 aZ aI (.vr 0))) (.ci .i64 4)) <|
        .ite (.vr 13) (
         .prim (.lidx 3 tI) (.mk2 aB tI (aQ aZ 3 (.p1 aZ aI (.vr 0))) (.ci .i64 0)) <|
         .call 3 (.mk2 tI aB (.vr 14) (aQ (.pair aZ aI) 2 (.vr 0))) <|
         .call 4 (.mk2 aB aB (aQ (.pair aZ aI) 2 (.vr 0)) (aJ (.pair aZ aI) 1 (.vr 0))) <|
         .prim (.lit 3 tI 1) (.p1 tI .bool (.vr 16)) <|
         .ite (aQ (.pair aB .bool) 1 (.vr 15)) (
          .ret (bF (.pair aB (.pair aB .bool)) [(.p1 aB .bool (.vr 15)),(.vr 17),(.cb true)])) (
          .ret (bF (.pair aB (.pair aB .bool)) [(.p1 aB .bool (.vr 15)),(.vr 17),(aQ (.pair tI .bool) 1 (.vr 16))]))) (
         .call 5 (.p1 aZ aI (.vr 0)) <|
         .call 6 (.mk2 (.pair tI aD) aB (.vr 14) (aQ (.pair aZ aI) 2 (.vr 0))) <|
         .call 7 (.mk2 aB aB (aQ (.pair aZ aI) 2 (.vr 0)) (aJ (.pair aZ aI) 1 (.vr 0))) <|
         .prim (.cmp .eql .i64) (.mk2 tI tI (.p1 tI (.pair tI aD) (.p1 aZ aI (.vr 0))) (.ci .i64 1)) <|
         .ite (.vr 17) (
          .ite (aQ (.pair aB .bool) 1 (.vr 15)) (
           .ret (bF (.pair aB (.pair aB .bool)) [(.p1 aB .bool (.vr 15)),(aQ (.pair tI aD) 2 (.p1 (.pair tI aD) .bool (.vr 16))),(.cb true)])) (
           .ret (bF (.pair aB (.pair aB .bool)) [(.p1 aB .bool (.vr 15)),(aQ (.pair tI aD) 2 (.p1 (.pair tI aD) .bool (.vr 16))),(aQ (.pair (.pair tI aD) .bool) 1 (.vr 16))]))) (
          .call 8 (.mk2 aB aB (aQ (.pair aZ aI) 2 (.vr 0)) (.p1 aB .bool (.vr 15))) <|
          .ite (aQ (.pair aB .bool) 1 (.vr 15)) (
           .ret (bF (.pair aB (.pair aB .bool)) [(.p1 aB .bool (.vr 18)),(aQ (.pair tI aD) 2 (.p1 (.pair tI aD) .bool (.vr 16))),(.cb true)])) (
           .ite (aQ (.pair (.pair tI aD) .bool) 1 (.vr 16)) (
            .ret (bF (.pair aB (.pair aB .bool)) [(.p1 aB .bool (.vr 18)),(aQ (.pair tI aD) 2 (.p1 (.pair tI aD) .bool (.vr 16))),(.cb true)])) (
            .ret (bF (.pair aB (.pair aB .bool)) [(.p1 aB .bool (.vr 18)),(aQ (.pair tI aD) 2 (.p1 (.pair tI aD) .bool (.vr 16))),(aQ (.pair aB .bool) 1 (.vr 18))]))))))))))))
set_option maxRecDepth 100000 in
theorem aGY:bS Tryz.prog [jV,bJ,nR,hK,eK,lM,nV,tG,kF] jQ false 3000 ⟨[],[]⟩ = .ok qP:=by kernel_rfl
theorem aFO (x:iC × cN) (hx:okD (.pair aZ aI) x) (hp:(fun _=>True) x):qP.wp [jV,bJ,nR,hK,eK,lM,nV,tG,kF] [⟨(.pair aZ aI),x⟩] [] (fun v=>v.as (.pair aB (.pair aB .bool)) = (fun x=>gO x.1 x.2.1 x.2.2) x):=by
 obtain ⟨⟨kd,i,ou,P⟩,v,d⟩:=x
 delta qP jV bJ nR hK eK lM nV tG kF;refine eS ?_;try with_reducible exact True.intro
 simp only [Bool.not_eq_true',Bool.not_eq_false',aCN,aCX]
 refine ⟨fun h=>?_,fun h1=>⟨fun h=>?_,fun h2 _=>⟨fun h=>?_,fun h3=>⟨fun h=>?_,fun h5 _=>⟨fun h=>?_,fun h6=>?_⟩⟩⟩⟩⟩
 ·unfold gO;rw [if_pos (by rw [h];simp)]
 ·unfold gO eX;rw [if_pos (by rw [h];simp)]
 ·unfold gO;rw [if_pos (fun hh=>h ((bY _ _).1 hh.2.1).2)]
 ·unfold gO eX;rw [if_pos (by rw [h];simp)]
 ·unfold gO;rw [if_pos (fun hh=>h ((bY _ _).1 hh.2.2).2)]
 have h9:eX v i = true:=(bY _ _).2 ⟨h2,h3⟩
 have h10:eX d ou = true:=(bY _ _).2 ⟨h5,h6⟩
 have hd:=(cJ d).1 h5
 clear h2 h3 h5 h6
 have h4:=aE9 h1
 have hk:=((lC _).1 h1).1
 dsimp only at h4 hk
 rcases (show kd = 1∨kd = 2∨kd = 3∨kd = 4∨kd = 5 by omega) with rfl | rfl | rfl | rfl | rfl
 all_goals
  (refine gR ?_;try with_reducible exact True.intro)
  clear hk hx
  (repeat' first | intro _ | (with_reducible apply And.intro))
  all_goals first | omega | (unfold maxLen;omega) | exact absurd trivial (by assumption) | (unfold gO;rw [if_neg (by simp [h1,h9,h10]),if_neg (by simp),if_neg (by simp),if_pos rfl];first | exact Prod.ext rfl (Prod.ext rfl (gP (by assumption))) | exact Prod.ext rfl (Prod.ext rfl (kN (by assumption)))) | (simp [gO,h1,h9,h10, *];done)
theorem aHD:Con.Holds Tryz.prog jQ:=aT aY (aK aFL (aK fC (aK aMB (aK aBX (aK uS (aK aJ0 (aK aM5 (aK aXF (aK aG1 aU))))))))) aGY fun x hx hp=>aFO x hx hp
end Go.Proofs.YtmfpkkbhnmkfdaaGreat
