/- Mat3: lemmas. No conditions. -/
import Derived.Test.YtmfpkkbhnmkfdaaGreatLin2
namespace Go.Proofs.YtmfpkkbhnmkfdaaGreat
noncomputable section
set_option maxRecDepth 100000
open Go.ChangeShapes Go.WideShapes Go.ChangeAt Go.RowKit Go.Deep
set_option linter.unusedVariables false
set_option linter.unusedSimpArgs false
abbrev aAD:=Int × (Int × List Int)
def yH (m:aAD):Bool:=decide (1≤m.1∧m.1≤6∧1≤m.2.1∧m.2.1≤6∧(m.2.2.length:Int)=m.1 * m.2.1)&&m.2.2.all oL
theorem nA (m:aAD):yH m=true↔(1≤m.1∧m.1≤6∧1≤m.2.1∧m.2.1≤6∧(m.2.2.length:Int)=m.1 * m.2.1)∧m.2.2.all oL=true:=by unfold yH;simp only[Bool.and_eq_true,decide_eq_true_eq]
def aCD (m:aAD) (i:Nat):List Int:=(m.2.2.take ((i+1) * m.2.1.toNat)).drop (i * m.2.1.toNat)
def sD (m:aAD) (k:Nat):List Int:=mp m.1.toNat fun i=>m.2.2.getD (i * m.2.1.toNat+k) 0
def kQ (m:aAD) (x:List Int):List Int × Bool:=if yH m=true∧fB x m.2.1=true then (mp m.1.toNat fun r=>(gD (aCD m r) x).1,an m.1.toNat fun r=>(gD (aCD m r) x).2) else ([],false)
def iA (m:aAD) (d:List Int):List Int × Bool:=if yH m=true∧fB d m.1=true then (mp m.2.1.toNat fun k=>(gD (sD m k) d).1,an m.2.1.toNat fun k=>(gD (sD m k) d).2) else ([],false)
def bOS:aAD:=(0,0,[])
def qZ (f:Nat→List Int):Nat→List Int
 | 0=>[]
 | n+1=>qZ f n++f n
def rH (m:aAD):aAD:=if yH m=true then (m.2.1,m.1,qZ (sD m) m.2.1.toNat) else bOS
def zX (d x:List Int) (i:Nat):List Int:=mp x.length fun j=>(fS (d.getD i 0) (x.getD j 0)).1
def aLE (d x:List Int) (i:Nat):Bool:=an x.length fun j=>(fS (d.getD i 0) (x.getD j 0)).2
def rN (d x:List Int):aAD × Bool:=if iZ d=true∧iZ x=true then (((d.length:Int),(x.length:Int),qZ (zX d x) d.length),an d.length (aLE d x)) else (bOS,false)
def wX (o:eV):aAD:=(o.2.2.1,o.2.1,o.2.2.2)
def qF (o:eV) (x:List Int):List Int × Bool:=if ¬ (opB o=true∧fB x o.2.1=true) then ([],false) else
 if o.1=1 then kQ (wX o) x else if o.1=2 then lH dR x o.2.2.2 else if o.1=4 then sY (o.2.2.2.getD 0 0) x else
 if o.1=5 then ((lH dR x (kQ (wX o) x).1).1,(kQ (wX o) x).2 || (lH dR x (kQ (wX o) x).1).2) else (oE x,false)
def jB (o:eV) (x d:List Int):List Int × (List Int × Bool):=if ¬ (opB o=true∧fB x o.2.1=true∧fB d o.2.2.1=true) then ([],[],false) else
 if o.1=1 then ((iA (wX o) d).1,(rN d x).1.2.2,(iA (wX o) d).2 || (rN d x).2) else
 if o.1=2 then (d,d,false) else
 if o.1=4 then ((sY (o.2.2.2.getD 0 0) d).1,[(gD d x).1],(sY (o.2.2.2.getD 0 0) d).2 || (gD d x).2) else
 if o.1=5 then ((lH dR d (iA (wX o) d).1).1,(rN d x).1.2.2,(iA (wX o) d).2 || (lH dR d (iA (wX o) d).1).2 || (rN d x).2) else
 (oK x d,[],false)
theorem mK {m:aAD} (h:yH m=true):∃ (R C:Nat) (data:List Int),m=((R:Int),(C:Int),data)∧1≤R∧R≤6∧1≤C∧C≤6∧data.length=R * C∧R * C≤36∧data.all oL=true:=by
 obtain ⟨a,b,data⟩:=m
 obtain ⟨⟨h1,h2,h3,h4,h5⟩,h6⟩:=(nA _).1 h
 dsimp only at h1 h2 h3 h4 h5 h6
 refine ⟨a.toNat,b.toNat,data,?_,by omega,by omega,by omega,by omega,?_,Nat.le_trans (Nat.mul_le_mul (show a.toNat≤6 by omega) (show b.toNat≤6 by omega)) (by decide),h6⟩
 ·rw[Int.toNat_of_nonneg (by omega),Int.toNat_of_nonneg (by omega)]
 ·have:((a.toNat * b.toNat:Nat):Int)=a * b:=by rw[Int.natCast_mul,Int.toNat_of_nonneg (by omega),Int.toNat_of_nonneg (by omega)]
  omega
theorem aHX {R C k:Nat} (h:k<R):k * C+C≤R * C:=by
 have:=Nat.mul_le_mul_right C (show k+1≤R from h)
 rwa [Nat.succ_mul] at this
theorem aMG (R C k p:Nat) (data:List Int) (e:p=k * C):aCD ((R:Int),(C:Int),data) k=(data.take (p+C)).drop p:=by
 unfold aCD;simp only[Int.toNat_natCast,Nat.succ_mul,← e]
theorem tQ {f:Nat→List Int} {L:Nat} (h:∀ i,(f i).length=L):(n:Nat)→(qZ f n).length=n * L
 | 0=>by simp[qZ]
 | n+1=>by rw[qZ,List.length_append,tQ h n,h,Nat.succ_mul]
theorem aLI {f:Nat→List Int} {L:Nat} (h:∀ i,(f i).length=L) {k:Nat}:(n:Nat)→k<n→((qZ f n).take (k * L+L)).drop (k * L)=f k
 | 0,hk=>by omega
 | n+1,hk=>by
  have hl:=tQ h n
  rcases Nat.lt_or_eq_of_le (Nat.le_of_lt_succ hk) with h'|rfl
  ·have h1:=aHX (C:=L) h'
   rw[qZ,List.take_append_of_le_length (by omega)]
   exact aLI h n h'
  ·rw[qZ,List.take_of_length_le (by rw[List.length_append,hl,h];exact Nat.le_refl _),List.drop_append_of_le_length (by omega),List.drop_of_length_le (by omega),List.nil_append]
theorem aPD (m:aAD) (k:Nat):(sD m k).length=m.1.toNat:=eM _ _
theorem aUA {f:Nat→List Int} {x:Int}:(n:Nat)→x∈qZ f n→∃ k,k<n∧x∈f k
 | 0,h=>by simp[qZ] at h
 | n+1,h=>by
  rw[qZ,List.mem_append] at h
  rcases h with h|h
  ·obtain ⟨k,h1,h2⟩:=aUA n h;exact ⟨k,by omega,h2⟩
  ·exact ⟨n,by omega,h⟩
theorem bG6 {m:aAD} (h:yH m=true):yH (rH m)=true∧∀ k,k<m.2.1.toNat→aCD (rH m) k=sD m k:=by
 obtain ⟨R,C,data,rfl,h1,h2,h3,h4,h5,h6,h7⟩:=mK h
 have e:rH ((R:Int),(C:Int),data)=((C:Int),(R:Int),qZ (sD ((R:Int),(C:Int),data)) C):=if_pos h
 have hl:∀ i,(sD ((R:Int),(C:Int),data) i).length=R:=fun i=>aPD _ _
 constructor
 ·rw[e,nA]
  refine ⟨⟨?_,?_,?_,?_,?_⟩,?_⟩
  ·dsimp only;omega
  ·dsimp only;omega
  ·dsimp only;omega
  ·dsimp only;omega
  ·dsimp only;rw[tQ hl,Int.natCast_mul]
  ·rw[List.all_eq_true]
   intro x hx
   obtain ⟨k,hk,hx⟩:=aUA _ hx
   unfold sD mp at hx
   rw[List.mem_map] at hx
   obtain ⟨i,hi,rfl⟩:=hx
   rw[List.mem_range] at hi
   dsimp only [Int.toNat_natCast] at hi ⊢
   have hb:=aHX (C:=C) hi
   rw[aZ (show i * C+k<data.length by omega)]
   exact (List.all_eq_true.1 h7) _ (List.getElem_mem _)
 ·intro k hk
  rw[e,aMG C R k (k * R) _ rfl]
  exact aLI hl C hk
theorem bM5 {m:aAD} {d:List Int} (h:yH m=true) (h2:fB d m.1=true):kQ (rH m) d=iA m d:=by
 obtain ⟨t1,t2⟩:=bG6 h
 have e1:(rH m).2.1=m.1:=by unfold rH;rw[if_pos h]
 have e2:(rH m).1=m.2.1:=by unfold rH;rw[if_pos h]
 unfold kQ iA
 rw[if_pos ⟨t1,by rw[e1];exact h2⟩,if_pos ⟨h,h2⟩,e2]
 exact Prod.ext (bMN fun i hi=>by rw[t2 i hi]) (bMP fun i hi=>by rw[t2 i hi])
theorem aJD {o:eV} (h:opB o=true) (h4:o.1=4):o.2.2.2.length=1:=by
 have:=((lE o).1 h).1
 have e:=aKS (o:=o) (by omega)
 omega
def jZ:Con:=⟨329,(.bP9 tI aF),.bool,[.val ⟨true,(.bP9 tI aF),[]⟩],[⟨false,.bool,[0]⟩],false,none,
 ((fun _=>True):(Int × cM)→Prop),
 ((fun x=>yH x):(Int × cM)→(Bool))⟩
def aH5:T :=
 .bPA (.cmp .lss .i64) (.bPB tI tI (.p1 tI aF (.Z 0)) (.ci .i64 1)) <|
 .ite (.Z 1) (
  .ret (.cb false)) (
  .bPA (.cmp .gtr .i64) (.bPB tI tI (.p1 tI aF (.Z 0)) (.ci .i64 6)) <|
  .ite (.Z 2) (
   .ret (.cb false)) (
   .bPA (.cmp .lss .i64) (.bPB tI tI (aK (.bP9 tI aF) 1 (.Z 0)) (.ci .i64 1)) <|
   .ite (.Z 3) (
    .ret (.cb false)) (
    .bPA (.cmp .gtr .i64) (.bPB tI tI (aK (.bP9 tI aF) 1 (.Z 0)) (.ci .i64 6)) <|
    .ite (.Z 4) (
     .ret (.cb false)) (
     .bPA (.bPD 3 tI) (aQ (.bP9 tI aF) 2 (.Z 0)) <|
     .bPA (.ar .mul .i64) (.bPB tI tI (.p1 tI aF (.Z 0)) (aK (.bP9 tI aF) 1 (.Z 0))) <|
     .bPA (.cmp .eql .i64) (.bPB tI tI (.Z 5) (.Z 6)) <|
     .ite (.Z 7) (
      .call 0 (aQ (.bP9 tI aF) 2 (.Z 0)) <|
      .ret (.Z 8)) (
      .ret (.cb false))))))
theorem bED:bN Tryz.prog [iT] jZ false 3000 ⟨[],[]⟩ = .ok aH5:=by kernel_rfl
theorem bGH (x:Int × cM) (hx:okD (.bP9 tI aF) x) (hp:(fun _=>True) x):aH5.wp [iT] [⟨(.bP9 tI aF),x⟩] [] (fun v=>v.as .bool=(fun x=>yH x) x):=by
 delta aH5 iT;refine dD ?_
 (refine dM ?_;try with_reducible exact True.intro)
 (repeat' first|intro _|(with_reducible apply And.intro))
 all_goals first|(first|(refine (Bool.eq_false_iff.2 ?_).symm;rw[ne_eq,nA];intro hh;omega)|(refine (nA.2 ?_).symm;omega))|(have:=aWF (a:=x.1) (b:=x.2.1) (by omega) (by omega) (by omega) (by omega);omega)|(rw[Bool.eq_iff_iff,nA];exact ⟨fun h=>⟨⟨by omega,by omega,by omega,by omega,by assumption⟩,h⟩,fun h=>h.2⟩)
theorem aHF:Con.Holds Tryz.prog jZ:=aS aV (aH aFH aT) bED bGH
def lN:Con:=⟨315,(.bP9 (.bP9 tI aF) aB),(.bP9 aB .bool),[.val ⟨true,(.bP9 tI aF),[]⟩,.val ⟨false,aB,[]⟩],[⟨false,aB,[2]⟩,⟨false,.bool,[0]⟩],false,none,
 ((fun _=>True):((Int × cM) × cF)→Prop),
 ((fun x=>kQ x.1 x.2):((Int × cM) × cF)→(cF × Bool))⟩
def aES:T:=.call 0 (.p1 (.bP9 tI aF) aB (.Z 0)) <|
 .bPA .not (.Z 1) <|
 .ite (.Z 2) (
  .ret (.bPB aB .bool (.nl 3 tI) (.cb false))) (
  .call 1 (.bPB aB tI (aQ (.bP9 (.bP9 tI aF) aB) 1 (.Z 0)) (aK (.bP9 tI aF) 1 (.p1 (.bP9 tI aF) aB (.Z 0)))) <|
  .bPA .not (.Z 3) <|
  .ite (.Z 4) (
   .ret (.bPB aB .bool (.nl 3 tI) (.cb false))) (
   .loop (.bP9 tI (.bP9 .bool aB)) (bG (.bP9 tI (.bP9 .bool aB)) [(.ci .i64 0),(.cb false),(.nl 3 tI)]) <|
    .bPA (.cmp .lss .i64) (.bPB tI tI (.p1 tI (.bP9 .bool aB) (.Z 5)) (.p1 tI aF (.p1 (.bP9 tI aF) aB (.Z 0)))) <|
    .ite (.Z 6) (
     .bPA (.ar .mul .i64) (.bPB tI tI (.p1 tI (.bP9 .bool aB) (.Z 5)) (aK (.bP9 tI aF) 1 (.p1 (.bP9 tI aF) aB (.Z 0)))) <|
     .bPA (.ar .add .i64) (.bPB tI tI (.p1 tI (.bP9 .bool aB) (.Z 5)) (.ci .i64 1)) <|
     .bPA (.ar .mul .i64) (.bPB tI tI (.Z 8) (aK (.bP9 tI aF) 1 (.p1 (.bP9 tI aF) aB (.Z 0)))) <|
     .bPA (.bPF 3 tI) (bG (.bP9 aB aP) [(aQ (.bP9 tI aF) 2 (.p1 (.bP9 tI aF) aB (.Z 0))),(.Z 7),(.Z 9)]) <|
     .call 2 (.bPB aB aB (.Z 10) (aQ (.bP9 (.bP9 tI aF) aB) 1 (.Z 0))) <|
     .bPA (.lit 3 tI 1) (.p1 tI .bool (.Z 11)) <|
     .bPA (.bPG 3 tI 8) (.bPB aB aB (aQ (.bP9 tI (.bP9 .bool aB)) 2 (.Z 5)) (.Z 12)) <|
     .ite (aK (.bP9 tI (.bP9 .bool aB)) 1 (.Z 5)) (
      .bPA (.ar .add .i64) (.bPB tI tI (.p1 tI (.bP9 .bool aB) (.Z 5)) (.ci .i64 1)) <|
      .bPC 0 (bG (.bP9 tI (.bP9 .bool aB)) [(.Z 14),(.cb true),(.Z 13)])) (
      .bPA (.ar .add .i64) (.bPB tI tI (.p1 tI (.bP9 .bool aB) (.Z 5)) (.ci .i64 1)) <|
      .bPC 0 (bG (.bP9 tI (.bP9 .bool aB)) [(.Z 14),(aQ (.bP9 tI .bool) 1 (.Z 11)),(.Z 13)]))) (
     .ret (.bPB aB .bool (aQ (.bP9 tI (.bP9 .bool aB)) 2 (.Z 5)) (aK (.bP9 tI (.bP9 .bool aB)) 1 (.Z 5))))))
theorem bBI:bN Tryz.prog [jZ,cA,iU] lN false 3000 ⟨[(2984,4005,iL 21 11++[.dr 0,.tm 8 0,.tm 7 0,.on 6,.sl 2])],[]⟩ = .ok aES:=by kernel_rfl
theorem bAV (x:(Int × cM) × cF) (hx:okD (.bP9 (.bP9 tI aF) aB) x) (hp:(fun _=>True) x):aES.wp [jZ,cA,iU] [⟨(.bP9 (.bP9 tI aF) aB),x⟩] [] (fun v=>v.as (.bP9 aB .bool)=(fun x=>kQ x.1 x.2) x):=by
 obtain ⟨m,v⟩:=x
 delta aES jZ cA iU;refine dD ?_
 simp only[Bool.not_eq_true',Bool.not_eq_false']
 refine ⟨fun h=>?_,fun h1=>⟨fun h=>?_,fun h2=>?_⟩⟩
 ·unfold kQ;rw[if_neg (by rw[h];simp)]
 ·unfold kQ;rw[if_neg (by rw[h];simp)]
 rw[show kQ m v=_ from if_pos ⟨h1,h2⟩]
 obtain ⟨R,C,data,rfl,g1,g2,g3,g4,g5,g6,g7⟩:=mK h1
 refine cJ (fun k=>((k:Int),an k (fun r=>(gD (aCD ((R:Int),(C:Int),data) r) v).2),mp k fun r=>(gD (aCD ((R:Int),(C:Int),data) r) v).1)) R rfl fun I μ k hk _ go=>?_
 dsimp only
 obtain ⟨p,e0⟩:∃ p,p=k * C:=⟨_,rfl⟩
 have e1:(k:Int) * (C:Int)=(p:Int):=by rw[e0];exact (Int.natCast_mul k C).symm
 have e2:((k:Int)+1) * (C:Int)=((p+C:Nat):Int):=by rw[Int.add_mul,e1,Int.one_mul];rfl
 have e4:k<R→p+C≤data.length:=fun h=>by rw[e0,g5];exact aHX h
 simp only[e1,e2,mP,eM,← aMG R C k p data e0]
 (repeat' first|intro _|(refine go _ ?_ ?_ ?_)|(refine go _ ?_ ?_)|(with_reducible apply And.intro))
 all_goals first|omega|(unfold maxLen;omega)|(rw[fN,mN];first|exact Prod.ext rfl (Prod.ext (jC (by assumption)) rfl)|exact Prod.ext rfl (Prod.ext (mR (by assumption)) rfl))|(have e:k=R:=(by omega);subst e;rfl)
theorem aMU:Con.Holds Tryz.prog lN:=aS aV (aH aHF (aH kB (aH aFI aT))) bBI bAV
def nC:Con:=⟨331,(.bP9 tI aF),(.bP9 tI aF),[.val ⟨true,(.bP9 tI aF),[]⟩],[⟨true,(.bP9 tI aF),[0,0,2]⟩],false,none,
 ((fun _=>True):(Int × cM)→Prop),
 ((fun x=>rH x):(Int × cM)→(Int × cM))⟩
def vU:T:=.call 0 (.Z 0) <|
 .bPA .not (.Z 1) <|
 .ite (.Z 2) (
  .ret (bG (.bP9 tI aF) [(.ci .i64 0),(.ci .i64 0),(.nl 3 tI)])) (
  .loop aF (.bPB tI aB (.ci .i64 0) (.nl 3 tI)) <|
   .bPA (.cmp .lss .i64) (.bPB tI tI (.p1 tI aB (.Z 3)) (aK (.bP9 tI aF) 1 (.Z 0))) <|
   .ite (.Z 4) (
    .loop aF (.bPB tI aB (.ci .i64 0) (aQ aF 1 (.Z 3))) <|
     .bPA (.cmp .lss .i64) (.bPB tI tI (.p1 tI aB (.Z 5)) (.p1 tI aF (.Z 0))) <|
     .ite (.Z 6) (
      .bPA (.ar .mul .i64) (.bPB tI tI (.p1 tI aB (.Z 5)) (aK (.bP9 tI aF) 1 (.Z 0))) <|
      .bPA (.ar .add .i64) (.bPB tI tI (.Z 7) (.p1 tI aB (.Z 3))) <|
      .bPA (.bPE 3 tI) (.bPB aB tI (aQ (.bP9 tI aF) 2 (.Z 0)) (.Z 8)) <|
      .bPA (.lit 3 tI 1) (.Z 9) <|
      .bPA (.bPG 3 tI 8) (.bPB aB aB (aQ aF 1 (.Z 5)) (.Z 10)) <|
      .bPA (.ar .add .i64) (.bPB tI tI (.p1 tI aB (.Z 5)) (.ci .i64 1)) <|
      .bPC 0 (.bPB tI aB (.Z 12) (.Z 11))) (
      .bPA (.ar .add .i64) (.bPB tI tI (.p1 tI aB (.Z 3)) (.ci .i64 1)) <|
      .bPC 1 (.bPB tI aB (.Z 7) (aQ aF 1 (.Z 5))))) (
    .ret (bG (.bP9 tI aF) [(aK (.bP9 tI aF) 1 (.Z 0)),(.p1 tI aF (.Z 0)),(aQ aF 1 (.Z 3))])))
theorem aO9:bN Tryz.prog [jZ] nC false 3000 ⟨[(2986,2003,iL 14 10++iL 8 6++[.dr 0,.tm 4 0,.sl 6]),(2975,6005,[.tm 5 0,.sl 6])],[]⟩ = .ok vU:=by kernel_rfl
theorem aNZ (x:Int × cM) (hx:okD (.bP9 tI aF) x) (hp:(fun _=>True) x):vU.wp [jZ] [⟨(.bP9 tI aF),x⟩] [] (fun v=>v.as (.bP9 tI aF)=(fun x=>rH x) x):=by
 obtain ⟨m,rfl⟩:∃ m,m=x:=⟨_,rfl⟩
 delta vU jZ;refine dD ?_
 simp only[Bool.not_eq_true',Bool.not_eq_false']
 refine ⟨fun h=>?_,fun h1=>?_⟩
 ·unfold rH;rw[if_neg (by rw[h];exact Bool.false_ne_true)];rfl
 rw[show rH m=_ from if_pos h1]
 obtain ⟨R,C,data,rfl,g1,g2,g3,g4,g5,g6,g7⟩:=mK h1
 refine cJ (fun c=>((c:Int),qZ (sD ((R:Int),(C:Int),data)) c)) C rfl fun I μ c hc _ go=>?_
 dsimp only
 refine dM ?_
 have hl:(qZ (sD ((R:Int),(C:Int),data)) c).length=c * R:=tQ (fun i=>aPD _ _) c
 have hq:c * R≤36:=Nat.le_trans (Nat.mul_le_mul hc g2) (by omega)
 generalize hD:qZ (sD ((R:Int),(C:Int),data)) c=D at *
 constructor
 ·intro hlt
  refine cJ (fun r=>((r:Int),D++mp r fun i=>data.getD (i * C+c) 0)) R (by simp[aQP]) fun I2 μ2 k hk _ go2=>?_
  dsimp only
  obtain ⟨p,e0⟩:∃ p,p=k * C:=⟨_,rfl⟩
  have e1:(k:Int) * (C:Int)=(p:Int):=by rw[e0];exact (Int.natCast_mul k C).symm
  have e2:(p:Int)+(c:Int)=((p+c:Nat):Int):=rfl
  have e4:k<R→p+C≤data.length:=fun h=>by rw[e0,g5];exact aHX h
  simp only[e1,e2,mP,eM]
  (repeat' first|intro _|(refine go2 _ ?_ ?_ ?_)|(refine go2 _ ?_ ?_)|(refine go _ ?_ ?_ ?_)|(refine go _ ?_ ?_)|(with_reducible apply And.intro))
  all_goals first|omega|(unfold maxLen;omega)|(rw[fN,← List.append_assoc,← e0];rfl)|(have e:k=R:=(by omega);subst e;rw[qZ,hD];rfl)
 ·intro hge
  have e:c=C:=by omega
  subst e
  rw[← hD]
theorem aOU:Con.Holds Tryz.prog nC:=aS aV (aH aHF aT) aO9 aNZ
def pW:Con:=⟨321,(.bP9 (.bP9 tI aF) aB),(.bP9 aB .bool),[.val ⟨true,(.bP9 tI aF),[]⟩,.val ⟨false,aB,[]⟩],[⟨false,aB,[2]⟩,⟨false,.bool,[0]⟩],false,none,
 ((fun _=>True):((Int × cM) × cF)→Prop),
 ((fun x=>iA x.1 x.2):((Int × cM) × cF)→(cF × Bool))⟩
def aB9:T:=.call 0 (.p1 (.bP9 tI aF) aB (.Z 0)) <|
 .bPA .not (.Z 1) <|
 .ite (.Z 2) (
  .ret (.bPB aB .bool (.nl 3 tI) (.cb false))) (
  .call 1 (.bPB aB tI (aQ (.bP9 (.bP9 tI aF) aB) 1 (.Z 0)) (.p1 tI aF (.p1 (.bP9 tI aF) aB (.Z 0)))) <|
  .bPA .not (.Z 3) <|
  .ite (.Z 4) (
   .ret (.bPB aB .bool (.nl 3 tI) (.cb false))) (
   .call 2 (.p1 (.bP9 tI aF) aB (.Z 0)) <|
   .call 3 (.bPB (.bP9 tI aF) aB (.Z 5) (aQ (.bP9 (.bP9 tI aF) aB) 1 (.Z 0))) <|
   .ret (.Z 6)))
theorem aV4:bN Tryz.prog [jZ,cA,nC,lN] pW false 3000 ⟨[],[]⟩ = .ok aB9:=by kernel_rfl
theorem aXE (x:(Int × cM) × cF) (hx:okD (.bP9 (.bP9 tI aF) aB) x) (hp:(fun _=>True) x):aB9.wp [jZ,cA,nC,lN] [⟨(.bP9 (.bP9 tI aF) aB),x⟩] [] (fun v=>v.as (.bP9 aB .bool)=(fun x=>iA x.1 x.2) x):=by
 obtain ⟨m,d⟩:=x
 delta aB9 jZ cA nC lN;refine dD ?_
 simp only[Bool.not_eq_true',Bool.not_eq_false']
 refine ⟨fun h=>?_,fun h1=>⟨fun h=>?_,fun h2 _ _=>bM5 h1 h2⟩⟩
 ·unfold iA;rw[if_neg (by rw[h];simp)]
 ·unfold iA;rw[if_neg (by rw[h];simp)]
theorem aWM:Con.Holds Tryz.prog pW:=aS aV (aH aHF (aH kB (aH aOU (aH aMU aT)))) aV4 aXE
def xJ:Con:=⟨322,aI,(.bP9 (.bP9 tI aF) .bool),[.val ⟨false,aB,[]⟩,.val ⟨false,aB,[]⟩],[⟨true,(.bP9 tI aF),[0,0,2]⟩,⟨false,.bool,[0]⟩],false,none,
 ((fun _=>True):(bP)→Prop),
 ((fun x=>rN x.1 x.2):(bP)→((Int × cM) × Bool))⟩
def aI3:T:=.call 0 (.p1 aB aB (.Z 0)) <|
 .bPA .not (.Z 1) <|
 .ite (.Z 2) (
  .ret (.bPB (.bP9 tI aF) .bool (bG (.bP9 tI aF) [(.ci .i64 0),(.ci .i64 0),(.nl 3 tI)]) (.cb false))) (
  .call 0 (aQ aI 1 (.Z 0)) <|
  .bPA .not (.Z 3) <|
  .ite (.Z 4) (
   .ret (.bPB (.bP9 tI aF) .bool (bG (.bP9 tI aF) [(.ci .i64 0),(.ci .i64 0),(.nl 3 tI)]) (.cb false))) (
   .bPA (.bPD 3 tI) (.p1 aB aB (.Z 0)) <|
   .bPA (.bPD 3 tI) (aQ aI 1 (.Z 0)) <|
   .bPA (.bPD 3 tI) (.p1 aB aB (.Z 0)) <|
   .loop (.bP9 tI (.bP9 .bool aB)) (bG (.bP9 tI (.bP9 .bool aB)) [(.ci .i64 0),(.cb false),(.nl 3 tI)]) <|
    .bPA (.cmp .lss .i64) (.bPB tI tI (.p1 tI (.bP9 .bool aB) (.Z 8)) (.Z 7)) <|
    .ite (.Z 9) (
     .bPA (.bPE 3 tI) (.bPB aB tI (.p1 aB aB (.Z 0)) (.p1 tI (.bP9 .bool aB) (.Z 8))) <|
     .bPA (.bPD 3 tI) (aQ aI 1 (.Z 0)) <|
     .loop (.bP9 tI (.bP9 .bool aB)) (.bPB tI (.bP9 .bool aB) (.ci .i64 0) (aQ (.bP9 tI (.bP9 .bool aB)) 1 (.Z 8))) <|
      .bPA (.cmp .lss .i64) (.bPB tI tI (.p1 tI (.bP9 .bool aB) (.Z 12)) (.Z 11)) <|
      .ite (.Z 13) (
       .bPA (.bPE 3 tI) (.bPB aB tI (aQ aI 1 (.Z 0)) (.p1 tI (.bP9 .bool aB) (.Z 12))) <|
       .call 1 (.bPB tI tI (.Z 10) (.Z 14)) <|
       .bPA (.lit 3 tI 1) (.p1 tI .bool (.Z 15)) <|
       .bPA (.bPG 3 tI 8) (.bPB aB aB (aQ (.bP9 tI (.bP9 .bool aB)) 2 (.Z 12)) (.Z 16)) <|
       .ite (aK (.bP9 tI (.bP9 .bool aB)) 1 (.Z 12)) (
        .bPA (.ar .add .i64) (.bPB tI tI (.p1 tI (.bP9 .bool aB) (.Z 12)) (.ci .i64 1)) <|
        .bPC 0 (bG (.bP9 tI (.bP9 .bool aB)) [(.Z 18),(.cb true),(.Z 17)])) (
        .bPA (.ar .add .i64) (.bPB tI tI (.p1 tI (.bP9 .bool aB) (.Z 12)) (.ci .i64 1)) <|
        .bPC 0 (bG (.bP9 tI (.bP9 .bool aB)) [(.Z 18),(aQ (.bP9 tI .bool) 1 (.Z 15)),(.Z 17)]))) (
       .bPA (.ar .add .i64) (.bPB tI tI (.p1 tI (.bP9 .bool aB) (.Z 8)) (.ci .i64 1)) <|
       .bPC 1 (.bPB tI (.bP9 .bool aB) (.Z 14) (aQ (.bP9 tI (.bP9 .bool aB)) 1 (.Z 12))))) (
     .ret (.bPB (.bP9 tI aF) .bool (bG (.bP9 tI aF) [(.Z 5),(.Z 6),(aQ (.bP9 tI (.bP9 .bool aB)) 2 (.Z 8))]) (aK (.bP9 tI (.bP9 .bool aB)) 1 (.Z 8))))))
theorem bGN:bN Tryz.prog [dF,iW] xJ false 3000 ⟨[(2984,4008,iL 27 23++iL 21 14++[.dr 0,.tm 30 0,.tm 7 0,.sl 5]),(2971,12012,[.tm 36 0,.tm 7 0,.sl 5])],[]⟩ = .ok aI3:=by kernel_rfl
theorem bFV (x:bP) (hx:okD aI x) (hp:(fun _=>True) x):aI3.wp [dF,iW] [⟨aI,x⟩] [] (fun v=>v.as (.bP9 (.bP9 tI aF) .bool)=(fun x=>rN x.1 x.2) x):=by
 obtain ⟨d,v⟩:=x
 delta aI3 dF iW;refine dD ?_
 simp only[Bool.not_eq_true',Bool.not_eq_false']
 refine ⟨fun h=>?_,fun h1=>⟨fun h=>?_,fun h2 _ _ _=>?_⟩⟩
 ·unfold rN;rw[if_neg (by rw[h];simp)];rfl
 ·unfold rN;rw[if_neg (by rw[h];simp)];rfl
 rw[show rN d v=_ from if_pos ⟨h1,h2⟩]
 have hd:=(cT d).1 h1
 have hv:=(cT v).1 h2
 refine cJ (fun i=>((i:Int),an i (aLE d v),qZ (zX d v) i)) d.length rfl fun I μ i hi _ go=>?_
 dsimp only
 refine dM ?_
 have hl:(qZ (zX d v) i).length=i * v.length:=tQ (fun i=>eM _ _) i
 have hq:i * v.length≤36:=Nat.le_trans (Nat.mul_le_mul hi (show v.length≤6 by omega)) (by omega)
 generalize hD:qZ (zX d v) i=D at *
 generalize hA:an i (aLE d v)=A at *
 constructor
 ·intro hlt
  refine ⟨by omega,fun _ _=>?_⟩
  refine cJ (fun j=>((j:Int),A || an j (fun j=>(fS (d.getD i 0) (v.getD j 0)).2),D++mp j fun j=>(fS (d.getD i 0) (v.getD j 0)).1)) v.length (by simp[aQP,bD2]) fun I2 μ2 j hj _ go2=>?_
  dsimp only
  simp only[mP,eM]
  have ea:(A || an (j+1) (fun j=>(fS (d.getD i 0) (v.getD j 0)).2))=((A || an j (fun j=>(fS (d.getD i 0) (v.getD j 0)).2)) || (fS (d.getD i 0) (v.getD j 0)).2):=by rw[mN,Bool.or_assoc]
  (repeat' first|intro _|(refine go2 _ ?_ ?_ ?_)|(refine go2 _ ?_ ?_)|(refine go _ ?_ ?_ ?_)|(refine go _ ?_ ?_)|(with_reducible apply And.intro))
  all_goals first|omega|(unfold maxLen;omega)|(rw[fN,← List.append_assoc,ea];first|exact Prod.ext rfl (Prod.ext (jC (by assumption)) rfl)|exact Prod.ext rfl (Prod.ext (mR (by assumption)) rfl))|(have e:j=v.length:=(by omega);subst e;rw[qZ,hD,mN,hA];rfl)
 ·intro hge
  have e:i=d.length:=by omega
  subst e
  rw[← hD,← hA]
theorem bF8:Con.Holds Tryz.prog xJ:=aS aV (aH pJ (aH aE7 aT)) bGN bFV
def nT:Con:=⟨316,bD,(.bP9 tI aF),[.val ⟨true,bD,[]⟩],[⟨true,(.bP9 tI aF),[0,0,0]⟩],true,none,
 ((fun _=>True):(eV)→Prop),
 ((fun x=>wX x):(eV)→(Int × cM))⟩
def aIE:T:=.ret (bG (.bP9 tI aF) [(aK bD 2 (.Z 0)),(aK bD 1 (.Z 0)),(aQ bD 3 (.Z 0))])
theorem bG9:bN Tryz.prog [] nT false 3000 ⟨[],[]⟩ = .ok aIE:=by kernel_rfl
theorem bFC (x:eV) (hx:okD bD x) (hp:(fun _=>True) x):aIE.wp [] [⟨bD,x⟩] [] (fun v=>v.as (.bP9 tI aF)=(fun x=>wX x) x):=by
 delta aIE;refine dD ?_;try with_reducible exact True.intro
 rfl
theorem aPL:Con.Holds Tryz.prog nT:=aS aV aT bG9 bFC
def nF:Con:=⟨284,(.bP9 bD aB),(.bP9 aB .bool),[.val ⟨true,bD,[]⟩,.val ⟨false,aB,[]⟩],[⟨false,aB,[2]⟩,⟨false,.bool,[0]⟩],false,none,
 ((fun _=>True):(eV × cF)→Prop),
 ((fun x=>qF x.1 x.2):(eV × cF)→(cF × Bool))⟩
def wK:T:=.call 0 (.p1 bD aB (.Z 0)) <|
 .bPA .not (.Z 1) <|
 .ite (.Z 2) (
  .ret (.bPB aB .bool (.nl 3 tI) (.cb false))) (
  .call 1 (.bPB aB tI (aQ (.bP9 bD aB) 1 (.Z 0)) (aK bD 1 (.p1 bD aB (.Z 0)))) <|
  .bPA .not (.Z 3) <|
  .ite (.Z 4) (
   .ret (.bPB aB .bool (.nl 3 tI) (.cb false))) (
   .bPA (.cmp .eql .i64) (.bPB tI tI (.p1 tI (.bP9 tI aF) (.p1 bD aB (.Z 0))) (.ci .i64 1)) <|
   .ite (.Z 5) (
    .call 2 (.p1 bD aB (.Z 0)) <|
    .call 3 (.bPB (.bP9 tI aF) aB (.Z 6) (aQ (.bP9 bD aB) 1 (.Z 0))) <|
    .ret (.Z 7)) (
    .bPA (.cmp .eql .i64) (.bPB tI tI (.p1 tI (.bP9 tI aF) (.p1 bD aB (.Z 0))) (.ci .i64 2)) <|
    .ite (.Z 6) (
     .call 4 (.bPB aB aB (aQ (.bP9 bD aB) 1 (.Z 0)) (aQ bD 3 (.p1 bD aB (.Z 0)))) <|
     .ret (.Z 7)) (
     .bPA (.cmp .eql .i64) (.bPB tI tI (.p1 tI (.bP9 tI aF) (.p1 bD aB (.Z 0))) (.ci .i64 4)) <|
     .ite (.Z 7) (
      .bPA (.bPE 3 tI) (.bPB aB tI (aQ bD 3 (.p1 bD aB (.Z 0))) (.ci .i64 0)) <|
      .call 5 (.bPB tI aB (.Z 8) (aQ (.bP9 bD aB) 1 (.Z 0))) <|
      .ret (.Z 9)) (
      .bPA (.cmp .eql .i64) (.bPB tI tI (.p1 tI (.bP9 tI aF) (.p1 bD aB (.Z 0))) (.ci .i64 5)) <|
      .ite (.Z 8) (
       .call 2 (.p1 bD aB (.Z 0)) <|
       .call 3 (.bPB (.bP9 tI aF) aB (.Z 9) (aQ (.bP9 bD aB) 1 (.Z 0))) <|
       .call 4 (.bPB aB aB (aQ (.bP9 bD aB) 1 (.Z 0)) (.p1 aB .bool (.Z 10))) <|
       .ite (aQ (.bP9 aB .bool) 1 (.Z 10)) (
        .ret (.bPB aB .bool (.p1 aB .bool (.Z 11)) (.cb true))) (
        .ret (.Z 11))) (
       .call 6 (aQ (.bP9 bD aB) 1 (.Z 0)) <|
       .ret (.bPB aB .bool (.Z 9) (.cb false))))))))
theorem aNV:bN Tryz.prog [lM,cA,nT,lN,lX,jH,qQ] nF false 3000 ⟨[],[]⟩ = .ok wK:=by kernel_rfl
theorem aO5 (x:eV × cF) (hx:okD (.bP9 bD aB) x) (hp:(fun _=>True) x):wK.wp [lM,cA,nT,lN,lX,jH,qQ] [⟨(.bP9 bD aB),x⟩] [] (fun v=>v.as (.bP9 aB .bool)=(fun x=>qF x.1 x.2) x):=by
 obtain ⟨⟨kd,i,ou,P⟩,v⟩:=x
 delta wK lM cA nT lN lX jH qQ;refine dD ?_
 simp only[Bool.not_eq_true',Bool.not_eq_false']
 refine ⟨fun h=>?_,fun h1=>⟨fun h=>?_,fun h2=>?_⟩⟩
 ·unfold qF;rw[if_pos (by rw[h];simp)]
 ·unfold qF;rw[if_pos (by rw[h];simp)]
 have h4:=aJD h1
 have hk:=((lE _).1 h1).1
 dsimp only at h4 hk
 (refine dM ?_;try with_reducible exact True.intro)
 (repeat' first|intro _|(with_reducible apply And.intro))
 all_goals first|omega|(obtain rfl:kd=3:=(by omega);simp[qF,h1,h2];done)|(simp_all[qF];done)
theorem aNS:Con.Holds Tryz.prog nF:=aS aV (aH aN7 (aH kB (aH aPL (aH aMU (aH aMI (aH aGB (aH aWC aT))))))) aNV aO5
def lP:Con:=⟨290,(.bP9 bD aI),(.bP9 aB (.bP9 aB .bool)),[.val ⟨true,bD,[]⟩,.val ⟨false,aB,[]⟩,.val ⟨false,aB,[]⟩],[⟨false,aB,[2]⟩,⟨false,aB,[2]⟩,⟨false,.bool,[0]⟩],false,none,
 ((fun _=>True):(eV × bP)→Prop),
 ((fun x=>jB x.1 x.2.1 x.2.2):(eV × bP)→(cF × (cF × Bool)))⟩
def sQ:T:=.call 0 (.p1 bD aI (.Z 0)) <|
 .bPA .not (.Z 1) <|
 .ite (.Z 2) (
  .ret (bG (.bP9 aB (.bP9 aB .bool)) [(.nl 3 tI),(.nl 3 tI),(.cb false)])) (
  .call 1 (.bPB aB tI (aK (.bP9 bD aI) 1 (.Z 0)) (aK bD 1 (.p1 bD aI (.Z 0)))) <|
  .bPA .not (.Z 3) <|
  .ite (.Z 4) (
   .ret (bG (.bP9 aB (.bP9 aB .bool)) [(.nl 3 tI),(.nl 3 tI),(.cb false)])) (
   .call 1 (.bPB aB tI (aQ (.bP9 bD aI) 2 (.Z 0)) (aK bD 2 (.p1 bD aI (.Z 0)))) <|
   .bPA .not (.Z 5) <|
   .ite (.Z 6) (
    .ret (bG (.bP9 aB (.bP9 aB .bool)) [(.nl 3 tI),(.nl 3 tI),(.cb false)])) (
    .bPA (.cmp .eql .i64) (.bPB tI tI (.p1 tI (.bP9 tI aF) (.p1 bD aI (.Z 0))) (.ci .i64 1)) <|
    .ite (.Z 7) (
     .call 2 (.p1 bD aI (.Z 0)) <|
     .call 3 (.bPB (.bP9 tI aF) aB (.Z 8) (aQ (.bP9 bD aI) 2 (.Z 0))) <|
     .call 4 (.bPB aB aB (aQ (.bP9 bD aI) 2 (.Z 0)) (aK (.bP9 bD aI) 1 (.Z 0))) <|
     .ite (aQ (.bP9 aB .bool) 1 (.Z 9)) (
      .ret (bG (.bP9 aB (.bP9 aB .bool)) [(.p1 aB .bool (.Z 9)),(aQ (.bP9 tI aF) 2 (.p1 (.bP9 tI aF) .bool (.Z 10))),(.cb true)])) (
      .ret (bG (.bP9 aB (.bP9 aB .bool)) [(.p1 aB .bool (.Z 9)),(aQ (.bP9 tI aF) 2 (.p1 (.bP9 tI aF) .bool (.Z 10))),(aQ (.bP9 (.bP9 tI aF) .bool) 1 (.Z 10))]))) (
     .bPA (.cmp .eql .i64) (.bPB tI tI (.p1 tI (.bP9 tI aF) (.p1 bD aI (.Z 0))) (.ci .i64 2)) <|
     .ite (.Z 8) (
      .call 5 (aQ (.bP9 bD aI) 2 (.Z 0)) <|
      .call 5 (aQ (.bP9 bD aI) 2 (.Z 0)) <|
      .ret (bG (.bP9 aB (.bP9 aB .bool)) [(.Z 9),(.Z 10),(.cb false)])) (
      .bPA (.cmp .eql .i64) (.bPB tI tI (.p1 tI (.bP9 tI aF) (.p1 bD aI (.Z 0))) (.ci .i64 4)) <|
      .ite (.Z 9) (
       .bPA (.bPE 3 tI) (.bPB aB tI (aQ bD 3 (.p1 bD aI (.Z 0))) (.ci .i64 0)) <|
       .call 6 (.bPB tI aB (.Z 10) (aQ (.bP9 bD aI) 2 (.Z 0))) <|
       .call 7 (.bPB aB aB (aQ (.bP9 bD aI) 2 (.Z 0)) (aK (.bP9 bD aI) 1 (.Z 0))) <|
       .bPA (.lit 3 tI 1) (.p1 tI .bool (.Z 12)) <|
       .ite (aQ (.bP9 aB .bool) 1 (.Z 11)) (
        .ret (bG (.bP9 aB (.bP9 aB .bool)) [(.p1 aB .bool (.Z 11)),(.Z 13),(.cb true)])) (
        .ret (bG (.bP9 aB (.bP9 aB .bool)) [(.p1 aB .bool (.Z 11)),(.Z 13),(aQ (.bP9 tI .bool) 1 (.Z 12))]))) (
       .bPA (.cmp .eql .i64) (.bPB tI tI (.p1 tI (.bP9 tI aF) (.p1 bD aI (.Z 0))) (.ci .i64 5)) <|
       .ite (.Z 10) (
        .call 2 (.p1 bD aI (.Z 0)) <|
        .call 3 (.bPB (.bP9 tI aF) aB (.Z 11) (aQ (.bP9 bD aI) 2 (.Z 0))) <|
        .call 8 (.bPB aB aB (aQ (.bP9 bD aI) 2 (.Z 0)) (.p1 aB .bool (.Z 12))) <|
        .call 4 (.bPB aB aB (aQ (.bP9 bD aI) 2 (.Z 0)) (aK (.bP9 bD aI) 1 (.Z 0))) <|
        .ite (aQ (.bP9 aB .bool) 1 (.Z 12)) (
         .ret (bG (.bP9 aB (.bP9 aB .bool)) [(.p1 aB .bool (.Z 13)),(aQ (.bP9 tI aF) 2 (.p1 (.bP9 tI aF) .bool (.Z 14))),(.cb true)])) (
         .ite (aQ (.bP9 aB .bool) 1 (.Z 13)) (
          .ret (bG (.bP9 aB (.bP9 aB .bool)) [(.p1 aB .bool (.Z 13)),(aQ (.bP9 tI aF) 2 (.p1 (.bP9 tI aF) .bool (.Z 14))),(.cb true)])) (
          .ret (bG (.bP9 aB (.bP9 aB .bool)) [(.p1 aB .bool (.Z 13)),(aQ (.bP9 tI aF) 2 (.p1 (.bP9 tI aF) .bool (.Z 14))),(aQ (.bP9 (.bP9 tI aF) .bool) 1 (.Z 14))])))) (
        .call 9 (aQ (.bP9 bD aI) 1 (.Z 0)) <|
        .ret (bG (.bP9 aB (.bP9 aB .bool)) [(.Z 11),(.nl 3 tI),(.cb false)]))))))))
theorem aNJ:bN Tryz.prog [lM,cA,nT,pW,xJ,bR,jH,iU,lX,qM] lP false 3000 ⟨[],[]⟩ = .ok sQ:=by kernel_rfl
theorem aKC (x:eV × bP) (hx:okD (.bP9 bD aI) x) (hp:(fun _=>True) x):sQ.wp [lM,cA,nT,pW,xJ,bR,jH,iU,lX,qM] [⟨(.bP9 bD aI),x⟩] [] (fun v=>v.as (.bP9 aB (.bP9 aB .bool))=(fun x=>jB x.1 x.2.1 x.2.2) x):=by
 obtain ⟨⟨kd,i,ou,P⟩,v,d⟩:=x
 delta sQ lM cA nT pW xJ bR jH iU lX qM;refine dD ?_
 simp only[Bool.not_eq_true',Bool.not_eq_false']
 refine ⟨fun h=>?_,fun h1=>⟨fun h=>?_,fun h2=>⟨fun h=>?_,fun h3=>?_⟩⟩⟩
 ·unfold jB;rw[if_pos (by rw[h];simp)]
 ·unfold jB;rw[if_pos (by rw[h];simp)]
 ·unfold jB;rw[if_pos (by rw[h];simp)]
 have h4:=aJD h1
 have hk:=((lE _).1 h1).1
 have hd:=(cT _).1 ((cI _ _).1 h3).1
 dsimp only at h4 hk
 (refine dM ?_;try with_reducible exact True.intro)
 (repeat' first|intro _|(with_reducible apply And.intro))
 all_goals first|omega|(obtain rfl:kd=3:=(by omega);simp[jB,h1,h2,h3];done)|(simp_all[jB];done)
theorem aK6:Con.Holds Tryz.prog lP:=aS aV (aH aN7 (aH kB (aH aPL (aH aWM (aH bF8 (aH iC (aH aGB (aH aFI (aH aMI (aH aVV aT)))))))))) aNJ aKC
def nO:Con:=⟨324,(.bP9 tI aF),.bool,[.val ⟨true,(.bP9 tI aF),[]⟩],[⟨false,.bool,[0]⟩],false,none,
 ((fun _=>True):(Int × cM)→Prop),
 ((fun x=>yH x):(Int × cM)→(Bool))⟩
def aHT:T:=.call 0 (bG (.bP9 tI aP) [(.p1 tI aF (.Z 0)),(.ci .i64 1),(.ci .i64 6)]) <|
 .bPA .not (.Z 1) <|
 .ite (.Z 2) (
  .ret (.cb false)) (
  .call 0 (bG (.bP9 tI aP) [(aK (.bP9 tI aF) 1 (.Z 0)),(.ci .i64 1),(.ci .i64 6)]) <|
  .bPA .not (.Z 3) <|
  .ite (.Z 4) (
   .ret (.cb false)) (
   .bPA (.bPD 3 tI) (aQ (.bP9 tI aF) 2 (.Z 0)) <|
   .bPA (.ar .mul .i64) (.bPB tI tI (.p1 tI aF (.Z 0)) (aK (.bP9 tI aF) 1 (.Z 0))) <|
   .bPA (.cmp .neq .i64) (.bPB tI tI (.Z 5) (.Z 6)) <|
   .ite (.Z 7) (
    .ret (.cb false)) (
    .loop tI (.ci .i64 0) <|
     .bPA (.bPD 3 tI) (aQ (.bP9 tI aF) 2 (.Z 0)) <|
     .bPA (.cmp .lss .i64) (.bPB tI tI (.Z 8) (.Z 9)) <|
     .ite (.Z 10) (
      .bPA (.bPE 3 tI) (.bPB aB tI (aQ (.bP9 tI aF) 2 (.Z 0)) (.Z 8)) <|
      .call 1 (.Z 11) <|
      .bPA .not (.Z 12) <|
      .ite (.Z 13) (
       .ret (.cb false)) (
       .bPA (.ar .add .i64) (.bPB tI tI (.Z 8) (.ci .i64 1)) <|
       .bPC 0 (.Z 14))) (
      .ret (.cb true)))))
theorem bES:bN Tryz.prog [bK,gT] nO false 3000 ⟨[(2988,8008,iL 24 4++[.dr 0,.tm 3 0])],[]⟩ = .ok aHT:=by kernel_rfl
theorem bG7 (x:Int × cM) (hx:okD (.bP9 tI aF) x) (hp:(fun _=>True) x):aHT.wp [bK,gT] [⟨(.bP9 tI aF),x⟩] [] (fun v=>v.as .bool=(fun x=>yH x) x):=by
 have hm:List.length x.2.2≤9223372036854775807:=hx.2.2.1
 delta aHT bK gT;refine dD ?_
 simp only[mP,aFL,aFM]
 (repeat' first|intro _|(with_reducible apply And.intro))
 all_goals first|(first|(refine (Bool.eq_false_iff.2 ?_).symm;rw[ne_eq,nA];intro hh;omega)|(refine (nA.2 ?_).symm;omega))|(have:=aWF (a:=x.1) (b:=x.2.1) (by omega) (by omega) (by omega) (by omega);omega)|(refine (Bool.eq_false_iff.2 fun h=>?_).symm;rw[nA] at h;exact absurd h.1.2.2.2.2 (by assumption))|skip
 refine rL (fun k=>(k:Int)) (fun k=>(List.take k x.2.2).all oL=true) x.2.2.length rfl rfl fun I μ k hk hG _ go=>?_
 try dsimp only
 refine dM ?_
 have e:∀ h:k<x.2.2.length,(List.take (k+1) x.2.2).all oL=oL (x.2.2.getD k 0):=fun h=>by rw[mV oL x.2.2 h,hG,Bool.true_and,aZ h]
 (repeat' first|intro _|(refine go _ ?_ ?_ ?_)|(refine go _ ?_ ?_)|(with_reducible apply And.intro))
 all_goals first|omega|(refine (Bool.eq_false_iff.2 fun hh=>?_).symm;have h1:=List.all_eq_true.1 ((nA x).1 hh).2 _ (List.getElem_mem (show k<x.2.2.length by omega));rw[← aZ (d:=0)] at h1;exact Bool.noConfusion (h1.symm.trans (by assumption:_=false)))|(exact (e (by omega)).trans (by assumption))|rfl|skip
 refine ((nA x).2 ⟨⟨by omega,by omega,by omega,by omega,by omega⟩,?_⟩).symm
 rwa [List.take_of_length_le (by omega)] at hG
theorem aQE:Con.Holds Tryz.prog nO:=aS aV (aH fM (aH aD3 aT)) bES bG7
def wZ:Con:=⟨325,(.bP9 (.bP9 tI aF) tI),aB,[.val ⟨true,(.bP9 tI aF),[]⟩,.val ⟨false,tI,[]⟩],[⟨false,aB,[0]⟩],true,none,
 ((fun x=>yH x.1=true∧0≤x.2∧x.2<x.1.1):((Int × cM) × Int)→Prop),
 ((fun x=>aCD x.1 x.2.toNat):((Int × cM) × Int)→(List Int))⟩
def aHE:T :=
 .bPA (.ar .mul .i64) (.bPB tI tI (aQ (.bP9 (.bP9 tI aF) tI) 1 (.Z 0)) (aK (.bP9 tI aF) 1 (.p1 (.bP9 tI aF) tI (.Z 0)))) <|
 .bPA (.ar .add .i64) (.bPB tI tI (aQ (.bP9 (.bP9 tI aF) tI) 1 (.Z 0)) (.ci .i64 1)) <|
 .bPA (.ar .mul .i64) (.bPB tI tI (.Z 2) (aK (.bP9 tI aF) 1 (.p1 (.bP9 tI aF) tI (.Z 0)))) <|
 .bPA (.bPF 3 tI) (bG (.bP9 aB aP) [(aQ (.bP9 tI aF) 2 (.p1 (.bP9 tI aF) tI (.Z 0))),(.Z 1),(.Z 3)]) <|
 .ret (.Z 4)
theorem bFZ:bN Tryz.prog [] wZ false 3000 ⟨[],[]⟩ = .ok aHE:=by kernel_rfl
theorem bFP (x:(Int × cM) × Int) (hx:okD (.bP9 (.bP9 tI aF) tI) x) (hp:(fun x=>yH x.1=true∧0≤x.2∧x.2<x.1.1) x):aHE.wp [] [⟨(.bP9 (.bP9 tI aF) tI),x⟩] [] (fun v=>v.as aB=(fun x=>aCD x.1 x.2.toNat) x):=by
 obtain ⟨m,k⟩:=x
 obtain ⟨h1,h2,h3⟩:yH m=true∧0≤k∧k<m.1:=hp
 obtain ⟨R,C,data,rfl,g1,g2,g3,g4,g5,g6,g7⟩:=mK h1
 obtain ⟨k,rfl⟩:=Int.eq_ofNat_of_zero_le h2
 have h3:k<R:=by dsimp only at h3;omega
 delta aHE;refine dD ?_
 obtain ⟨p,e0⟩:∃ p,p=k * C:=⟨_,rfl⟩
 have e1:(k:Int) * (C:Int)=(p:Int):=by rw[e0];exact (Int.natCast_mul k C).symm
 have e2:((k:Int)+1) * (C:Int)=((p+C:Nat):Int):=by rw[Int.add_mul,e1,Int.one_mul];rfl
 have e4:p+C≤data.length:=by rw[e0,g5];exact aHX h3
 simp only[e1,e2,mP,← aMG R C k p data e0]
 (repeat' first|intro _|(with_reducible apply And.intro))
 all_goals first|omega|trivial|rfl
theorem bFG:Con.Holds Tryz.prog wZ:=aS aV aT bFZ bFP
def xU:Con:=⟨328,(.bP9 (.bP9 tI aF) tI),aB,[.val ⟨true,(.bP9 tI aF),[]⟩,.val ⟨false,tI,[]⟩],[⟨false,aB,[2]⟩],false,none,
 ((fun x=>yH x.1=true∧0≤x.2∧x.2<x.1.2.1):((Int × cM) × Int)→Prop),
 ((fun x=>sD x.1 x.2.toNat):((Int × cM) × Int)→(List Int))⟩
def aI7:T:=.loop aF (.bPB tI aB (.ci .i64 0) (.nl 3 tI)) <|
 .bPA (.cmp .lss .i64) (.bPB tI tI (.p1 tI aB (.Z 1)) (.p1 tI aF (.p1 (.bP9 tI aF) tI (.Z 0)))) <|
 .ite (.Z 2) (
  .bPA (.ar .mul .i64) (.bPB tI tI (.p1 tI aB (.Z 1)) (aK (.bP9 tI aF) 1 (.p1 (.bP9 tI aF) tI (.Z 0)))) <|
  .bPA (.ar .add .i64) (.bPB tI tI (.Z 3) (aQ (.bP9 (.bP9 tI aF) tI) 1 (.Z 0))) <|
  .bPA (.bPE 3 tI) (.bPB aB tI (aQ (.bP9 tI aF) 2 (.p1 (.bP9 tI aF) tI (.Z 0))) (.Z 4)) <|
  .bPA (.lit 3 tI 1) (.Z 5) <|
  .bPA (.bPG 3 tI 8) (.bPB aB aB (aQ aF 1 (.Z 1)) (.Z 6)) <|
  .bPA (.ar .add .i64) (.bPB tI tI (.p1 tI aB (.Z 1)) (.ci .i64 1)) <|
  .bPC 0 (.bPB tI aB (.Z 8) (.Z 7))) (
  .ret (aQ aF 1 (.Z 1)))
theorem bGA:bN Tryz.prog [] xU false 3000 ⟨[(2991,1001,[.dr 7,.dr 0,.tm 6 0,.on 5,.sl 2])],[]⟩ = .ok aI7:=by kernel_rfl
theorem bF2 (x:(Int × cM) × Int) (hx:okD (.bP9 (.bP9 tI aF) tI) x) (hp:(fun x=>yH x.1=true∧0≤x.2∧x.2<x.1.2.1) x):aI7.wp [] [⟨(.bP9 (.bP9 tI aF) tI),x⟩] [] (fun v=>v.as aB=(fun x=>sD x.1 x.2.toNat) x):=by
 obtain ⟨m,c⟩:=x
 obtain ⟨h1,h2,h3⟩:yH m=true∧0≤c∧c<m.2.1:=hp
 obtain ⟨R,C,data,rfl,g1,g2,g3,g4,g5,g6,g7⟩:=mK h1
 obtain ⟨c,rfl⟩:=Int.eq_ofNat_of_zero_le h2
 have h3:c<C:=by dsimp only at h3;omega
 delta aI7;refine dD ?_
 refine cJ (fun r=>((r:Int),mp r fun i=>data.getD (i * C+c) 0)) R rfl fun I μ k hk _ go=>?_
 dsimp only
 obtain ⟨p,e0⟩:∃ p,p=k * C:=⟨_,rfl⟩
 have e1:(k:Int) * (C:Int)=(p:Int):=by rw[e0];exact (Int.natCast_mul k C).symm
 have e2:(p:Int)+(c:Int)=((p+c:Nat):Int):=rfl
 have e4:k<R→p+C≤data.length:=fun h=>by rw[e0,g5];exact aHX h
 simp only[e1,e2,mP,eM]
 (repeat' first|intro _|(refine go _ ?_ ?_ ?_)|(refine go _ ?_ ?_)|(with_reducible apply And.intro))
 all_goals first|omega|(unfold maxLen;omega)|(rw[fN,← e0];rfl)|(have e:k=R:=(by omega);subst e;rfl)
theorem bGL:Con.Holds Tryz.prog xU:=aS aV aT bGA bF2
def tV:Con:=⟨306,(.bP9 (.bP9 tI aF) aB),(.bP9 aB .bool),[.val ⟨true,(.bP9 tI aF),[]⟩,.val ⟨false,aB,[]⟩],[⟨false,aB,[2]⟩,⟨false,.bool,[0]⟩],false,none,
 ((fun _=>True):((Int × cM) × cF)→Prop),
 ((fun x=>kQ x.1 x.2):((Int × cM) × cF)→(cF × Bool))⟩
def aEL:T:=.call 0 (.p1 (.bP9 tI aF) aB (.Z 0)) <|
 .bPA .not (.Z 1) <|
 .ite (.Z 2) (
  .ret (.bPB aB .bool (.nl 3 tI) (.cb false))) (
  .call 1 (aQ (.bP9 (.bP9 tI aF) aB) 1 (.Z 0)) <|
  .bPA .not (.Z 3) <|
  .ite (.Z 4) (
   .ret (.bPB aB .bool (.nl 3 tI) (.cb false))) (
   .bPA (.bPD 3 tI) (aQ (.bP9 (.bP9 tI aF) aB) 1 (.Z 0)) <|
   .bPA (.cmp .neq .i64) (.bPB tI tI (.Z 5) (aK (.bP9 tI aF) 1 (.p1 (.bP9 tI aF) aB (.Z 0)))) <|
   .ite (.Z 6) (
    .ret (.bPB aB .bool (.nl 3 tI) (.cb false))) (
    .loop (.bP9 tI (.bP9 .bool aB)) (bG (.bP9 tI (.bP9 .bool aB)) [(.ci .i64 0),(.cb false),(.nl 3 tI)]) <|
     .bPA (.cmp .lss .i64) (.bPB tI tI (.p1 tI (.bP9 .bool aB) (.Z 7)) (.p1 tI aF (.p1 (.bP9 tI aF) aB (.Z 0)))) <|
     .ite (.Z 8) (
      .call 2 (.bPB (.bP9 tI aF) tI (.p1 (.bP9 tI aF) aB (.Z 0)) (.p1 tI (.bP9 .bool aB) (.Z 7))) <|
      .call 3 (.bPB aB aB (.Z 9) (aQ (.bP9 (.bP9 tI aF) aB) 1 (.Z 0))) <|
      .bPA (.lit 3 tI 1) (.p1 tI .bool (.Z 10)) <|
      .bPA (.bPG 3 tI 8) (.bPB aB aB (aQ (.bP9 tI (.bP9 .bool aB)) 2 (.Z 7)) (.Z 11)) <|
      .ite (aK (.bP9 tI (.bP9 .bool aB)) 1 (.Z 7)) (
       .bPA (.ar .add .i64) (.bPB tI tI (.p1 tI (.bP9 .bool aB) (.Z 7)) (.ci .i64 1)) <|
       .bPC 0 (bG (.bP9 tI (.bP9 .bool aB)) [(.Z 13),(.cb true),(.Z 12)])) (
       .bPA (.ar .add .i64) (.bPB tI tI (.p1 tI (.bP9 .bool aB) (.Z 7)) (.ci .i64 1)) <|
       .bPC 0 (bG (.bP9 tI (.bP9 .bool aB)) [(.Z 13),(aQ (.bP9 tI .bool) 1 (.Z 10)),(.Z 12)]))) (
      .ret (.bPB aB .bool (aQ (.bP9 tI (.bP9 .bool aB)) 2 (.Z 7)) (aK (.bP9 tI (.bP9 .bool aB)) 1 (.Z 7)))))))
theorem bA5:bN Tryz.prog [nO,bL,wZ,fP] tV false 3000 ⟨[(2984,8007,iL 26 11++[.dr 0,.tm 8 0,.tm 7 0,.on 6,.sl 2])],[]⟩ = .ok aEL:=by kernel_rfl
theorem aYA (x:(Int × cM) × cF) (hx:okD (.bP9 (.bP9 tI aF) aB) x) (hp:(fun _=>True) x):aEL.wp [nO,bL,wZ,fP] [⟨(.bP9 (.bP9 tI aF) aB),x⟩] [] (fun v=>v.as (.bP9 aB .bool)=(fun x=>kQ x.1 x.2) x):=by
 obtain ⟨m,v⟩:=x
 delta aEL nO bL wZ fP;refine dD ?_
 simp only[Bool.not_eq_true',Bool.not_eq_false',aFL,aFM]
 refine ⟨fun h=>?_,fun h1=>⟨fun h=>?_,fun h2 _=>⟨fun h=>?_,fun h3=>?_⟩⟩⟩
 ·unfold kQ;rw[if_neg (by rw[h];simp)]
 ·unfold kQ fB;rw[if_neg (by rw[h];simp)]
 ·unfold kQ fB;rw[if_neg (fun hh=>h (by have:=hh.2;rw[Bool.and_eq_true,decide_eq_true_eq] at this;exact this.2))]
 have h4:fB v m.2.1=true:=(cI _ _).2 ⟨h2,h3⟩
 rw[show kQ m v=_ from if_pos ⟨h1,h4⟩]
 obtain ⟨R,C,data,rfl,g1,g2,g3,g4,g5,g6,g7⟩:=mK h1
 refine cJ (fun k=>((k:Int),an k (fun r=>(gD (aCD ((R:Int),(C:Int),data) r) v).2),mp k fun r=>(gD (aCD ((R:Int),(C:Int),data) r) v).1)) R rfl fun I μ k hk _ go=>?_
 dsimp only
 simp only[mP,eM]
 (repeat' first|intro _|(refine go _ ?_ ?_ ?_)|(refine go _ ?_ ?_)|(with_reducible apply And.intro))
 all_goals first|omega|exact h1|(unfold maxLen;omega)|(rw[fN,mN];first|exact Prod.ext rfl (Prod.ext (jC (by assumption)) rfl)|exact Prod.ext rfl (Prod.ext (mR (by assumption)) rfl))|(have e:k=R:=(by omega);subst e;rfl)
theorem aZD:Con.Holds Tryz.prog tV:=aS aV (aH aQE (aH fT (aH bFG (aH yF aT)))) bA5 aYA
def qT:Con:=⟨313,(.bP9 (.bP9 tI aF) aB),(.bP9 aB .bool),[.val ⟨true,(.bP9 tI aF),[]⟩,.val ⟨false,aB,[]⟩],[⟨false,aB,[2]⟩,⟨false,.bool,[0]⟩],false,none,
 ((fun _=>True):((Int × cM) × cF)→Prop),
 ((fun x=>iA x.1 x.2):((Int × cM) × cF)→(cF × Bool))⟩
def aC3:T:=.call 0 (.p1 (.bP9 tI aF) aB (.Z 0)) <|
 .bPA .not (.Z 1) <|
 .ite (.Z 2) (
  .ret (.bPB aB .bool (.nl 3 tI) (.cb false))) (
  .call 1 (aQ (.bP9 (.bP9 tI aF) aB) 1 (.Z 0)) <|
  .bPA .not (.Z 3) <|
  .ite (.Z 4) (
   .ret (.bPB aB .bool (.nl 3 tI) (.cb false))) (
   .bPA (.bPD 3 tI) (aQ (.bP9 (.bP9 tI aF) aB) 1 (.Z 0)) <|
   .bPA (.cmp .neq .i64) (.bPB tI tI (.Z 5) (.p1 tI aF (.p1 (.bP9 tI aF) aB (.Z 0)))) <|
   .ite (.Z 6) (
    .ret (.bPB aB .bool (.nl 3 tI) (.cb false))) (
    .loop (.bP9 tI (.bP9 .bool aB)) (bG (.bP9 tI (.bP9 .bool aB)) [(.ci .i64 0),(.cb false),(.nl 3 tI)]) <|
     .bPA (.cmp .lss .i64) (.bPB tI tI (.p1 tI (.bP9 .bool aB) (.Z 7)) (aK (.bP9 tI aF) 1 (.p1 (.bP9 tI aF) aB (.Z 0)))) <|
     .ite (.Z 8) (
      .call 2 (.bPB (.bP9 tI aF) tI (.p1 (.bP9 tI aF) aB (.Z 0)) (.p1 tI (.bP9 .bool aB) (.Z 7))) <|
      .call 3 (.bPB aB aB (.Z 9) (aQ (.bP9 (.bP9 tI aF) aB) 1 (.Z 0))) <|
      .bPA (.lit 3 tI 1) (.p1 tI .bool (.Z 10)) <|
      .bPA (.bPG 3 tI 8) (.bPB aB aB (aQ (.bP9 tI (.bP9 .bool aB)) 2 (.Z 7)) (.Z 11)) <|
      .ite (aK (.bP9 tI (.bP9 .bool aB)) 1 (.Z 7)) (
       .bPA (.ar .add .i64) (.bPB tI tI (.p1 tI (.bP9 .bool aB) (.Z 7)) (.ci .i64 1)) <|
       .bPC 0 (bG (.bP9 tI (.bP9 .bool aB)) [(.Z 13),(.cb true),(.Z 12)])) (
       .bPA (.ar .add .i64) (.bPB tI tI (.p1 tI (.bP9 .bool aB) (.Z 7)) (.ci .i64 1)) <|
       .bPC 0 (bG (.bP9 tI (.bP9 .bool aB)) [(.Z 13),(aQ (.bP9 tI .bool) 1 (.Z 10)),(.Z 12)]))) (
      .ret (.bPB aB .bool (aQ (.bP9 tI (.bP9 .bool aB)) 2 (.Z 7)) (aK (.bP9 tI (.bP9 .bool aB)) 1 (.Z 7)))))))
theorem aVU:bN Tryz.prog [nO,bL,xU,fP] qT false 3000 ⟨[(2984,8007,iL 26 11++[.dr 0,.tm 8 0,.tm 7 0,.on 6,.sl 2])],[]⟩ = .ok aC3:=by kernel_rfl
theorem aTY (x:(Int × cM) × cF) (hx:okD (.bP9 (.bP9 tI aF) aB) x) (hp:(fun _=>True) x):aC3.wp [nO,bL,xU,fP] [⟨(.bP9 (.bP9 tI aF) aB),x⟩] [] (fun v=>v.as (.bP9 aB .bool)=(fun x=>iA x.1 x.2) x):=by
 obtain ⟨m,v⟩:=x
 delta aC3 nO bL xU fP;refine dD ?_
 simp only[Bool.not_eq_true',Bool.not_eq_false',aFL,aFM]
 refine ⟨fun h=>?_,fun h1=>⟨fun h=>?_,fun h2 _=>⟨fun h=>?_,fun h3=>?_⟩⟩⟩
 ·unfold iA;rw[if_neg (by rw[h];simp)]
 ·unfold iA fB;rw[if_neg (by rw[h];simp)]
 ·unfold iA fB;rw[if_neg (fun hh=>h (by have:=hh.2;rw[Bool.and_eq_true,decide_eq_true_eq] at this;exact this.2))]
 have h4:fB v m.1=true:=(cI _ _).2 ⟨h2,h3⟩
 rw[show iA m v=_ from if_pos ⟨h1,h4⟩]
 obtain ⟨R,C,data,rfl,g1,g2,g3,g4,g5,g6,g7⟩:=mK h1
 refine cJ (fun k=>((k:Int),an k (fun r=>(gD (sD ((R:Int),(C:Int),data) r) v).2),mp k fun r=>(gD (sD ((R:Int),(C:Int),data) r) v).1)) C rfl fun I μ k hk _ go=>?_
 dsimp only
 simp only[mP,eM]
 (repeat' first|intro _|(refine go _ ?_ ?_ ?_)|(refine go _ ?_ ?_)|(with_reducible apply And.intro))
 all_goals first|omega|exact h1|(unfold maxLen;omega)|(rw[fN,mN];first|exact Prod.ext rfl (Prod.ext (jC (by assumption)) rfl)|exact Prod.ext rfl (Prod.ext (mR (by assumption)) rfl))|(have e:k=C:=(by omega);subst e;rfl)
theorem aX0:Con.Holds Tryz.prog qT:=aS aV (aH aQE (aH fT (aH bGL (aH yF aT)))) aVU aTY
def xQ:Con:=⟨314,aI,(.bP9 (.bP9 tI aF) .bool),[.val ⟨false,aB,[]⟩,.val ⟨false,aB,[]⟩],[⟨true,(.bP9 tI aF),[0,0,2]⟩,⟨false,.bool,[0]⟩],false,none,
 ((fun _=>True):(bP)→Prop),
 ((fun x=>rN x.1 x.2):(bP)→((Int × cM) × Bool))⟩
def aHQ:T:=.call 0 (.p1 aB aB (.Z 0)) <|
 .bPA .not (.Z 1) <|
 .ite (.Z 2) (
  .ret (.bPB (.bP9 tI aF) .bool (bG (.bP9 tI aF) [(.ci .i64 0),(.ci .i64 0),(.nl 3 tI)]) (.cb false))) (
  .call 0 (aQ aI 1 (.Z 0)) <|
  .bPA .not (.Z 3) <|
  .ite (.Z 4) (
   .ret (.bPB (.bP9 tI aF) .bool (bG (.bP9 tI aF) [(.ci .i64 0),(.ci .i64 0),(.nl 3 tI)]) (.cb false))) (
   .bPA (.bPD 3 tI) (.p1 aB aB (.Z 0)) <|
   .bPA (.bPD 3 tI) (aQ aI 1 (.Z 0)) <|
   .loop (.bP9 tI (.bP9 .bool aB)) (bG (.bP9 tI (.bP9 .bool aB)) [(.ci .i64 0),(.cb false),(.nl 3 tI)]) <|
    .bPA (.bPD 3 tI) (.p1 aB aB (.Z 0)) <|
    .bPA (.cmp .lss .i64) (.bPB tI tI (.p1 tI (.bP9 .bool aB) (.Z 7)) (.Z 8)) <|
    .ite (.Z 9) (
     .loop (.bP9 tI (.bP9 .bool aB)) (.bPB tI (.bP9 .bool aB) (.ci .i64 0) (aQ (.bP9 tI (.bP9 .bool aB)) 1 (.Z 7))) <|
      .bPA (.bPD 3 tI) (aQ aI 1 (.Z 0)) <|
      .bPA (.cmp .lss .i64) (.bPB tI tI (.p1 tI (.bP9 .bool aB) (.Z 10)) (.Z 11)) <|
      .ite (.Z 12) (
       .bPA (.bPE 3 tI) (.bPB aB tI (.p1 aB aB (.Z 0)) (.p1 tI (.bP9 .bool aB) (.Z 7))) <|
       .bPA (.bPE 3 tI) (.bPB aB tI (aQ aI 1 (.Z 0)) (.p1 tI (.bP9 .bool aB) (.Z 10))) <|
       .call 1 (.bPB tI tI (.Z 13) (.Z 14)) <|
       .bPA (.lit 3 tI 1) (.p1 tI .bool (.Z 15)) <|
       .bPA (.bPG 3 tI 8) (.bPB aB aB (aQ (.bP9 tI (.bP9 .bool aB)) 2 (.Z 10)) (.Z 16)) <|
       .ite (aK (.bP9 tI (.bP9 .bool aB)) 1 (.Z 10)) (
        .bPA (.ar .add .i64) (.bPB tI tI (.p1 tI (.bP9 .bool aB) (.Z 10)) (.ci .i64 1)) <|
        .bPC 0 (bG (.bP9 tI (.bP9 .bool aB)) [(.Z 18),(.cb true),(.Z 17)])) (
        .bPA (.ar .add .i64) (.bPB tI tI (.p1 tI (.bP9 .bool aB) (.Z 10)) (.ci .i64 1)) <|
        .bPC 0 (bG (.bP9 tI (.bP9 .bool aB)) [(.Z 18),(aQ (.bP9 tI .bool) 1 (.Z 15)),(.Z 17)]))) (
       .bPA (.ar .add .i64) (.bPB tI tI (.p1 tI (.bP9 .bool aB) (.Z 7)) (.ci .i64 1)) <|
       .bPC 1 (.bPB tI (.bP9 .bool aB) (.Z 13) (aQ (.bP9 tI (.bP9 .bool aB)) 1 (.Z 10))))) (
     .ret (.bPB (.bP9 tI aF) .bool (bG (.bP9 tI aF) [(.Z 5),(.Z 6),(aQ (.bP9 tI (.bP9 .bool aB)) 2 (.Z 7))]) (aK (.bP9 tI (.bP9 .bool aB)) 1 (.Z 7))))))
theorem bGO:bN Tryz.prog [bL,iM] xQ false 3000 ⟨[(2984,4007,iL 25 21++iL 19 12++[.tm 8 0,.tm 7 0,.sl 5]),(2973,12010,[.tm 9 0,.tm 7 0,.sl 5])],[]⟩ = .ok aHQ:=by kernel_rfl
theorem bF3 (x:bP) (hx:okD aI x) (hp:(fun _=>True) x):aHQ.wp [bL,iM] [⟨aI,x⟩] [] (fun v=>v.as (.bP9 (.bP9 tI aF) .bool)=(fun x=>rN x.1 x.2) x):=by
 obtain ⟨d,v⟩:=x
 delta aHQ bL iM;refine dD ?_
 simp only[Bool.not_eq_true',Bool.not_eq_false']
 refine ⟨fun h=>?_,fun h1=>⟨fun h=>?_,fun h2 _ _=>?_⟩⟩
 ·unfold rN;rw[if_neg (by rw[h];simp)];rfl
 ·unfold rN;rw[if_neg (by rw[h];simp)];rfl
 rw[show rN d v=_ from if_pos ⟨h1,h2⟩]
 have hd:=(cT d).1 h1
 have hv:=(cT v).1 h2
 refine cJ (fun i=>((i:Int),an i (aLE d v),qZ (zX d v) i)) d.length rfl fun I μ i hi _ go=>?_
 dsimp only
 refine dM ?_
 have hl:(qZ (zX d v) i).length=i * v.length:=tQ (fun i=>eM _ _) i
 have hq:i * v.length≤36:=Nat.le_trans (Nat.mul_le_mul hi (show v.length≤6 by omega)) (by omega)
 generalize hD:qZ (zX d v) i=D at *
 generalize hA:an i (aLE d v)=A at *
 intro _
 constructor
 ·intro hlt
  refine cJ (fun j=>((j:Int),A || an j (fun j=>(fS (d.getD i 0) (v.getD j 0)).2),D++mp j fun j=>(fS (d.getD i 0) (v.getD j 0)).1)) v.length (by simp[aQP,bD2]) fun I2 μ2 j hj _ go2=>?_
  dsimp only
  simp only[mP,eM]
  have ea:(A || an (j+1) (fun j=>(fS (d.getD i 0) (v.getD j 0)).2))=((A || an j (fun j=>(fS (d.getD i 0) (v.getD j 0)).2)) || (fS (d.getD i 0) (v.getD j 0)).2):=by rw[mN,Bool.or_assoc]
  (repeat' first|intro _|(refine go2 _ ?_ ?_ ?_)|(refine go2 _ ?_ ?_)|(refine go _ ?_ ?_ ?_)|(refine go _ ?_ ?_)|(with_reducible apply And.intro))
  all_goals first|omega|(unfold maxLen;omega)|(rw[fN,← List.append_assoc,ea];first|exact Prod.ext rfl (Prod.ext (jC (by assumption)) rfl)|exact Prod.ext rfl (Prod.ext (mR (by assumption)) rfl))|(have e:j=v.length:=(by omega);subst e;rw[qZ,hD,mN,hA];rfl)
 ·intro hge
  have e:i=d.length:=by omega
  subst e
  rw[← hD,← hA]
theorem bEM:Con.Holds Tryz.prog xQ:=aS aV (aH fT (aH aFF aT)) bGO bF3
def nP:Con:=⟨307,bD,(.bP9 tI aF),[.val ⟨true,bD,[]⟩],[⟨true,(.bP9 tI aF),[0,0,0]⟩],true,none,
 ((fun _=>True):(eV)→Prop),
 ((fun x=>wX x):(eV)→(Int × cM))⟩
def aHG:T:=.ret (bG (.bP9 tI aF) [(aK bD 2 (.Z 0)),(aK bD 1 (.Z 0)),(aQ bD 3 (.Z 0))])
theorem bGR:bN Tryz.prog [] nP false 3000 ⟨[],[]⟩ = .ok aHG:=by kernel_rfl
theorem bFU (x:eV) (hx:okD bD x) (hp:(fun _=>True) x):aHG.wp [] [⟨bD,x⟩] [] (fun v=>v.as (.bP9 tI aF)=(fun x=>wX x) x):=by
 delta aHG;refine dD ?_;try with_reducible exact True.intro
 rfl
theorem aP8:Con.Holds Tryz.prog nP:=aS aV aT bGR bFU
def mW:Con:=⟨272,(.bP9 bD aB),(.bP9 aB .bool),[.val ⟨true,bD,[]⟩,.val ⟨false,aB,[]⟩],[⟨false,aB,[2]⟩,⟨false,.bool,[0]⟩],false,none,
 ((fun _=>True):(eV × cF)→Prop),
 ((fun x=>qF x.1 x.2):(eV × cF)→(cF × Bool))⟩
def wG:T:=.call 0 (.p1 bD aB (.Z 0)) <|
 .bPA .not (.Z 1) <|
 .ite (.Z 2) (
  .ret (.bPB aB .bool (.nl 3 tI) (.cb false))) (
  .call 1 (aQ (.bP9 bD aB) 1 (.Z 0)) <|
  .bPA .not (.Z 3) <|
  .ite (.Z 4) (
   .ret (.bPB aB .bool (.nl 3 tI) (.cb false))) (
   .bPA (.bPD 3 tI) (aQ (.bP9 bD aB) 1 (.Z 0)) <|
   .bPA (.cmp .neq .i64) (.bPB tI tI (.Z 5) (aK bD 1 (.p1 bD aB (.Z 0)))) <|
   .ite (.Z 6) (
    .ret (.bPB aB .bool (.nl 3 tI) (.cb false))) (
    .bPA (.cmp .eql .i64) (.bPB tI tI (.p1 tI (.bP9 tI aF) (.p1 bD aB (.Z 0))) (.ci .i64 1)) <|
    .ite (.Z 7) (
     .call 2 (.p1 bD aB (.Z 0)) <|
     .call 3 (.bPB (.bP9 tI aF) aB (.Z 8) (aQ (.bP9 bD aB) 1 (.Z 0))) <|
     .ret (.Z 9)) (
     .bPA (.cmp .eql .i64) (.bPB tI tI (.p1 tI (.bP9 tI aF) (.p1 bD aB (.Z 0))) (.ci .i64 2)) <|
     .ite (.Z 8) (
      .call 4 (.bPB aB aB (aQ (.bP9 bD aB) 1 (.Z 0)) (aQ bD 3 (.p1 bD aB (.Z 0)))) <|
      .ret (.Z 9)) (
      .bPA (.cmp .eql .i64) (.bPB tI tI (.p1 tI (.bP9 tI aF) (.p1 bD aB (.Z 0))) (.ci .i64 3)) <|
      .ite (.Z 9) (
       .call 5 (aQ (.bP9 bD aB) 1 (.Z 0)) <|
       .ret (.bPB aB .bool (.Z 10) (.cb false))) (
       .bPA (.cmp .eql .i64) (.bPB tI tI (.p1 tI (.bP9 tI aF) (.p1 bD aB (.Z 0))) (.ci .i64 4)) <|
       .ite (.Z 10) (
        .bPA (.bPE 3 tI) (.bPB aB tI (aQ bD 3 (.p1 bD aB (.Z 0))) (.ci .i64 0)) <|
        .call 6 (.bPB tI aB (.Z 11) (aQ (.bP9 bD aB) 1 (.Z 0))) <|
        .ret (.Z 12)) (
        .call 2 (.p1 bD aB (.Z 0)) <|
        .call 3 (.bPB (.bP9 tI aF) aB (.Z 11) (aQ (.bP9 bD aB) 1 (.Z 0))) <|
        .call 4 (.bPB aB aB (aQ (.bP9 bD aB) 1 (.Z 0)) (.p1 aB .bool (.Z 12))) <|
        .ite (aQ (.bP9 aB .bool) 1 (.Z 12)) (
         .ret (.bPB aB .bool (.p1 aB .bool (.Z 13)) (.cb true))) (
         .ret (.Z 13)))))))))
theorem aOL:bN Tryz.prog [mF,bL,nP,tV,lS,pX,jM] mW false 3000 ⟨[],[]⟩ = .ok wG:=by kernel_rfl
theorem aOH (x:eV × cF) (hx:okD (.bP9 bD aB) x) (hp:(fun _=>True) x):wG.wp [mF,bL,nP,tV,lS,pX,jM] [⟨(.bP9 bD aB),x⟩] [] (fun v=>v.as (.bP9 aB .bool)=(fun x=>qF x.1 x.2) x):=by
 obtain ⟨⟨kd,i,ou,P⟩,v⟩:=x
 delta wG mF bL nP tV lS pX jM;refine dD ?_
 simp only[Bool.not_eq_true',Bool.not_eq_false',aFL,aFM]
 refine ⟨fun h=>?_,fun h1=>⟨fun h=>?_,fun h2 _=>⟨fun h=>?_,fun h3=>?_⟩⟩⟩
 ·unfold qF;rw[if_pos (by rw[h];simp)]
 ·unfold qF fB;rw[if_pos (by rw[h];simp)]
 ·unfold qF;rw[if_pos (fun hh=>h ((cI _ _).1 hh.2).2)]
 have h9:fB v i=true:=(cI _ _).2 ⟨h2,h3⟩
 clear h2 h3
 have h4:=aJD h1
 have hk:=((lE _).1 h1).1
 dsimp only at h4 hk
 (refine dM ?_;try with_reducible exact True.intro)
 (repeat' first|intro _|(with_reducible apply And.intro))
 all_goals first|omega|(simp_all[qF];done)|(have e5:kd=5:=(by omega);subst e5;simp_all[qF];done)
theorem aOG:Con.Holds Tryz.prog mW:=aS aV (aH aKA (aH fT (aH aP8 (aH aZD (aH aMF (aH aVZ (aH aGM aT))))))) aOL aOH
def lV:Con:=⟨278,(.bP9 bD aI),(.bP9 aB (.bP9 aB .bool)),[.val ⟨true,bD,[]⟩,.val ⟨false,aB,[]⟩,.val ⟨false,aB,[]⟩],[⟨false,aB,[2]⟩,⟨false,aB,[2]⟩,⟨false,.bool,[0]⟩],false,none,
 ((fun _=>True):(eV × bP)→Prop),
 ((fun x=>jB x.1 x.2.1 x.2.2):(eV × bP)→(cF × (cF × Bool)))⟩
def uF:T:=.call 0 (.p1 bD aI (.Z 0)) <|
 .bPA .not (.Z 1) <|
 .ite (.Z 2) (
  .ret (bG (.bP9 aB (.bP9 aB .bool)) [(.nl 3 tI),(.nl 3 tI),(.cb false)])) (
  .call 1 (aK (.bP9 bD aI) 1 (.Z 0)) <|
  .bPA .not (.Z 3) <|
  .ite (.Z 4) (
   .ret (bG (.bP9 aB (.bP9 aB .bool)) [(.nl 3 tI),(.nl 3 tI),(.cb false)])) (
   .bPA (.bPD 3 tI) (aK (.bP9 bD aI) 1 (.Z 0)) <|
   .bPA (.cmp .neq .i64) (.bPB tI tI (.Z 5) (aK bD 1 (.p1 bD aI (.Z 0)))) <|
   .ite (.Z 6) (
    .ret (bG (.bP9 aB (.bP9 aB .bool)) [(.nl 3 tI),(.nl 3 tI),(.cb false)])) (
    .call 1 (aQ (.bP9 bD aI) 2 (.Z 0)) <|
    .bPA .not (.Z 7) <|
    .ite (.Z 8) (
     .ret (bG (.bP9 aB (.bP9 aB .bool)) [(.nl 3 tI),(.nl 3 tI),(.cb false)])) (
     .bPA (.bPD 3 tI) (aQ (.bP9 bD aI) 2 (.Z 0)) <|
     .bPA (.cmp .neq .i64) (.bPB tI tI (.Z 9) (aK bD 2 (.p1 bD aI (.Z 0)))) <|
     .ite (.Z 10) (
      .ret (bG (.bP9 aB (.bP9 aB .bool)) [(.nl 3 tI),(.nl 3 tI),(.cb false)])) (
      .bPA (.cmp .eql .i64) (.bPB tI tI (.p1 tI (.bP9 tI aF) (.p1 bD aI (.Z 0))) (.ci .i64 2)) <|
      .ite (.Z 11) (
       .bPA (.bPG 3 tI 8) (.bPB aB aB (.nl 3 tI) (aQ (.bP9 bD aI) 2 (.Z 0))) <|
       .bPA (.bPG 3 tI 8) (.bPB aB aB (.nl 3 tI) (aQ (.bP9 bD aI) 2 (.Z 0))) <|
       .ret (bG (.bP9 aB (.bP9 aB .bool)) [(.Z 12),(.Z 13),(.cb false)])) (
       .bPA (.cmp .eql .i64) (.bPB tI tI (.p1 tI (.bP9 tI aF) (.p1 bD aI (.Z 0))) (.ci .i64 3)) <|
       .ite (.Z 12) (
        .call 2 (aQ (.bP9 bD aI) 1 (.Z 0)) <|
        .ret (bG (.bP9 aB (.bP9 aB .bool)) [(.Z 13),(.nl 3 tI),(.cb false)])) (
        .bPA (.cmp .eql .i64) (.bPB tI tI (.p1 tI (.bP9 tI aF) (.p1 bD aI (.Z 0))) (.ci .i64 4)) <|
        .ite (.Z 13) (
         .bPA (.bPE 3 tI) (.bPB aB tI (aQ bD 3 (.p1 bD aI (.Z 0))) (.ci .i64 0)) <|
         .call 3 (.bPB tI aB (.Z 14) (aQ (.bP9 bD aI) 2 (.Z 0))) <|
         .call 4 (.bPB aB aB (aQ (.bP9 bD aI) 2 (.Z 0)) (aK (.bP9 bD aI) 1 (.Z 0))) <|
         .bPA (.lit 3 tI 1) (.p1 tI .bool (.Z 16)) <|
         .ite (aQ (.bP9 aB .bool) 1 (.Z 15)) (
          .ret (bG (.bP9 aB (.bP9 aB .bool)) [(.p1 aB .bool (.Z 15)),(.Z 17),(.cb true)])) (
          .ret (bG (.bP9 aB (.bP9 aB .bool)) [(.p1 aB .bool (.Z 15)),(.Z 17),(aQ (.bP9 tI .bool) 1 (.Z 16))]))) (
         .call 5 (.p1 bD aI (.Z 0)) <|
         .call 6 (.bPB (.bP9 tI aF) aB (.Z 14) (aQ (.bP9 bD aI) 2 (.Z 0))) <|
         .call 7 (.bPB aB aB (aQ (.bP9 bD aI) 2 (.Z 0)) (aK (.bP9 bD aI) 1 (.Z 0))) <|
         .bPA (.cmp .eql .i64) (.bPB tI tI (.p1 tI (.bP9 tI aF) (.p1 bD aI (.Z 0))) (.ci .i64 1)) <|
         .ite (.Z 17) (
          .ite (aQ (.bP9 aB .bool) 1 (.Z 15)) (
           .ret (bG (.bP9 aB (.bP9 aB .bool)) [(.p1 aB .bool (.Z 15)),(aQ (.bP9 tI aF) 2 (.p1 (.bP9 tI aF) .bool (.Z 16))),(.cb true)])) (
           .ret (bG (.bP9 aB (.bP9 aB .bool)) [(.p1 aB .bool (.Z 15)),(aQ (.bP9 tI aF) 2 (.p1 (.bP9 tI aF) .bool (.Z 16))),(aQ (.bP9 (.bP9 tI aF) .bool) 1 (.Z 16))]))) (
          .call 8 (.bPB aB aB (aQ (.bP9 bD aI) 2 (.Z 0)) (.p1 aB .bool (.Z 15))) <|
          .ite (aQ (.bP9 aB .bool) 1 (.Z 15)) (
           .ret (bG (.bP9 aB (.bP9 aB .bool)) [(.p1 aB .bool (.Z 18)),(aQ (.bP9 tI aF) 2 (.p1 (.bP9 tI aF) .bool (.Z 16))),(.cb true)])) (
           .ite (aQ (.bP9 (.bP9 tI aF) .bool) 1 (.Z 16)) (
            .ret (bG (.bP9 aB (.bP9 aB .bool)) [(.p1 aB .bool (.Z 18)),(aQ (.bP9 tI aF) 2 (.p1 (.bP9 tI aF) .bool (.Z 16))),(.cb true)])) (
            .ret (bG (.bP9 aB (.bP9 aB .bool)) [(.p1 aB .bool (.Z 18)),(aQ (.bP9 tI aF) 2 (.p1 (.bP9 tI aF) .bool (.Z 16))),(aQ (.bP9 aB .bool) 1 (.Z 18))]))))))))))))
theorem aN5:bN Tryz.prog [mF,bL,qI,jM,fP,nP,qT,xQ,lS] lV false 3000 ⟨[],[]⟩ = .ok uF:=by kernel_rfl
theorem aK2 (x:eV × bP) (hx:okD (.bP9 bD aI) x) (hp:(fun _=>True) x):uF.wp [mF,bL,qI,jM,fP,nP,qT,xQ,lS] [⟨(.bP9 bD aI),x⟩] [] (fun v=>v.as (.bP9 aB (.bP9 aB .bool))=(fun x=>jB x.1 x.2.1 x.2.2) x):=by
 obtain ⟨⟨kd,i,ou,P⟩,v,d⟩:=x
 delta uF mF bL qI jM fP nP qT xQ lS;refine dD ?_
 simp only[Bool.not_eq_true',Bool.not_eq_false',aFL,aFM]
 refine ⟨fun h=>?_,fun h1=>⟨fun h=>?_,fun h2 _=>⟨fun h=>?_,fun h3=>⟨fun h=>?_,fun h5 _=>⟨fun h=>?_,fun h6=>?_⟩⟩⟩⟩⟩
 ·unfold jB;rw[if_pos (by rw[h];simp)]
 ·unfold jB fB;rw[if_pos (by rw[h];simp)]
 ·unfold jB;rw[if_pos (fun hh=>h ((cI _ _).1 hh.2.1).2)]
 ·unfold jB fB;rw[if_pos (by rw[h];simp)]
 ·unfold jB;rw[if_pos (fun hh=>h ((cI _ _).1 hh.2.2).2)]
 have h9:fB v i=true:=(cI _ _).2 ⟨h2,h3⟩
 have h10:fB d ou=true:=(cI _ _).2 ⟨h5,h6⟩
 have hd:=(cT d).1 h5
 clear h2 h3 h5 h6
 have h4:=aJD h1
 have hk:=((lE _).1 h1).1
 dsimp only at h4 hk
 rcases (show kd=1∨kd=2∨kd=3∨kd=4∨kd=5 by omega) with rfl|rfl|rfl|rfl|rfl
 all_goals
  refine dM ?_
  clear hk hx
  (repeat' first|intro _|(with_reducible apply And.intro))
  all_goals first|omega|(unfold maxLen;omega)|exact absurd trivial (by assumption)|(unfold jB;rw[if_neg (by simp[h1,h9,h10]),if_neg (by simp),if_neg (by simp),if_pos rfl];first|exact Prod.ext rfl (Prod.ext rfl (jC (by assumption)))|exact Prod.ext rfl (Prod.ext rfl (mR (by assumption))))|(simp[jB,h1,h9,h10, *];done)
theorem aMC:Con.Holds Tryz.prog lV:=aS aV (aH aKA (aH fT (aH aUL (aH aGM (aH yF (aH aP8 (aH aX0 (aH bEM (aH aMF aT))))))))) aN5 aK2
end
end Go.Proofs.YtmfpkkbhnmkfdaaGreat
