/- Mat3: lemmas. No conditions. -/
import Derived.Test.YtabamggdmdednaaGreatLin2
namespace Go.Proofs.YtabamggdmdednaaGreat
noncomputable section
set_option maxRecDepth 100000
open Go.ChangeShapes Go.WideShapes Go.ChangeAt Go.RowKit Go.Deep
set_option linter.unusedVariables false
set_option linter.unusedSimpArgs false
abbrev aC5:=Int × (Int × List Int)
def yU (m:aC5):Bool:=decide (1≤m.1∧m.1≤6∧1≤m.2.1∧m.2.1≤6∧(m.2.2.length:Int)=m.1 * m.2.1)&&m.2.2.all jL
theorem mU (m:aC5):yU m=true↔(1≤m.1∧m.1≤6∧1≤m.2.1∧m.2.1≤6∧(m.2.2.length:Int)=m.1 * m.2.1)∧m.2.2.all jL=true:=by unfold yU;simp only[Bool.and_eq_true,decide_eq_true_eq]
def aBA (m:aC5) (i:Nat):List Int:=(m.2.2.take ((i+1) * m.2.1.toNat)).drop (i * m.2.1.toNat)
def uF (m:aC5) (k:Nat):List Int:=mp m.1.toNat fun i=>m.2.2.getD (i * m.2.1.toNat+k) 0
def kJ (m:aC5) (x:List Int):List Int × Bool:=if yU m=true∧eQ x m.2.1=true then (mp m.1.toNat fun r=>(fS (aBA m r) x).1,an m.1.toNat fun r=>(fS (aBA m r) x).2) else ([],false)
def gT (m:aC5) (d:List Int):List Int × Bool:=if yU m=true∧eQ d m.1=true then (mp m.2.1.toNat fun k=>(fS (uF m k) d).1,an m.2.1.toNat fun k=>(fS (uF m k) d).2) else ([],false)
def bRQ:aC5:=(0,0,[])
def qS (f:Nat→List Int):Nat→List Int
 | 0=>[]
 | n+1=>qS f n++f n
def rM (m:aC5):aC5:=if yU m=true then (m.2.1,m.1,qS (uF m) m.2.1.toNat) else bRQ
def yS (d x:List Int) (i:Nat):List Int:=mp x.length fun j=>(eS (d.getD i 0) (x.getD j 0)).1
def aO8 (d x:List Int) (i:Nat):Bool:=an x.length fun j=>(eS (d.getD i 0) (x.getD j 0)).2
def rQ (d x:List Int):aC5 × Bool:=if iQ d=true∧iQ x=true then (((d.length:Int),(x.length:Int),qS (yS d x) d.length),an d.length (aO8 d x)) else (bRQ,false)
def xY (o:dI):aC5:=(o.2.2.1,o.2.1,o.2.2.2)
def qN (o:dI) (x:List Int):List Int × Bool:=if ¬ (opB o=true∧eQ x o.2.1=true) then ([],false) else
 if o.1=1 then kJ (xY o) x else if o.1=2 then kZ dP x o.2.2.2 else if o.1=4 then uS (o.2.2.2.getD 0 0) x else
 if o.1=5 then ((kZ dP x (kJ (xY o) x).1).1,(kJ (xY o) x).2 || (kZ dP x (kJ (xY o) x).1).2) else (oZ x,false)
def iS (o:dI) (x d:List Int):List Int × (List Int × Bool):=if ¬ (opB o=true∧eQ x o.2.1=true∧eQ d o.2.2.1=true) then ([],[],false) else
 if o.1=1 then ((gT (xY o) d).1,(rQ d x).1.2.2,(gT (xY o) d).2 || (rQ d x).2) else
 if o.1=2 then (d,d,false) else
 if o.1=4 then ((uS (o.2.2.2.getD 0 0) d).1,[(fS d x).1],(uS (o.2.2.2.getD 0 0) d).2 || (fS d x).2) else
 if o.1=5 then ((kZ dP d (gT (xY o) d).1).1,(rQ d x).1.2.2,(gT (xY o) d).2 || (kZ dP d (gT (xY o) d).1).2 || (rQ d x).2) else
 (oX x d,[],false)
theorem mJ {m:aC5} (h:yU m=true):∃ (R C:Nat) (data:List Int),m=((R:Int),(C:Int),data)∧1≤R∧R≤6∧1≤C∧C≤6∧data.length=R * C∧R * C≤36∧data.all jL=true:=by
 obtain ⟨a,b,data⟩:=m
 obtain ⟨⟨h1,h2,h3,h4,h5⟩,h6⟩:=(mU _).1 h
 dsimp only at h1 h2 h3 h4 h5 h6
 refine ⟨a.toNat,b.toNat,data,?_,by omega,by omega,by omega,by omega,?_,Nat.le_trans (Nat.mul_le_mul (show a.toNat≤6 by omega) (show b.toNat≤6 by omega)) (by decide),h6⟩
 ·rw[Int.toNat_of_nonneg (by omega),Int.toNat_of_nonneg (by omega)]
 ·have:((a.toNat * b.toNat:Nat):Int)=a * b:=by rw[Int.natCast_mul,Int.toNat_of_nonneg (by omega),Int.toNat_of_nonneg (by omega)]
  omega
theorem aII {R C k:Nat} (h:k<R):k * C+C≤R * C:=by
 have:=Nat.mul_le_mul_right C (show k+1≤R from h)
 rwa [Nat.succ_mul] at this
theorem aLU (R C k p:Nat) (data:List Int) (e:p=k * C):aBA ((R:Int),(C:Int),data) k=(data.take (p+C)).drop p:=by
 unfold aBA;simp only[Int.toNat_natCast,Nat.succ_mul,← e]
theorem tR {f:Nat→List Int} {L:Nat} (h:∀ i,(f i).length=L):(n:Nat)→(qS f n).length=n * L
 | 0=>by simp[qS]
 | n+1=>by rw[qS,List.length_append,tR h n,h,Nat.succ_mul]
theorem aOU {f:Nat→List Int} {L:Nat} (h:∀ i,(f i).length=L) {k:Nat}:(n:Nat)→k<n→((qS f n).take (k * L+L)).drop (k * L)=f k
 | 0,hk=>by omega
 | n+1,hk=>by
  have hl:=tR h n
  rcases Nat.lt_or_eq_of_le (Nat.le_of_lt_succ hk) with h'|rfl
  ·have h1:=aII (C:=L) h'
   rw[qS,List.take_append_of_le_length (by omega)]
   exact aOU h n h'
  ·rw[qS,List.take_of_length_le (by rw[List.length_append,hl,h];exact Nat.le_refl _),List.drop_append_of_le_length (by omega),List.drop_of_length_le (by omega),List.nil_append]
theorem aQV (m:aC5) (k:Nat):(uF m k).length=m.1.toNat:=fL _ _
theorem aYB {f:Nat→List Int} {x:Int}:(n:Nat)→x∈qS f n→∃ k,k<n∧x∈f k
 | 0,h=>by simp[qS] at h
 | n+1,h=>by
  rw[qS,List.mem_append] at h
  rcases h with h|h
  ·obtain ⟨k,h1,h2⟩:=aYB n h;exact ⟨k,by omega,h2⟩
  ·exact ⟨n,by omega,h⟩
theorem bHW {m:aC5} (h:yU m=true):yU (rM m)=true∧∀ k,k<m.2.1.toNat→aBA (rM m) k=uF m k:=by
 obtain ⟨R,C,data,rfl,h1,h2,h3,h4,h5,h6,h7⟩:=mJ h
 have e:rM ((R:Int),(C:Int),data)=((C:Int),(R:Int),qS (uF ((R:Int),(C:Int),data)) C):=if_pos h
 have hl:∀ i,(uF ((R:Int),(C:Int),data) i).length=R:=fun i=>aQV _ _
 constructor
 ·rw[e,mU]
  refine ⟨⟨?_,?_,?_,?_,?_⟩,?_⟩
  ·dsimp only;omega
  ·dsimp only;omega
  ·dsimp only;omega
  ·dsimp only;omega
  ·dsimp only;rw[tR hl,Int.natCast_mul]
  ·rw[List.all_eq_true]
   intro x hx
   obtain ⟨k,hk,hx⟩:=aYB _ hx
   unfold uF mp at hx
   rw[List.mem_map] at hx
   obtain ⟨i,hi,rfl⟩:=hx
   rw[List.mem_range] at hi
   dsimp only [Int.toNat_natCast] at hi ⊢
   have hb:=aII (C:=C) hi
   rw[aZ (show i * C+k<data.length by omega)]
   exact (List.all_eq_true.1 h7) _ (List.getElem_mem _)
 ·intro k hk
  rw[e,aLU C R k (k * R) _ rfl]
  exact aOU hl C hk
theorem bP7 {m:aC5} {d:List Int} (h:yU m=true) (h2:eQ d m.1=true):kJ (rM m) d=gT m d:=by
 obtain ⟨t1,t2⟩:=bHW h
 have e1:(rM m).2.1=m.1:=by unfold rM;rw[if_pos h]
 have e2:(rM m).1=m.2.1:=by unfold rM;rw[if_pos h]
 unfold kJ gT
 rw[if_pos ⟨t1,by rw[e1];exact h2⟩,if_pos ⟨h,h2⟩,e2]
 exact Prod.ext (bOF fun i hi=>by rw[t2 i hi]) (bOZ fun i hi=>by rw[t2 i hi])
theorem aKX {o:dI} (h:opB o=true) (h4:o.1=4):o.2.2.2.length=1:=by
 have:=((gY o).1 h).1
 have e:=aLT (o:=o) (by omega)
 omega
def jO:Con:=⟨172,(.bRW tI aH),.bool,[.val ⟨true,(.bRW tI aH),[]⟩],[⟨false,.bool,[0]⟩],false,none,
 ((fun _=>True):(Int × cP)→Prop),
 ((fun x=>yU x):(Int × cP)→(Bool))⟩
def aIK:T :=
 .bRX (.cmp .lss .i64) (.bRY tI tI (.p1 tI aH (.Z 0)) (.ci .i64 1)) <|
 .ite (.Z 1) (
  .ret (.cb false)) (
  .bRX (.cmp .gtr .i64) (.bRY tI tI (.p1 tI aH (.Z 0)) (.ci .i64 6)) <|
  .ite (.Z 2) (
   .ret (.cb false)) (
   .bRX (.cmp .lss .i64) (.bRY tI tI (aK (.bRW tI aH) 1 (.Z 0)) (.ci .i64 1)) <|
   .ite (.Z 3) (
    .ret (.cb false)) (
    .bRX (.cmp .gtr .i64) (.bRY tI tI (aK (.bRW tI aH) 1 (.Z 0)) (.ci .i64 6)) <|
    .ite (.Z 4) (
     .ret (.cb false)) (
     .bRX (.bS0 3 tI) (aP (.bRW tI aH) 2 (.Z 0)) <|
     .bRX (.ar .mul .i64) (.bRY tI tI (.p1 tI aH (.Z 0)) (aK (.bRW tI aH) 1 (.Z 0))) <|
     .bRX (.cmp .eql .i64) (.bRY tI tI (.Z 5) (.Z 6)) <|
     .ite (.Z 7) (
      .call 0 (aP (.bRW tI aH) 2 (.Z 0)) <|
      .ret (.Z 8)) (
      .ret (.cb false))))))
theorem bHN:bI Tryz.prog [iN] jO false 3000 ⟨[],[]⟩ = .ok aIK:=by kernel_rfl
theorem bGS (x:Int × cP) (hx:okD (.bRW tI aH) x) (hp:(fun _=>True) x):aIK.wp [iN] [⟨(.bRW tI aH),x⟩] [] (fun v=>v.as .bool=(fun x=>yU x) x):=by
 delta aIK iN;refine cW ?_
 (refine dB ?_;try with_reducible exact True.intro)
 (repeat' first|intro _|(with_reducible apply And.intro))
 all_goals first|(first|(refine (Bool.eq_false_iff.2 ?_).symm;rw[ne_eq,mU];intro hh;omega)|(refine (mU.2 ?_).symm;omega))|(have:=aRB (a:=x.1) (b:=x.2.1) (by omega) (by omega) (by omega) (by omega);omega)|(rw[Bool.eq_iff_iff,mU];exact ⟨fun h=>⟨⟨by omega,by omega,by omega,by omega,by assumption⟩,h⟩,fun h=>h.2⟩)
theorem aIU:Con.Holds Tryz.prog jO:=aS aV (aI aEO aQ) bHN bGS
def mF:Con:=⟨154,(.bRW (.bRW tI aH) aB),(.bRW aB .bool),[.val ⟨true,(.bRW tI aH),[]⟩,.val ⟨false,aB,[]⟩],[⟨false,aB,[2]⟩,⟨false,.bool,[0]⟩],false,none,
 ((fun _=>True):((Int × cP) × bK)→Prop),
 ((fun x=>kJ x.1 x.2):((Int × cP) × bK)→(bK × Bool))⟩
def aGC:T:=.call 0 (.p1 (.bRW tI aH) aB (.Z 0)) <|
 .bRX .not (.Z 1) <|
 .ite (.Z 2) (
  .ret (.bRY aB .bool (.nl 3 tI) (.cb false))) (
  .call 1 (.bRY aB tI (aP (.bRW (.bRW tI aH) aB) 1 (.Z 0)) (aK (.bRW tI aH) 1 (.p1 (.bRW tI aH) aB (.Z 0)))) <|
  .bRX .not (.Z 3) <|
  .ite (.Z 4) (
   .ret (.bRY aB .bool (.nl 3 tI) (.cb false))) (
   .loop (.bRW tI (.bRW .bool aB)) (bB (.bRW tI (.bRW .bool aB)) [(.ci .i64 0),(.cb false),(.nl 3 tI)]) <|
    .bRX (.cmp .lss .i64) (.bRY tI tI (.p1 tI (.bRW .bool aB) (.Z 5)) (.p1 tI aH (.p1 (.bRW tI aH) aB (.Z 0)))) <|
    .ite (.Z 6) (
     .bRX (.ar .mul .i64) (.bRY tI tI (.p1 tI (.bRW .bool aB) (.Z 5)) (aK (.bRW tI aH) 1 (.p1 (.bRW tI aH) aB (.Z 0)))) <|
     .bRX (.ar .add .i64) (.bRY tI tI (.p1 tI (.bRW .bool aB) (.Z 5)) (.ci .i64 1)) <|
     .bRX (.ar .mul .i64) (.bRY tI tI (.Z 8) (aK (.bRW tI aH) 1 (.p1 (.bRW tI aH) aB (.Z 0)))) <|
     .bRX (.bS2 3 tI) (bB (.bRW aB aD) [(aP (.bRW tI aH) 2 (.p1 (.bRW tI aH) aB (.Z 0))),(.Z 7),(.Z 9)]) <|
     .call 2 (.bRY aB aB (.Z 10) (aP (.bRW (.bRW tI aH) aB) 1 (.Z 0))) <|
     .bRX (.lit 3 tI 1) (.p1 tI .bool (.Z 11)) <|
     .bRX (.bS3 3 tI 8) (.bRY aB aB (aP (.bRW tI (.bRW .bool aB)) 2 (.Z 5)) (.Z 12)) <|
     .ite (aK (.bRW tI (.bRW .bool aB)) 1 (.Z 5)) (
      .bRX (.ar .add .i64) (.bRY tI tI (.p1 tI (.bRW .bool aB) (.Z 5)) (.ci .i64 1)) <|
      .bRZ 0 (bB (.bRW tI (.bRW .bool aB)) [(.Z 14),(.cb true),(.Z 13)])) (
      .bRX (.ar .add .i64) (.bRY tI tI (.p1 tI (.bRW .bool aB) (.Z 5)) (.ci .i64 1)) <|
      .bRZ 0 (bB (.bRW tI (.bRW .bool aB)) [(.Z 14),(aP (.bRW tI .bool) 1 (.Z 11)),(.Z 13)]))) (
     .ret (.bRY aB .bool (aP (.bRW tI (.bRW .bool aB)) 2 (.Z 5)) (aK (.bRW tI (.bRW .bool aB)) 1 (.Z 5))))))
theorem bCS:bI Tryz.prog [jO,cB,iK] mF false 3000 ⟨[(2984,4005,gQ 21 11++[.dr 0,.tm 8 0,.tm 7 0,.on 6,.sl 2])],[]⟩ = .ok aGC:=by kernel_rfl
theorem bAM (x:(Int × cP) × bK) (hx:okD (.bRW (.bRW tI aH) aB) x) (hp:(fun _=>True) x):aGC.wp [jO,cB,iK] [⟨(.bRW (.bRW tI aH) aB),x⟩] [] (fun v=>v.as (.bRW aB .bool)=(fun x=>kJ x.1 x.2) x):=by
 obtain ⟨m,v⟩:=x
 delta aGC jO cB iK;refine cW ?_
 simp only[Bool.not_eq_true',Bool.not_eq_false']
 refine ⟨fun h=>?_,fun h1=>⟨fun h=>?_,fun h2=>?_⟩⟩
 ·unfold kJ;rw[if_neg (by rw[h];simp)]
 ·unfold kJ;rw[if_neg (by rw[h];simp)]
 rw[show kJ m v=_ from if_pos ⟨h1,h2⟩]
 obtain ⟨R,C,data,rfl,g1,g2,g3,g4,g5,g6,g7⟩:=mJ h1
 refine cN (fun k=>((k:Int),an k (fun r=>(fS (aBA ((R:Int),(C:Int),data) r) v).2),mp k fun r=>(fS (aBA ((R:Int),(C:Int),data) r) v).1)) R rfl fun I μ k hk _ go=>?_
 dsimp only
 obtain ⟨p,e0⟩:∃ p,p=k * C:=⟨_,rfl⟩
 have e1:(k:Int) * (C:Int)=(p:Int):=by rw[e0];exact (Int.natCast_mul k C).symm
 have e2:((k:Int)+1) * (C:Int)=((p+C:Nat):Int):=by rw[Int.add_mul,e1,Int.one_mul];rfl
 have e4:k<R→p+C≤data.length:=fun h=>by rw[e0,g5];exact aII h
 simp only[e1,e2,mG,fL,← aLU R C k p data e0]
 (repeat' first|intro _|(refine go _ ?_ ?_ ?_)|(refine go _ ?_ ?_)|(with_reducible apply And.intro))
 all_goals first|omega|(unfold maxLen;omega)|(rw[fY,mH];first|exact Prod.ext rfl (Prod.ext (iT (by assumption)) rfl)|exact Prod.ext rfl (Prod.ext (mN (by assumption)) rfl))|(have e:k=R:=(by omega);subst e;rfl)
theorem aM8:Con.Holds Tryz.prog mF:=aS aV (aI aIU (aI jR (aI aF1 aQ))) bCS bAM
def mS:Con:=⟨174,(.bRW tI aH),(.bRW tI aH),[.val ⟨true,(.bRW tI aH),[]⟩],[⟨true,(.bRW tI aH),[0,0,2]⟩],false,none,
 ((fun _=>True):(Int × cP)→Prop),
 ((fun x=>rM x):(Int × cP)→(Int × cP))⟩
def xA:T:=.call 0 (.Z 0) <|
 .bRX .not (.Z 1) <|
 .ite (.Z 2) (
  .ret (bB (.bRW tI aH) [(.ci .i64 0),(.ci .i64 0),(.nl 3 tI)])) (
  .loop aH (.bRY tI aB (.ci .i64 0) (.nl 3 tI)) <|
   .bRX (.cmp .lss .i64) (.bRY tI tI (.p1 tI aB (.Z 3)) (aK (.bRW tI aH) 1 (.Z 0))) <|
   .ite (.Z 4) (
    .loop aH (.bRY tI aB (.ci .i64 0) (aP aH 1 (.Z 3))) <|
     .bRX (.cmp .lss .i64) (.bRY tI tI (.p1 tI aB (.Z 5)) (.p1 tI aH (.Z 0))) <|
     .ite (.Z 6) (
      .bRX (.ar .mul .i64) (.bRY tI tI (.p1 tI aB (.Z 5)) (aK (.bRW tI aH) 1 (.Z 0))) <|
      .bRX (.ar .add .i64) (.bRY tI tI (.Z 7) (.p1 tI aB (.Z 3))) <|
      .bRX (.bS1 3 tI) (.bRY aB tI (aP (.bRW tI aH) 2 (.Z 0)) (.Z 8)) <|
      .bRX (.lit 3 tI 1) (.Z 9) <|
      .bRX (.bS3 3 tI 8) (.bRY aB aB (aP aH 1 (.Z 5)) (.Z 10)) <|
      .bRX (.ar .add .i64) (.bRY tI tI (.p1 tI aB (.Z 5)) (.ci .i64 1)) <|
      .bRZ 0 (.bRY tI aB (.Z 12) (.Z 11))) (
      .bRX (.ar .add .i64) (.bRY tI tI (.p1 tI aB (.Z 3)) (.ci .i64 1)) <|
      .bRZ 1 (.bRY tI aB (.Z 7) (aP aH 1 (.Z 5))))) (
    .ret (bB (.bRW tI aH) [(aK (.bRW tI aH) 1 (.Z 0)),(.p1 tI aH (.Z 0)),(aP aH 1 (.Z 3))])))
theorem aQK:bI Tryz.prog [jO] mS false 3000 ⟨[(2986,2003,gQ 14 10++gQ 8 6++[.dr 0,.tm 4 0,.sl 6]),(2975,6005,[.tm 5 0,.sl 6])],[]⟩ = .ok xA:=by kernel_rfl
theorem aQD (x:Int × cP) (hx:okD (.bRW tI aH) x) (hp:(fun _=>True) x):xA.wp [jO] [⟨(.bRW tI aH),x⟩] [] (fun v=>v.as (.bRW tI aH)=(fun x=>rM x) x):=by
 obtain ⟨m,rfl⟩:∃ m,m=x:=⟨_,rfl⟩
 delta xA jO;refine cW ?_
 simp only[Bool.not_eq_true',Bool.not_eq_false']
 refine ⟨fun h=>?_,fun h1=>?_⟩
 ·unfold rM;rw[if_neg (by rw[h];exact Bool.false_ne_true)];rfl
 rw[show rM m=_ from if_pos h1]
 obtain ⟨R,C,data,rfl,g1,g2,g3,g4,g5,g6,g7⟩:=mJ h1
 refine cN (fun c=>((c:Int),qS (uF ((R:Int),(C:Int),data)) c)) C rfl fun I μ c hc _ go=>?_
 dsimp only
 refine dB ?_
 have hl:(qS (uF ((R:Int),(C:Int),data)) c).length=c * R:=tR (fun i=>aQV _ _) c
 have hq:c * R≤36:=Nat.le_trans (Nat.mul_le_mul hc g2) (by omega)
 generalize hD:qS (uF ((R:Int),(C:Int),data)) c=D at *
 constructor
 ·intro hlt
  refine cN (fun r=>((r:Int),D++mp r fun i=>data.getD (i * C+c) 0)) R (by simp[aSD]) fun I2 μ2 k hk _ go2=>?_
  dsimp only
  obtain ⟨p,e0⟩:∃ p,p=k * C:=⟨_,rfl⟩
  have e1:(k:Int) * (C:Int)=(p:Int):=by rw[e0];exact (Int.natCast_mul k C).symm
  have e2:(p:Int)+(c:Int)=((p+c:Nat):Int):=rfl
  have e4:k<R→p+C≤data.length:=fun h=>by rw[e0,g5];exact aII h
  simp only[e1,e2,mG,fL]
  (repeat' first|intro _|(refine go2 _ ?_ ?_ ?_)|(refine go2 _ ?_ ?_)|(refine go _ ?_ ?_ ?_)|(refine go _ ?_ ?_)|(with_reducible apply And.intro))
  all_goals first|omega|(unfold maxLen;omega)|(rw[fY,← List.append_assoc,← e0];rfl)|(have e:k=R:=(by omega);subst e;rw[qS,hD];rfl)
 ·intro hge
  have e:c=C:=by omega
  subst e
  rw[← hD]
theorem aP3:Con.Holds Tryz.prog mS:=aS aV (aI aIU aQ) aQK aQD
def qU:Con:=⟨160,(.bRW (.bRW tI aH) aB),(.bRW aB .bool),[.val ⟨true,(.bRW tI aH),[]⟩,.val ⟨false,aB,[]⟩],[⟨false,aB,[2]⟩,⟨false,.bool,[0]⟩],false,none,
 ((fun _=>True):((Int × cP) × bK)→Prop),
 ((fun x=>gT x.1 x.2):((Int × cP) × bK)→(bK × Bool))⟩
def aCW:T:=.call 0 (.p1 (.bRW tI aH) aB (.Z 0)) <|
 .bRX .not (.Z 1) <|
 .ite (.Z 2) (
  .ret (.bRY aB .bool (.nl 3 tI) (.cb false))) (
  .call 1 (.bRY aB tI (aP (.bRW (.bRW tI aH) aB) 1 (.Z 0)) (.p1 tI aH (.p1 (.bRW tI aH) aB (.Z 0)))) <|
  .bRX .not (.Z 3) <|
  .ite (.Z 4) (
   .ret (.bRY aB .bool (.nl 3 tI) (.cb false))) (
   .call 2 (.p1 (.bRW tI aH) aB (.Z 0)) <|
   .call 3 (.bRY (.bRW tI aH) aB (.Z 5) (aP (.bRW (.bRW tI aH) aB) 1 (.Z 0))) <|
   .ret (.Z 6)))
theorem aZK:bI Tryz.prog [jO,cB,mS,mF] qU false 3000 ⟨[],[]⟩ = .ok aCW:=by kernel_rfl
theorem aZ4 (x:(Int × cP) × bK) (hx:okD (.bRW (.bRW tI aH) aB) x) (hp:(fun _=>True) x):aCW.wp [jO,cB,mS,mF] [⟨(.bRW (.bRW tI aH) aB),x⟩] [] (fun v=>v.as (.bRW aB .bool)=(fun x=>gT x.1 x.2) x):=by
 obtain ⟨m,d⟩:=x
 delta aCW jO cB mS mF;refine cW ?_
 simp only[Bool.not_eq_true',Bool.not_eq_false']
 refine ⟨fun h=>?_,fun h1=>⟨fun h=>?_,fun h2 _ _=>bP7 h1 h2⟩⟩
 ·unfold gT;rw[if_neg (by rw[h];simp)]
 ·unfold gT;rw[if_neg (by rw[h];simp)]
theorem aZB:Con.Holds Tryz.prog qU:=aS aV (aI aIU (aI jR (aI aP3 (aI aM8 aQ)))) aZK aZ4
def yF:Con:=⟨161,aO,(.bRW (.bRW tI aH) .bool),[.val ⟨false,aB,[]⟩,.val ⟨false,aB,[]⟩],[⟨true,(.bRW tI aH),[0,0,2]⟩,⟨false,.bool,[0]⟩],false,none,
 ((fun _=>True):(bT)→Prop),
 ((fun x=>rQ x.1 x.2):(bT)→((Int × cP) × Bool))⟩
def aJE:T:=.call 0 (.p1 aB aB (.Z 0)) <|
 .bRX .not (.Z 1) <|
 .ite (.Z 2) (
  .ret (.bRY (.bRW tI aH) .bool (bB (.bRW tI aH) [(.ci .i64 0),(.ci .i64 0),(.nl 3 tI)]) (.cb false))) (
  .call 0 (aP aO 1 (.Z 0)) <|
  .bRX .not (.Z 3) <|
  .ite (.Z 4) (
   .ret (.bRY (.bRW tI aH) .bool (bB (.bRW tI aH) [(.ci .i64 0),(.ci .i64 0),(.nl 3 tI)]) (.cb false))) (
   .bRX (.bS0 3 tI) (.p1 aB aB (.Z 0)) <|
   .bRX (.bS0 3 tI) (aP aO 1 (.Z 0)) <|
   .bRX (.bS0 3 tI) (.p1 aB aB (.Z 0)) <|
   .loop (.bRW tI (.bRW .bool aB)) (bB (.bRW tI (.bRW .bool aB)) [(.ci .i64 0),(.cb false),(.nl 3 tI)]) <|
    .bRX (.cmp .lss .i64) (.bRY tI tI (.p1 tI (.bRW .bool aB) (.Z 8)) (.Z 7)) <|
    .ite (.Z 9) (
     .bRX (.bS1 3 tI) (.bRY aB tI (.p1 aB aB (.Z 0)) (.p1 tI (.bRW .bool aB) (.Z 8))) <|
     .bRX (.bS0 3 tI) (aP aO 1 (.Z 0)) <|
     .loop (.bRW tI (.bRW .bool aB)) (.bRY tI (.bRW .bool aB) (.ci .i64 0) (aP (.bRW tI (.bRW .bool aB)) 1 (.Z 8))) <|
      .bRX (.cmp .lss .i64) (.bRY tI tI (.p1 tI (.bRW .bool aB) (.Z 12)) (.Z 11)) <|
      .ite (.Z 13) (
       .bRX (.bS1 3 tI) (.bRY aB tI (aP aO 1 (.Z 0)) (.p1 tI (.bRW .bool aB) (.Z 12))) <|
       .call 1 (.bRY tI tI (.Z 10) (.Z 14)) <|
       .bRX (.lit 3 tI 1) (.p1 tI .bool (.Z 15)) <|
       .bRX (.bS3 3 tI 8) (.bRY aB aB (aP (.bRW tI (.bRW .bool aB)) 2 (.Z 12)) (.Z 16)) <|
       .ite (aK (.bRW tI (.bRW .bool aB)) 1 (.Z 12)) (
        .bRX (.ar .add .i64) (.bRY tI tI (.p1 tI (.bRW .bool aB) (.Z 12)) (.ci .i64 1)) <|
        .bRZ 0 (bB (.bRW tI (.bRW .bool aB)) [(.Z 18),(.cb true),(.Z 17)])) (
        .bRX (.ar .add .i64) (.bRY tI tI (.p1 tI (.bRW .bool aB) (.Z 12)) (.ci .i64 1)) <|
        .bRZ 0 (bB (.bRW tI (.bRW .bool aB)) [(.Z 18),(aP (.bRW tI .bool) 1 (.Z 15)),(.Z 17)]))) (
       .bRX (.ar .add .i64) (.bRY tI tI (.p1 tI (.bRW .bool aB) (.Z 8)) (.ci .i64 1)) <|
       .bRZ 1 (.bRY tI (.bRW .bool aB) (.Z 14) (aP (.bRW tI (.bRW .bool aB)) 1 (.Z 12))))) (
     .ret (.bRY (.bRW tI aH) .bool (bB (.bRW tI aH) [(.Z 5),(.Z 6),(aP (.bRW tI (.bRW .bool aB)) 2 (.Z 8))]) (aK (.bRW tI (.bRW .bool aB)) 1 (.Z 8))))))
theorem bI4:bI Tryz.prog [dE,iI] yF false 3000 ⟨[(2984,4008,gQ 27 23++gQ 21 14++[.dr 0,.tm 30 0,.tm 7 0,.sl 5]),(2971,12012,[.tm 36 0,.tm 7 0,.sl 5])],[]⟩ = .ok aJE:=by kernel_rfl
theorem bGN (x:bT) (hx:okD aO x) (hp:(fun _=>True) x):aJE.wp [dE,iI] [⟨aO,x⟩] [] (fun v=>v.as (.bRW (.bRW tI aH) .bool)=(fun x=>rQ x.1 x.2) x):=by
 obtain ⟨d,v⟩:=x
 delta aJE dE iI;refine cW ?_
 simp only[Bool.not_eq_true',Bool.not_eq_false']
 refine ⟨fun h=>?_,fun h1=>⟨fun h=>?_,fun h2 _ _ _=>?_⟩⟩
 ·unfold rQ;rw[if_neg (by rw[h];simp)];rfl
 ·unfold rQ;rw[if_neg (by rw[h];simp)];rfl
 rw[show rQ d v=_ from if_pos ⟨h1,h2⟩]
 have hd:=(cT d).1 h1
 have hv:=(cT v).1 h2
 refine cN (fun i=>((i:Int),an i (aO8 d v),qS (yS d v) i)) d.length rfl fun I μ i hi _ go=>?_
 dsimp only
 refine dB ?_
 have hl:(qS (yS d v) i).length=i * v.length:=tR (fun i=>fL _ _) i
 have hq:i * v.length≤36:=Nat.le_trans (Nat.mul_le_mul hi (show v.length≤6 by omega)) (by omega)
 generalize hD:qS (yS d v) i=D at *
 generalize hA:an i (aO8 d v)=A at *
 constructor
 ·intro hlt
  refine ⟨by omega,fun _ _=>?_⟩
  refine cN (fun j=>((j:Int),A || an j (fun j=>(eS (d.getD i 0) (v.getD j 0)).2),D++mp j fun j=>(eS (d.getD i 0) (v.getD j 0)).1)) v.length (by simp[aSD,bFZ]) fun I2 μ2 j hj _ go2=>?_
  dsimp only
  simp only[mG,fL]
  have ea:(A || an (j+1) (fun j=>(eS (d.getD i 0) (v.getD j 0)).2))=((A || an j (fun j=>(eS (d.getD i 0) (v.getD j 0)).2)) || (eS (d.getD i 0) (v.getD j 0)).2):=by rw[mH,Bool.or_assoc]
  (repeat' first|intro _|(refine go2 _ ?_ ?_ ?_)|(refine go2 _ ?_ ?_)|(refine go _ ?_ ?_ ?_)|(refine go _ ?_ ?_)|(with_reducible apply And.intro))
  all_goals first|omega|(unfold maxLen;omega)|(rw[fY,← List.append_assoc,ea];first|exact Prod.ext rfl (Prod.ext (iT (by assumption)) rfl)|exact Prod.ext rfl (Prod.ext (mN (by assumption)) rfl))|(have e:j=v.length:=(by omega);subst e;rw[qS,hD,mH,hA];rfl)
 ·intro hge
  have e:i=d.length:=by omega
  subst e
  rw[← hD,← hA]
theorem bJB:Con.Holds Tryz.prog yF:=aS aV (aI pS (aI aGR aQ)) bI4 bGN
def nW:Con:=⟨155,bF,(.bRW tI aH),[.val ⟨true,bF,[]⟩],[⟨true,(.bRW tI aH),[0,0,0]⟩],true,none,
 ((fun _=>True):(dI)→Prop),
 ((fun x=>xY x):(dI)→(Int × cP))⟩
def aI6:T:=.ret (bB (.bRW tI aH) [(aK bF 2 (.Z 0)),(aK bF 1 (.Z 0)),(aP bF 3 (.Z 0))])
theorem bH7:bI Tryz.prog [] nW false 3000 ⟨[],[]⟩ = .ok aI6:=by kernel_rfl
theorem bIG (x:dI) (hx:okD bF x) (hp:(fun _=>True) x):aI6.wp [] [⟨bF,x⟩] [] (fun v=>v.as (.bRW tI aH)=(fun x=>xY x) x):=by
 delta aI6;refine cW ?_;try with_reducible exact True.intro
 rfl
theorem aRL:Con.Holds Tryz.prog nW:=aS aV aQ bH7 bIG
def nA:Con:=⟨134,(.bRW bF aB),(.bRW aB .bool),[.val ⟨true,bF,[]⟩,.val ⟨false,aB,[]⟩],[⟨false,aB,[2]⟩,⟨false,.bool,[0]⟩],false,none,
 ((fun _=>True):(dI × bK)→Prop),
 ((fun x=>qN x.1 x.2):(dI × bK)→(bK × Bool))⟩
def xD:T:=.call 0 (.p1 bF aB (.Z 0)) <|
 .bRX .not (.Z 1) <|
 .ite (.Z 2) (
  .ret (.bRY aB .bool (.nl 3 tI) (.cb false))) (
  .call 1 (.bRY aB tI (aP (.bRW bF aB) 1 (.Z 0)) (aK bF 1 (.p1 bF aB (.Z 0)))) <|
  .bRX .not (.Z 3) <|
  .ite (.Z 4) (
   .ret (.bRY aB .bool (.nl 3 tI) (.cb false))) (
   .bRX (.cmp .eql .i64) (.bRY tI tI (.p1 tI (.bRW tI aH) (.p1 bF aB (.Z 0))) (.ci .i64 1)) <|
   .ite (.Z 5) (
    .call 2 (.p1 bF aB (.Z 0)) <|
    .call 3 (.bRY (.bRW tI aH) aB (.Z 6) (aP (.bRW bF aB) 1 (.Z 0))) <|
    .ret (.Z 7)) (
    .bRX (.cmp .eql .i64) (.bRY tI tI (.p1 tI (.bRW tI aH) (.p1 bF aB (.Z 0))) (.ci .i64 2)) <|
    .ite (.Z 6) (
     .call 4 (.bRY aB aB (aP (.bRW bF aB) 1 (.Z 0)) (aP bF 3 (.p1 bF aB (.Z 0)))) <|
     .ret (.Z 7)) (
     .bRX (.cmp .eql .i64) (.bRY tI tI (.p1 tI (.bRW tI aH) (.p1 bF aB (.Z 0))) (.ci .i64 4)) <|
     .ite (.Z 7) (
      .bRX (.bS1 3 tI) (.bRY aB tI (aP bF 3 (.p1 bF aB (.Z 0))) (.ci .i64 0)) <|
      .call 5 (.bRY tI aB (.Z 8) (aP (.bRW bF aB) 1 (.Z 0))) <|
      .ret (.Z 9)) (
      .bRX (.cmp .eql .i64) (.bRY tI tI (.p1 tI (.bRW tI aH) (.p1 bF aB (.Z 0))) (.ci .i64 5)) <|
      .ite (.Z 8) (
       .call 2 (.p1 bF aB (.Z 0)) <|
       .call 3 (.bRY (.bRW tI aH) aB (.Z 9) (aP (.bRW bF aB) 1 (.Z 0))) <|
       .call 4 (.bRY aB aB (aP (.bRW bF aB) 1 (.Z 0)) (.p1 aB .bool (.Z 10))) <|
       .ite (aP (.bRW aB .bool) 1 (.Z 10)) (
        .ret (.bRY aB .bool (.p1 aB .bool (.Z 11)) (.cb true))) (
        .ret (.Z 11))) (
       .call 6 (aP (.bRW bF aB) 1 (.Z 0)) <|
       .ret (.bRY aB .bool (.Z 9) (.cb false))))))))
theorem aQ2:bI Tryz.prog [lS,cB,nW,mF,lK,iZ,rI] nA false 3000 ⟨[],[]⟩ = .ok xD:=by kernel_rfl
theorem aP7 (x:dI × bK) (hx:okD (.bRW bF aB) x) (hp:(fun _=>True) x):xD.wp [lS,cB,nW,mF,lK,iZ,rI] [⟨(.bRW bF aB),x⟩] [] (fun v=>v.as (.bRW aB .bool)=(fun x=>qN x.1 x.2) x):=by
 obtain ⟨⟨kd,i,ou,P⟩,v⟩:=x
 delta xD lS cB nW mF lK iZ rI;refine cW ?_
 simp only[Bool.not_eq_true',Bool.not_eq_false']
 refine ⟨fun h=>?_,fun h1=>⟨fun h=>?_,fun h2=>?_⟩⟩
 ·unfold qN;rw[if_pos (by rw[h];simp)]
 ·unfold qN;rw[if_pos (by rw[h];simp)]
 have h4:=aKX h1
 have hk:=((gY _).1 h1).1
 dsimp only at h4 hk
 (refine dB ?_;try with_reducible exact True.intro)
 (repeat' first|intro _|(with_reducible apply And.intro))
 all_goals first|omega|(obtain rfl:kd=3:=(by omega);simp[qN,h1,h2];done)|(simp_all[qN];done)
theorem aPC:Con.Holds Tryz.prog nA:=aS aV (aI aOH (aI jR (aI aRL (aI aM8 (aI aOW (aI aI0 (aI aX2 aQ))))))) aQ2 aP7
def mE:Con:=⟨140,(.bRW bF aO),(.bRW aB (.bRW aB .bool)),[.val ⟨true,bF,[]⟩,.val ⟨false,aB,[]⟩,.val ⟨false,aB,[]⟩],[⟨false,aB,[2]⟩,⟨false,aB,[2]⟩,⟨false,.bool,[0]⟩],false,none,
 ((fun _=>True):(dI × bT)→Prop),
 ((fun x=>iS x.1 x.2.1 x.2.2):(dI × bT)→(bK × (bK × Bool)))⟩
def tC:T:=.call 0 (.p1 bF aO (.Z 0)) <|
 .bRX .not (.Z 1) <|
 .ite (.Z 2) (
  .ret (bB (.bRW aB (.bRW aB .bool)) [(.nl 3 tI),(.nl 3 tI),(.cb false)])) (
  .call 1 (.bRY aB tI (aK (.bRW bF aO) 1 (.Z 0)) (aK bF 1 (.p1 bF aO (.Z 0)))) <|
  .bRX .not (.Z 3) <|
  .ite (.Z 4) (
   .ret (bB (.bRW aB (.bRW aB .bool)) [(.nl 3 tI),(.nl 3 tI),(.cb false)])) (
   .call 1 (.bRY aB tI (aP (.bRW bF aO) 2 (.Z 0)) (aK bF 2 (.p1 bF aO (.Z 0)))) <|
   .bRX .not (.Z 5) <|
   .ite (.Z 6) (
    .ret (bB (.bRW aB (.bRW aB .bool)) [(.nl 3 tI),(.nl 3 tI),(.cb false)])) (
    .bRX (.cmp .eql .i64) (.bRY tI tI (.p1 tI (.bRW tI aH) (.p1 bF aO (.Z 0))) (.ci .i64 1)) <|
    .ite (.Z 7) (
     .call 2 (.p1 bF aO (.Z 0)) <|
     .call 3 (.bRY (.bRW tI aH) aB (.Z 8) (aP (.bRW bF aO) 2 (.Z 0))) <|
     .call 4 (.bRY aB aB (aP (.bRW bF aO) 2 (.Z 0)) (aK (.bRW bF aO) 1 (.Z 0))) <|
     .ite (aP (.bRW aB .bool) 1 (.Z 9)) (
      .ret (bB (.bRW aB (.bRW aB .bool)) [(.p1 aB .bool (.Z 9)),(aP (.bRW tI aH) 2 (.p1 (.bRW tI aH) .bool (.Z 10))),(.cb true)])) (
      .ret (bB (.bRW aB (.bRW aB .bool)) [(.p1 aB .bool (.Z 9)),(aP (.bRW tI aH) 2 (.p1 (.bRW tI aH) .bool (.Z 10))),(aP (.bRW (.bRW tI aH) .bool) 1 (.Z 10))]))) (
     .bRX (.cmp .eql .i64) (.bRY tI tI (.p1 tI (.bRW tI aH) (.p1 bF aO (.Z 0))) (.ci .i64 2)) <|
     .ite (.Z 8) (
      .call 5 (aP (.bRW bF aO) 2 (.Z 0)) <|
      .call 5 (aP (.bRW bF aO) 2 (.Z 0)) <|
      .ret (bB (.bRW aB (.bRW aB .bool)) [(.Z 9),(.Z 10),(.cb false)])) (
      .bRX (.cmp .eql .i64) (.bRY tI tI (.p1 tI (.bRW tI aH) (.p1 bF aO (.Z 0))) (.ci .i64 4)) <|
      .ite (.Z 9) (
       .bRX (.bS1 3 tI) (.bRY aB tI (aP bF 3 (.p1 bF aO (.Z 0))) (.ci .i64 0)) <|
       .call 6 (.bRY tI aB (.Z 10) (aP (.bRW bF aO) 2 (.Z 0))) <|
       .call 7 (.bRY aB aB (aP (.bRW bF aO) 2 (.Z 0)) (aK (.bRW bF aO) 1 (.Z 0))) <|
       .bRX (.lit 3 tI 1) (.p1 tI .bool (.Z 12)) <|
       .ite (aP (.bRW aB .bool) 1 (.Z 11)) (
        .ret (bB (.bRW aB (.bRW aB .bool)) [(.p1 aB .bool (.Z 11)),(.Z 13),(.cb true)])) (
        .ret (bB (.bRW aB (.bRW aB .bool)) [(.p1 aB .bool (.Z 11)),(.Z 13),(aP (.bRW tI .bool) 1 (.Z 12))]))) (
       .bRX (.cmp .eql .i64) (.bRY tI tI (.p1 tI (.bRW tI aH) (.p1 bF aO (.Z 0))) (.ci .i64 5)) <|
       .ite (.Z 10) (
        .call 2 (.p1 bF aO (.Z 0)) <|
        .call 3 (.bRY (.bRW tI aH) aB (.Z 11) (aP (.bRW bF aO) 2 (.Z 0))) <|
        .call 8 (.bRY aB aB (aP (.bRW bF aO) 2 (.Z 0)) (.p1 aB .bool (.Z 12))) <|
        .call 4 (.bRY aB aB (aP (.bRW bF aO) 2 (.Z 0)) (aK (.bRW bF aO) 1 (.Z 0))) <|
        .ite (aP (.bRW aB .bool) 1 (.Z 12)) (
         .ret (bB (.bRW aB (.bRW aB .bool)) [(.p1 aB .bool (.Z 13)),(aP (.bRW tI aH) 2 (.p1 (.bRW tI aH) .bool (.Z 14))),(.cb true)])) (
         .ite (aP (.bRW aB .bool) 1 (.Z 13)) (
          .ret (bB (.bRW aB (.bRW aB .bool)) [(.p1 aB .bool (.Z 13)),(aP (.bRW tI aH) 2 (.p1 (.bRW tI aH) .bool (.Z 14))),(.cb true)])) (
          .ret (bB (.bRW aB (.bRW aB .bool)) [(.p1 aB .bool (.Z 13)),(aP (.bRW tI aH) 2 (.p1 (.bRW tI aH) .bool (.Z 14))),(aP (.bRW (.bRW tI aH) .bool) 1 (.Z 14))])))) (
        .call 9 (aP (.bRW bF aO) 1 (.Z 0)) <|
        .ret (bB (.bRW aB (.bRW aB .bool)) [(.Z 11),(.nl 3 tI),(.cb false)]))))))))
theorem aOE:bI Tryz.prog [lS,cB,nW,qU,yF,bR,iZ,iK,lK,rH] mE false 3000 ⟨[],[]⟩ = .ok tC:=by kernel_rfl
theorem aM5 (x:dI × bT) (hx:okD (.bRW bF aO) x) (hp:(fun _=>True) x):tC.wp [lS,cB,nW,qU,yF,bR,iZ,iK,lK,rH] [⟨(.bRW bF aO),x⟩] [] (fun v=>v.as (.bRW aB (.bRW aB .bool))=(fun x=>iS x.1 x.2.1 x.2.2) x):=by
 obtain ⟨⟨kd,i,ou,P⟩,v,d⟩:=x
 delta tC lS cB nW qU yF bR iZ iK lK rH;refine cW ?_
 simp only[Bool.not_eq_true',Bool.not_eq_false']
 refine ⟨fun h=>?_,fun h1=>⟨fun h=>?_,fun h2=>⟨fun h=>?_,fun h3=>?_⟩⟩⟩
 ·unfold iS;rw[if_pos (by rw[h];simp)]
 ·unfold iS;rw[if_pos (by rw[h];simp)]
 ·unfold iS;rw[if_pos (by rw[h];simp)]
 have h4:=aKX h1
 have hk:=((gY _).1 h1).1
 have hd:=(cT _).1 ((cI _ _).1 h3).1
 dsimp only at h4 hk
 (refine dB ?_;try with_reducible exact True.intro)
 (repeat' first|intro _|(with_reducible apply And.intro))
 all_goals first|omega|(obtain rfl:kd=3:=(by omega);simp[iS,h1,h2,h3];done)|(simp_all[iS];done)
theorem aM0:Con.Holds Tryz.prog mE:=aS aV (aI aOH (aI jR (aI aRL (aI aZB (aI bJB (aI gS (aI aI0 (aI aF1 (aI aOW (aI aZF aQ)))))))))) aOE aM5
def nV:Con:=⟨184,(.bRW tI aH),.bool,[.val ⟨true,(.bRW tI aH),[]⟩],[⟨false,.bool,[0]⟩],false,none,
 ((fun _=>True):(Int × cP)→Prop),
 ((fun x=>yU x):(Int × cP)→(Bool))⟩
def aIH:T:=.call 0 (bB (.bRW tI aD) [(.p1 tI aH (.Z 0)),(.ci .i64 1),(.ci .i64 6)]) <|
 .bRX .not (.Z 1) <|
 .ite (.Z 2) (
  .ret (.cb false)) (
  .call 0 (bB (.bRW tI aD) [(aK (.bRW tI aH) 1 (.Z 0)),(.ci .i64 1),(.ci .i64 6)]) <|
  .bRX .not (.Z 3) <|
  .ite (.Z 4) (
   .ret (.cb false)) (
   .bRX (.bS0 3 tI) (aP (.bRW tI aH) 2 (.Z 0)) <|
   .bRX (.ar .mul .i64) (.bRY tI tI (.p1 tI aH (.Z 0)) (aK (.bRW tI aH) 1 (.Z 0))) <|
   .bRX (.cmp .neq .i64) (.bRY tI tI (.Z 5) (.Z 6)) <|
   .ite (.Z 7) (
    .ret (.cb false)) (
    .loop tI (.ci .i64 0) <|
     .bRX (.bS0 3 tI) (aP (.bRW tI aH) 2 (.Z 0)) <|
     .bRX (.cmp .lss .i64) (.bRY tI tI (.Z 8) (.Z 9)) <|
     .ite (.Z 10) (
      .bRX (.bS1 3 tI) (.bRY aB tI (aP (.bRW tI aH) 2 (.Z 0)) (.Z 8)) <|
      .call 1 (.Z 11) <|
      .bRX .not (.Z 12) <|
      .ite (.Z 13) (
       .ret (.cb false)) (
       .bRX (.ar .add .i64) (.bRY tI tI (.Z 8) (.ci .i64 1)) <|
       .bRZ 0 (.Z 14))) (
      .ret (.cb true)))))
theorem bIS:bI Tryz.prog [bL,gJ] nV false 3000 ⟨[(2988,8008,gQ 24 4++[.dr 0,.tm 3 0])],[]⟩ = .ok aIH:=by kernel_rfl
theorem bI9 (x:Int × cP) (hx:okD (.bRW tI aH) x) (hp:(fun _=>True) x):aIH.wp [bL,gJ] [⟨(.bRW tI aH),x⟩] [] (fun v=>v.as .bool=(fun x=>yU x) x):=by
 have hm:List.length x.2.2≤9223372036854775807:=hx.2.2.1
 delta aIH bL gJ;refine cW ?_
 simp only[mG,aFJ,aF4]
 (repeat' first|intro _|(with_reducible apply And.intro))
 all_goals first|(first|(refine (Bool.eq_false_iff.2 ?_).symm;rw[ne_eq,mU];intro hh;omega)|(refine (mU.2 ?_).symm;omega))|(have:=aRB (a:=x.1) (b:=x.2.1) (by omega) (by omega) (by omega) (by omega);omega)|(refine (Bool.eq_false_iff.2 fun h=>?_).symm;rw[mU] at h;exact absurd h.1.2.2.2.2 (by assumption))|skip
 refine pA (fun k=>(k:Int)) (fun k=>(List.take k x.2.2).all jL=true) x.2.2.length rfl rfl fun I μ k hk hG _ go=>?_
 try dsimp only
 refine dB ?_
 have e:∀ h:k<x.2.2.length,(List.take (k+1) x.2.2).all jL=jL (x.2.2.getD k 0):=fun h=>by rw[mT jL x.2.2 h,hG,Bool.true_and,aZ h]
 (repeat' first|intro _|(refine go _ ?_ ?_ ?_)|(refine go _ ?_ ?_)|(with_reducible apply And.intro))
 all_goals first|omega|(refine (Bool.eq_false_iff.2 fun hh=>?_).symm;have h1:=List.all_eq_true.1 ((mU x).1 hh).2 _ (List.getElem_mem (show k<x.2.2.length by omega));rw[← aZ (d:=0)] at h1;exact Bool.noConfusion (h1.symm.trans (by assumption:_=false)))|(exact (e (by omega)).trans (by assumption))|rfl|skip
 refine ((mU x).2 ⟨⟨by omega,by omega,by omega,by omega,by omega⟩,?_⟩).symm
 rwa [List.take_of_length_le (by omega)] at hG
theorem aS3:Con.Holds Tryz.prog nV:=aS aV (aI eV (aI aDF aQ)) bIS bI9
def xW:Con:=⟨185,(.bRW (.bRW tI aH) tI),aB,[.val ⟨true,(.bRW tI aH),[]⟩,.val ⟨false,tI,[]⟩],[⟨false,aB,[0]⟩],true,none,
 ((fun x=>yU x.1=true∧0≤x.2∧x.2<x.1.1):((Int × cP) × Int)→Prop),
 ((fun x=>aBA x.1 x.2.toNat):((Int × cP) × Int)→(List Int))⟩
def aJS:T :=
 .bRX (.ar .mul .i64) (.bRY tI tI (aP (.bRW (.bRW tI aH) tI) 1 (.Z 0)) (aK (.bRW tI aH) 1 (.p1 (.bRW tI aH) tI (.Z 0)))) <|
 .bRX (.ar .add .i64) (.bRY tI tI (aP (.bRW (.bRW tI aH) tI) 1 (.Z 0)) (.ci .i64 1)) <|
 .bRX (.ar .mul .i64) (.bRY tI tI (.Z 2) (aK (.bRW tI aH) 1 (.p1 (.bRW tI aH) tI (.Z 0)))) <|
 .bRX (.bS2 3 tI) (bB (.bRW aB aD) [(aP (.bRW tI aH) 2 (.p1 (.bRW tI aH) tI (.Z 0))),(.Z 1),(.Z 3)]) <|
 .ret (.Z 4)
theorem bIL:bI Tryz.prog [] xW false 3000 ⟨[],[]⟩ = .ok aJS:=by kernel_rfl
theorem bI7 (x:(Int × cP) × Int) (hx:okD (.bRW (.bRW tI aH) tI) x) (hp:(fun x=>yU x.1=true∧0≤x.2∧x.2<x.1.1) x):aJS.wp [] [⟨(.bRW (.bRW tI aH) tI),x⟩] [] (fun v=>v.as aB=(fun x=>aBA x.1 x.2.toNat) x):=by
 obtain ⟨m,k⟩:=x
 obtain ⟨h1,h2,h3⟩:yU m=true∧0≤k∧k<m.1:=hp
 obtain ⟨R,C,data,rfl,g1,g2,g3,g4,g5,g6,g7⟩:=mJ h1
 obtain ⟨k,rfl⟩:=Int.eq_ofNat_of_zero_le h2
 have h3:k<R:=by dsimp only at h3;omega
 delta aJS;refine cW ?_
 obtain ⟨p,e0⟩:∃ p,p=k * C:=⟨_,rfl⟩
 have e1:(k:Int) * (C:Int)=(p:Int):=by rw[e0];exact (Int.natCast_mul k C).symm
 have e2:((k:Int)+1) * (C:Int)=((p+C:Nat):Int):=by rw[Int.add_mul,e1,Int.one_mul];rfl
 have e4:p+C≤data.length:=by rw[e0,g5];exact aII h3
 simp only[e1,e2,mG,← aLU R C k p data e0]
 (repeat' first|intro _|(with_reducible apply And.intro))
 all_goals first|omega|trivial|rfl
theorem bH0:Con.Holds Tryz.prog xW:=aS aV aQ bIL bI7
def yI:Con:=⟨188,(.bRW (.bRW tI aH) tI),aB,[.val ⟨true,(.bRW tI aH),[]⟩,.val ⟨false,tI,[]⟩],[⟨false,aB,[2]⟩],false,none,
 ((fun x=>yU x.1=true∧0≤x.2∧x.2<x.1.2.1):((Int × cP) × Int)→Prop),
 ((fun x=>uF x.1 x.2.toNat):((Int × cP) × Int)→(List Int))⟩
def aIM:T:=.loop aH (.bRY tI aB (.ci .i64 0) (.nl 3 tI)) <|
 .bRX (.cmp .lss .i64) (.bRY tI tI (.p1 tI aB (.Z 1)) (.p1 tI aH (.p1 (.bRW tI aH) tI (.Z 0)))) <|
 .ite (.Z 2) (
  .bRX (.ar .mul .i64) (.bRY tI tI (.p1 tI aB (.Z 1)) (aK (.bRW tI aH) 1 (.p1 (.bRW tI aH) tI (.Z 0)))) <|
  .bRX (.ar .add .i64) (.bRY tI tI (.Z 3) (aP (.bRW (.bRW tI aH) tI) 1 (.Z 0))) <|
  .bRX (.bS1 3 tI) (.bRY aB tI (aP (.bRW tI aH) 2 (.p1 (.bRW tI aH) tI (.Z 0))) (.Z 4)) <|
  .bRX (.lit 3 tI 1) (.Z 5) <|
  .bRX (.bS3 3 tI 8) (.bRY aB aB (aP aH 1 (.Z 1)) (.Z 6)) <|
  .bRX (.ar .add .i64) (.bRY tI tI (.p1 tI aB (.Z 1)) (.ci .i64 1)) <|
  .bRZ 0 (.bRY tI aB (.Z 8) (.Z 7))) (
  .ret (aP aH 1 (.Z 1)))
theorem bIN:bI Tryz.prog [] yI false 3000 ⟨[(2991,1001,[.dr 7,.dr 0,.tm 6 0,.on 5,.sl 2])],[]⟩ = .ok aIM:=by kernel_rfl
theorem bIY (x:(Int × cP) × Int) (hx:okD (.bRW (.bRW tI aH) tI) x) (hp:(fun x=>yU x.1=true∧0≤x.2∧x.2<x.1.2.1) x):aIM.wp [] [⟨(.bRW (.bRW tI aH) tI),x⟩] [] (fun v=>v.as aB=(fun x=>uF x.1 x.2.toNat) x):=by
 obtain ⟨m,c⟩:=x
 obtain ⟨h1,h2,h3⟩:yU m=true∧0≤c∧c<m.2.1:=hp
 obtain ⟨R,C,data,rfl,g1,g2,g3,g4,g5,g6,g7⟩:=mJ h1
 obtain ⟨c,rfl⟩:=Int.eq_ofNat_of_zero_le h2
 have h3:c<C:=by dsimp only at h3;omega
 delta aIM;refine cW ?_
 refine cN (fun r=>((r:Int),mp r fun i=>data.getD (i * C+c) 0)) R rfl fun I μ k hk _ go=>?_
 dsimp only
 obtain ⟨p,e0⟩:∃ p,p=k * C:=⟨_,rfl⟩
 have e1:(k:Int) * (C:Int)=(p:Int):=by rw[e0];exact (Int.natCast_mul k C).symm
 have e2:(p:Int)+(c:Int)=((p+c:Nat):Int):=rfl
 have e4:k<R→p+C≤data.length:=fun h=>by rw[e0,g5];exact aII h
 simp only[e1,e2,mG,fL]
 (repeat' first|intro _|(refine go _ ?_ ?_ ?_)|(refine go _ ?_ ?_)|(with_reducible apply And.intro))
 all_goals first|omega|(unfold maxLen;omega)|(rw[fY,← e0];rfl)|(have e:k=R:=(by omega);subst e;rfl)
theorem bIM:Con.Holds Tryz.prog yI:=aS aV aQ bIN bIY
def tP:Con:=⟨175,(.bRW (.bRW tI aH) aB),(.bRW aB .bool),[.val ⟨true,(.bRW tI aH),[]⟩,.val ⟨false,aB,[]⟩],[⟨false,aB,[2]⟩,⟨false,.bool,[0]⟩],false,none,
 ((fun _=>True):((Int × cP) × bK)→Prop),
 ((fun x=>kJ x.1 x.2):((Int × cP) × bK)→(bK × Bool))⟩
def aEW:T:=.call 0 (.p1 (.bRW tI aH) aB (.Z 0)) <|
 .bRX .not (.Z 1) <|
 .ite (.Z 2) (
  .ret (.bRY aB .bool (.nl 3 tI) (.cb false))) (
  .call 1 (aP (.bRW (.bRW tI aH) aB) 1 (.Z 0)) <|
  .bRX .not (.Z 3) <|
  .ite (.Z 4) (
   .ret (.bRY aB .bool (.nl 3 tI) (.cb false))) (
   .bRX (.bS0 3 tI) (aP (.bRW (.bRW tI aH) aB) 1 (.Z 0)) <|
   .bRX (.cmp .neq .i64) (.bRY tI tI (.Z 5) (aK (.bRW tI aH) 1 (.p1 (.bRW tI aH) aB (.Z 0)))) <|
   .ite (.Z 6) (
    .ret (.bRY aB .bool (.nl 3 tI) (.cb false))) (
    .loop (.bRW tI (.bRW .bool aB)) (bB (.bRW tI (.bRW .bool aB)) [(.ci .i64 0),(.cb false),(.nl 3 tI)]) <|
     .bRX (.cmp .lss .i64) (.bRY tI tI (.p1 tI (.bRW .bool aB) (.Z 7)) (.p1 tI aH (.p1 (.bRW tI aH) aB (.Z 0)))) <|
     .ite (.Z 8) (
      .call 2 (.bRY (.bRW tI aH) tI (.p1 (.bRW tI aH) aB (.Z 0)) (.p1 tI (.bRW .bool aB) (.Z 7))) <|
      .call 3 (.bRY aB aB (.Z 9) (aP (.bRW (.bRW tI aH) aB) 1 (.Z 0))) <|
      .bRX (.lit 3 tI 1) (.p1 tI .bool (.Z 10)) <|
      .bRX (.bS3 3 tI 8) (.bRY aB aB (aP (.bRW tI (.bRW .bool aB)) 2 (.Z 7)) (.Z 11)) <|
      .ite (aK (.bRW tI (.bRW .bool aB)) 1 (.Z 7)) (
       .bRX (.ar .add .i64) (.bRY tI tI (.p1 tI (.bRW .bool aB) (.Z 7)) (.ci .i64 1)) <|
       .bRZ 0 (bB (.bRW tI (.bRW .bool aB)) [(.Z 13),(.cb true),(.Z 12)])) (
       .bRX (.ar .add .i64) (.bRY tI tI (.p1 tI (.bRW .bool aB) (.Z 7)) (.ci .i64 1)) <|
       .bRZ 0 (bB (.bRW tI (.bRW .bool aB)) [(.Z 13),(aP (.bRW tI .bool) 1 (.Z 10)),(.Z 12)]))) (
      .ret (.bRY aB .bool (aP (.bRW tI (.bRW .bool aB)) 2 (.Z 7)) (aK (.bRW tI (.bRW .bool aB)) 1 (.Z 7)))))))
theorem bDM:bI Tryz.prog [nV,bN,xW,eY] tP false 3000 ⟨[(2984,8007,gQ 26 11++[.dr 0,.tm 8 0,.tm 7 0,.on 6,.sl 2])],[]⟩ = .ok aEW:=by kernel_rfl
theorem bBE (x:(Int × cP) × bK) (hx:okD (.bRW (.bRW tI aH) aB) x) (hp:(fun _=>True) x):aEW.wp [nV,bN,xW,eY] [⟨(.bRW (.bRW tI aH) aB),x⟩] [] (fun v=>v.as (.bRW aB .bool)=(fun x=>kJ x.1 x.2) x):=by
 obtain ⟨m,v⟩:=x
 delta aEW nV bN xW eY;refine cW ?_
 simp only[Bool.not_eq_true',Bool.not_eq_false',aFJ,aF4]
 refine ⟨fun h=>?_,fun h1=>⟨fun h=>?_,fun h2 _=>⟨fun h=>?_,fun h3=>?_⟩⟩⟩
 ·unfold kJ;rw[if_neg (by rw[h];simp)]
 ·unfold kJ eQ;rw[if_neg (by rw[h];simp)]
 ·unfold kJ eQ;rw[if_neg (fun hh=>h (by have:=hh.2;rw[Bool.and_eq_true,decide_eq_true_eq] at this;exact this.2))]
 have h4:eQ v m.2.1=true:=(cI _ _).2 ⟨h2,h3⟩
 rw[show kJ m v=_ from if_pos ⟨h1,h4⟩]
 obtain ⟨R,C,data,rfl,g1,g2,g3,g4,g5,g6,g7⟩:=mJ h1
 refine cN (fun k=>((k:Int),an k (fun r=>(fS (aBA ((R:Int),(C:Int),data) r) v).2),mp k fun r=>(fS (aBA ((R:Int),(C:Int),data) r) v).1)) R rfl fun I μ k hk _ go=>?_
 dsimp only
 simp only[mG,fL]
 (repeat' first|intro _|(refine go _ ?_ ?_ ?_)|(refine go _ ?_ ?_)|(with_reducible apply And.intro))
 all_goals first|omega|exact h1|(unfold maxLen;omega)|(rw[fY,mH];first|exact Prod.ext rfl (Prod.ext (iT (by assumption)) rfl)|exact Prod.ext rfl (Prod.ext (mN (by assumption)) rfl))|(have e:k=R:=(by omega);subst e;rfl)
theorem bBO:Con.Holds Tryz.prog tP:=aS aV (aI aS3 (aI fD (aI bH0 (aI aA6 aQ)))) bDM bBE
def qI:Con:=⟨182,(.bRW (.bRW tI aH) aB),(.bRW aB .bool),[.val ⟨true,(.bRW tI aH),[]⟩,.val ⟨false,aB,[]⟩],[⟨false,aB,[2]⟩,⟨false,.bool,[0]⟩],false,none,
 ((fun _=>True):((Int × cP) × bK)→Prop),
 ((fun x=>gT x.1 x.2):((Int × cP) × bK)→(bK × Bool))⟩
def aAV:T:=.call 0 (.p1 (.bRW tI aH) aB (.Z 0)) <|
 .bRX .not (.Z 1) <|
 .ite (.Z 2) (
  .ret (.bRY aB .bool (.nl 3 tI) (.cb false))) (
  .call 1 (aP (.bRW (.bRW tI aH) aB) 1 (.Z 0)) <|
  .bRX .not (.Z 3) <|
  .ite (.Z 4) (
   .ret (.bRY aB .bool (.nl 3 tI) (.cb false))) (
   .bRX (.bS0 3 tI) (aP (.bRW (.bRW tI aH) aB) 1 (.Z 0)) <|
   .bRX (.cmp .neq .i64) (.bRY tI tI (.Z 5) (.p1 tI aH (.p1 (.bRW tI aH) aB (.Z 0)))) <|
   .ite (.Z 6) (
    .ret (.bRY aB .bool (.nl 3 tI) (.cb false))) (
    .loop (.bRW tI (.bRW .bool aB)) (bB (.bRW tI (.bRW .bool aB)) [(.ci .i64 0),(.cb false),(.nl 3 tI)]) <|
     .bRX (.cmp .lss .i64) (.bRY tI tI (.p1 tI (.bRW .bool aB) (.Z 7)) (aK (.bRW tI aH) 1 (.p1 (.bRW tI aH) aB (.Z 0)))) <|
     .ite (.Z 8) (
      .call 2 (.bRY (.bRW tI aH) tI (.p1 (.bRW tI aH) aB (.Z 0)) (.p1 tI (.bRW .bool aB) (.Z 7))) <|
      .call 3 (.bRY aB aB (.Z 9) (aP (.bRW (.bRW tI aH) aB) 1 (.Z 0))) <|
      .bRX (.lit 3 tI 1) (.p1 tI .bool (.Z 10)) <|
      .bRX (.bS3 3 tI 8) (.bRY aB aB (aP (.bRW tI (.bRW .bool aB)) 2 (.Z 7)) (.Z 11)) <|
      .ite (aK (.bRW tI (.bRW .bool aB)) 1 (.Z 7)) (
       .bRX (.ar .add .i64) (.bRY tI tI (.p1 tI (.bRW .bool aB) (.Z 7)) (.ci .i64 1)) <|
       .bRZ 0 (bB (.bRW tI (.bRW .bool aB)) [(.Z 13),(.cb true),(.Z 12)])) (
       .bRX (.ar .add .i64) (.bRY tI tI (.p1 tI (.bRW .bool aB) (.Z 7)) (.ci .i64 1)) <|
       .bRZ 0 (bB (.bRW tI (.bRW .bool aB)) [(.Z 13),(aP (.bRW tI .bool) 1 (.Z 10)),(.Z 12)]))) (
      .ret (.bRY aB .bool (aP (.bRW tI (.bRW .bool aB)) 2 (.Z 7)) (aK (.bRW tI (.bRW .bool aB)) 1 (.Z 7)))))))
theorem aXU:bI Tryz.prog [nV,bN,yI,eY] qI false 3000 ⟨[(2984,8007,gQ 26 11++[.dr 0,.tm 8 0,.tm 7 0,.on 6,.sl 2])],[]⟩ = .ok aAV:=by kernel_rfl
theorem aXO (x:(Int × cP) × bK) (hx:okD (.bRW (.bRW tI aH) aB) x) (hp:(fun _=>True) x):aAV.wp [nV,bN,yI,eY] [⟨(.bRW (.bRW tI aH) aB),x⟩] [] (fun v=>v.as (.bRW aB .bool)=(fun x=>gT x.1 x.2) x):=by
 obtain ⟨m,v⟩:=x
 delta aAV nV bN yI eY;refine cW ?_
 simp only[Bool.not_eq_true',Bool.not_eq_false',aFJ,aF4]
 refine ⟨fun h=>?_,fun h1=>⟨fun h=>?_,fun h2 _=>⟨fun h=>?_,fun h3=>?_⟩⟩⟩
 ·unfold gT;rw[if_neg (by rw[h];simp)]
 ·unfold gT eQ;rw[if_neg (by rw[h];simp)]
 ·unfold gT eQ;rw[if_neg (fun hh=>h (by have:=hh.2;rw[Bool.and_eq_true,decide_eq_true_eq] at this;exact this.2))]
 have h4:eQ v m.1=true:=(cI _ _).2 ⟨h2,h3⟩
 rw[show gT m v=_ from if_pos ⟨h1,h4⟩]
 obtain ⟨R,C,data,rfl,g1,g2,g3,g4,g5,g6,g7⟩:=mJ h1
 refine cN (fun k=>((k:Int),an k (fun r=>(fS (uF ((R:Int),(C:Int),data) r) v).2),mp k fun r=>(fS (uF ((R:Int),(C:Int),data) r) v).1)) C rfl fun I μ k hk _ go=>?_
 dsimp only
 simp only[mG,fL]
 (repeat' first|intro _|(refine go _ ?_ ?_ ?_)|(refine go _ ?_ ?_)|(with_reducible apply And.intro))
 all_goals first|omega|exact h1|(unfold maxLen;omega)|(rw[fY,mH];first|exact Prod.ext rfl (Prod.ext (iT (by assumption)) rfl)|exact Prod.ext rfl (Prod.ext (mN (by assumption)) rfl))|(have e:k=C:=(by omega);subst e;rfl)
theorem aWN:Con.Holds Tryz.prog qI:=aS aV (aI aS3 (aI fD (aI bIM (aI aA6 aQ)))) aXU aXO
def xZ:Con:=⟨183,aO,(.bRW (.bRW tI aH) .bool),[.val ⟨false,aB,[]⟩,.val ⟨false,aB,[]⟩],[⟨true,(.bRW tI aH),[0,0,2]⟩,⟨false,.bool,[0]⟩],false,none,
 ((fun _=>True):(bT)→Prop),
 ((fun x=>rQ x.1 x.2):(bT)→((Int × cP) × Bool))⟩
def aJT:T:=.call 0 (.p1 aB aB (.Z 0)) <|
 .bRX .not (.Z 1) <|
 .ite (.Z 2) (
  .ret (.bRY (.bRW tI aH) .bool (bB (.bRW tI aH) [(.ci .i64 0),(.ci .i64 0),(.nl 3 tI)]) (.cb false))) (
  .call 0 (aP aO 1 (.Z 0)) <|
  .bRX .not (.Z 3) <|
  .ite (.Z 4) (
   .ret (.bRY (.bRW tI aH) .bool (bB (.bRW tI aH) [(.ci .i64 0),(.ci .i64 0),(.nl 3 tI)]) (.cb false))) (
   .bRX (.bS0 3 tI) (.p1 aB aB (.Z 0)) <|
   .bRX (.bS0 3 tI) (aP aO 1 (.Z 0)) <|
   .loop (.bRW tI (.bRW .bool aB)) (bB (.bRW tI (.bRW .bool aB)) [(.ci .i64 0),(.cb false),(.nl 3 tI)]) <|
    .bRX (.bS0 3 tI) (.p1 aB aB (.Z 0)) <|
    .bRX (.cmp .lss .i64) (.bRY tI tI (.p1 tI (.bRW .bool aB) (.Z 7)) (.Z 8)) <|
    .ite (.Z 9) (
     .loop (.bRW tI (.bRW .bool aB)) (.bRY tI (.bRW .bool aB) (.ci .i64 0) (aP (.bRW tI (.bRW .bool aB)) 1 (.Z 7))) <|
      .bRX (.bS0 3 tI) (aP aO 1 (.Z 0)) <|
      .bRX (.cmp .lss .i64) (.bRY tI tI (.p1 tI (.bRW .bool aB) (.Z 10)) (.Z 11)) <|
      .ite (.Z 12) (
       .bRX (.bS1 3 tI) (.bRY aB tI (.p1 aB aB (.Z 0)) (.p1 tI (.bRW .bool aB) (.Z 7))) <|
       .bRX (.bS1 3 tI) (.bRY aB tI (aP aO 1 (.Z 0)) (.p1 tI (.bRW .bool aB) (.Z 10))) <|
       .call 1 (.bRY tI tI (.Z 13) (.Z 14)) <|
       .bRX (.lit 3 tI 1) (.p1 tI .bool (.Z 15)) <|
       .bRX (.bS3 3 tI 8) (.bRY aB aB (aP (.bRW tI (.bRW .bool aB)) 2 (.Z 10)) (.Z 16)) <|
       .ite (aK (.bRW tI (.bRW .bool aB)) 1 (.Z 10)) (
        .bRX (.ar .add .i64) (.bRY tI tI (.p1 tI (.bRW .bool aB) (.Z 10)) (.ci .i64 1)) <|
        .bRZ 0 (bB (.bRW tI (.bRW .bool aB)) [(.Z 18),(.cb true),(.Z 17)])) (
        .bRX (.ar .add .i64) (.bRY tI tI (.p1 tI (.bRW .bool aB) (.Z 10)) (.ci .i64 1)) <|
        .bRZ 0 (bB (.bRW tI (.bRW .bool aB)) [(.Z 18),(aP (.bRW tI .bool) 1 (.Z 15)),(.Z 17)]))) (
       .bRX (.ar .add .i64) (.bRY tI tI (.p1 tI (.bRW .bool aB) (.Z 7)) (.ci .i64 1)) <|
       .bRZ 1 (.bRY tI (.bRW .bool aB) (.Z 13) (aP (.bRW tI (.bRW .bool aB)) 1 (.Z 10))))) (
     .ret (.bRY (.bRW tI aH) .bool (bB (.bRW tI aH) [(.Z 5),(.Z 6),(aP (.bRW tI (.bRW .bool aB)) 2 (.Z 7))]) (aK (.bRW tI (.bRW .bool aB)) 1 (.Z 7))))))
theorem bIT:bI Tryz.prog [bN,iL] xZ false 3000 ⟨[(2984,4007,gQ 25 21++gQ 19 12++[.tm 8 0,.tm 7 0,.sl 5]),(2973,12010,[.tm 9 0,.tm 7 0,.sl 5])],[]⟩ = .ok aJT:=by kernel_rfl
theorem bGM (x:bT) (hx:okD aO x) (hp:(fun _=>True) x):aJT.wp [bN,iL] [⟨aO,x⟩] [] (fun v=>v.as (.bRW (.bRW tI aH) .bool)=(fun x=>rQ x.1 x.2) x):=by
 obtain ⟨d,v⟩:=x
 delta aJT bN iL;refine cW ?_
 simp only[Bool.not_eq_true',Bool.not_eq_false']
 refine ⟨fun h=>?_,fun h1=>⟨fun h=>?_,fun h2 _ _=>?_⟩⟩
 ·unfold rQ;rw[if_neg (by rw[h];simp)];rfl
 ·unfold rQ;rw[if_neg (by rw[h];simp)];rfl
 rw[show rQ d v=_ from if_pos ⟨h1,h2⟩]
 have hd:=(cT d).1 h1
 have hv:=(cT v).1 h2
 refine cN (fun i=>((i:Int),an i (aO8 d v),qS (yS d v) i)) d.length rfl fun I μ i hi _ go=>?_
 dsimp only
 refine dB ?_
 have hl:(qS (yS d v) i).length=i * v.length:=tR (fun i=>fL _ _) i
 have hq:i * v.length≤36:=Nat.le_trans (Nat.mul_le_mul hi (show v.length≤6 by omega)) (by omega)
 generalize hD:qS (yS d v) i=D at *
 generalize hA:an i (aO8 d v)=A at *
 intro _
 constructor
 ·intro hlt
  refine cN (fun j=>((j:Int),A || an j (fun j=>(eS (d.getD i 0) (v.getD j 0)).2),D++mp j fun j=>(eS (d.getD i 0) (v.getD j 0)).1)) v.length (by simp[aSD,bFZ]) fun I2 μ2 j hj _ go2=>?_
  dsimp only
  simp only[mG,fL]
  have ea:(A || an (j+1) (fun j=>(eS (d.getD i 0) (v.getD j 0)).2))=((A || an j (fun j=>(eS (d.getD i 0) (v.getD j 0)).2)) || (eS (d.getD i 0) (v.getD j 0)).2):=by rw[mH,Bool.or_assoc]
  (repeat' first|intro _|(refine go2 _ ?_ ?_ ?_)|(refine go2 _ ?_ ?_)|(refine go _ ?_ ?_ ?_)|(refine go _ ?_ ?_)|(with_reducible apply And.intro))
  all_goals first|omega|(unfold maxLen;omega)|(rw[fY,← List.append_assoc,ea];first|exact Prod.ext rfl (Prod.ext (iT (by assumption)) rfl)|exact Prod.ext rfl (Prod.ext (mN (by assumption)) rfl))|(have e:j=v.length:=(by omega);subst e;rw[qS,hD,mH,hA];rfl)
 ·intro hge
  have e:i=d.length:=by omega
  subst e
  rw[← hD,← hA]
theorem bHK:Con.Holds Tryz.prog xZ:=aS aV (aI fD (aI aFA aQ)) bIT bGM
def nN:Con:=⟨176,bF,(.bRW tI aH),[.val ⟨true,bF,[]⟩],[⟨true,(.bRW tI aH),[0,0,0]⟩],true,none,
 ((fun _=>True):(dI)→Prop),
 ((fun x=>xY x):(dI)→(Int × cP))⟩
def aJL:T:=.ret (bB (.bRW tI aH) [(aK bF 2 (.Z 0)),(aK bF 1 (.Z 0)),(aP bF 3 (.Z 0))])
theorem bI3:bI Tryz.prog [] nN false 3000 ⟨[],[]⟩ = .ok aJL:=by kernel_rfl
theorem bHX (x:dI) (hx:okD bF x) (hp:(fun _=>True) x):aJL.wp [] [⟨bF,x⟩] [] (fun v=>v.as (.bRW tI aH)=(fun x=>xY x) x):=by
 delta aJL;refine cW ?_;try with_reducible exact True.intro
 rfl
theorem aR1:Con.Holds Tryz.prog nN:=aS aV aQ bI3 bHX
def nD:Con:=⟨164,(.bRW bF aB),(.bRW aB .bool),[.val ⟨true,bF,[]⟩,.val ⟨false,aB,[]⟩],[⟨false,aB,[2]⟩,⟨false,.bool,[0]⟩],false,none,
 ((fun _=>True):(dI × bK)→Prop),
 ((fun x=>qN x.1 x.2):(dI × bK)→(bK × Bool))⟩
def wN:T:=.call 0 (.p1 bF aB (.Z 0)) <|
 .bRX .not (.Z 1) <|
 .ite (.Z 2) (
  .ret (.bRY aB .bool (.nl 3 tI) (.cb false))) (
  .call 1 (aP (.bRW bF aB) 1 (.Z 0)) <|
  .bRX .not (.Z 3) <|
  .ite (.Z 4) (
   .ret (.bRY aB .bool (.nl 3 tI) (.cb false))) (
   .bRX (.bS0 3 tI) (aP (.bRW bF aB) 1 (.Z 0)) <|
   .bRX (.cmp .neq .i64) (.bRY tI tI (.Z 5) (aK bF 1 (.p1 bF aB (.Z 0)))) <|
   .ite (.Z 6) (
    .ret (.bRY aB .bool (.nl 3 tI) (.cb false))) (
    .bRX (.cmp .eql .i64) (.bRY tI tI (.p1 tI (.bRW tI aH) (.p1 bF aB (.Z 0))) (.ci .i64 1)) <|
    .ite (.Z 7) (
     .call 2 (.p1 bF aB (.Z 0)) <|
     .call 3 (.bRY (.bRW tI aH) aB (.Z 8) (aP (.bRW bF aB) 1 (.Z 0))) <|
     .ret (.Z 9)) (
     .bRX (.cmp .eql .i64) (.bRY tI tI (.p1 tI (.bRW tI aH) (.p1 bF aB (.Z 0))) (.ci .i64 2)) <|
     .ite (.Z 8) (
      .call 4 (.bRY aB aB (aP (.bRW bF aB) 1 (.Z 0)) (aP bF 3 (.p1 bF aB (.Z 0)))) <|
      .ret (.Z 9)) (
      .bRX (.cmp .eql .i64) (.bRY tI tI (.p1 tI (.bRW tI aH) (.p1 bF aB (.Z 0))) (.ci .i64 3)) <|
      .ite (.Z 9) (
       .call 5 (aP (.bRW bF aB) 1 (.Z 0)) <|
       .ret (.bRY aB .bool (.Z 10) (.cb false))) (
       .bRX (.cmp .eql .i64) (.bRY tI tI (.p1 tI (.bRW tI aH) (.p1 bF aB (.Z 0))) (.ci .i64 4)) <|
       .ite (.Z 10) (
        .bRX (.bS1 3 tI) (.bRY aB tI (aP bF 3 (.p1 bF aB (.Z 0))) (.ci .i64 0)) <|
        .call 6 (.bRY tI aB (.Z 11) (aP (.bRW bF aB) 1 (.Z 0))) <|
        .ret (.Z 12)) (
        .call 2 (.p1 bF aB (.Z 0)) <|
        .call 3 (.bRY (.bRW tI aH) aB (.Z 11) (aP (.bRW bF aB) 1 (.Z 0))) <|
        .call 4 (.bRY aB aB (aP (.bRW bF aB) 1 (.Z 0)) (.p1 aB .bool (.Z 12))) <|
        .ite (aP (.bRW aB .bool) 1 (.Z 12)) (
         .ret (.bRY aB .bool (.p1 aB .bool (.Z 13)) (.cb true))) (
         .ret (.Z 13)))))))))
theorem aQA:bI Tryz.prog [mD,bN,nN,tP,lJ,qP,iV] nD false 3000 ⟨[],[]⟩ = .ok wN:=by kernel_rfl
theorem aP4 (x:dI × bK) (hx:okD (.bRW bF aB) x) (hp:(fun _=>True) x):wN.wp [mD,bN,nN,tP,lJ,qP,iV] [⟨(.bRW bF aB),x⟩] [] (fun v=>v.as (.bRW aB .bool)=(fun x=>qN x.1 x.2) x):=by
 obtain ⟨⟨kd,i,ou,P⟩,v⟩:=x
 delta wN mD bN nN tP lJ qP iV;refine cW ?_
 simp only[Bool.not_eq_true',Bool.not_eq_false',aFJ,aF4]
 refine ⟨fun h=>?_,fun h1=>⟨fun h=>?_,fun h2 _=>⟨fun h=>?_,fun h3=>?_⟩⟩⟩
 ·unfold qN;rw[if_pos (by rw[h];simp)]
 ·unfold qN eQ;rw[if_pos (by rw[h];simp)]
 ·unfold qN;rw[if_pos (fun hh=>h ((cI _ _).1 hh.2).2)]
 have h9:eQ v i=true:=(cI _ _).2 ⟨h2,h3⟩
 clear h2 h3
 have h4:=aKX h1
 have hk:=((gY _).1 h1).1
 dsimp only at h4 hk
 (refine dB ?_;try with_reducible exact True.intro)
 (repeat' first|intro _|(with_reducible apply And.intro))
 all_goals first|omega|(simp_all[qN];done)|(have e5:kd=5:=(by omega);subst e5;simp_all[qN];done)
theorem aQ5:Con.Holds Tryz.prog nD:=aS aV (aI aOK (aI fD (aI aR1 (aI bBO (aI aO3 (aI aZA (aI aHF aQ))))))) aQA aP4
def lN:Con:=⟨170,(.bRW bF aO),(.bRW aB (.bRW aB .bool)),[.val ⟨true,bF,[]⟩,.val ⟨false,aB,[]⟩,.val ⟨false,aB,[]⟩],[⟨false,aB,[2]⟩,⟨false,aB,[2]⟩,⟨false,.bool,[0]⟩],false,none,
 ((fun _=>True):(dI × bT)→Prop),
 ((fun x=>iS x.1 x.2.1 x.2.2):(dI × bT)→(bK × (bK × Bool)))⟩
def uN:T:=.call 0 (.p1 bF aO (.Z 0)) <|
 .bRX .not (.Z 1) <|
 .ite (.Z 2) (
  .ret (bB (.bRW aB (.bRW aB .bool)) [(.nl 3 tI),(.nl 3 tI),(.cb false)])) (
  .call 1 (aK (.bRW bF aO) 1 (.Z 0)) <|
  .bRX .not (.Z 3) <|
  .ite (.Z 4) (
   .ret (bB (.bRW aB (.bRW aB .bool)) [(.nl 3 tI),(.nl 3 tI),(.cb false)])) (
   .bRX (.bS0 3 tI) (aK (.bRW bF aO) 1 (.Z 0)) <|
   .bRX (.cmp .neq .i64) (.bRY tI tI (.Z 5) (aK bF 1 (.p1 bF aO (.Z 0)))) <|
   .ite (.Z 6) (
    .ret (bB (.bRW aB (.bRW aB .bool)) [(.nl 3 tI),(.nl 3 tI),(.cb false)])) (
    .call 1 (aP (.bRW bF aO) 2 (.Z 0)) <|
    .bRX .not (.Z 7) <|
    .ite (.Z 8) (
     .ret (bB (.bRW aB (.bRW aB .bool)) [(.nl 3 tI),(.nl 3 tI),(.cb false)])) (
     .bRX (.bS0 3 tI) (aP (.bRW bF aO) 2 (.Z 0)) <|
     .bRX (.cmp .neq .i64) (.bRY tI tI (.Z 9) (aK bF 2 (.p1 bF aO (.Z 0)))) <|
     .ite (.Z 10) (
      .ret (bB (.bRW aB (.bRW aB .bool)) [(.nl 3 tI),(.nl 3 tI),(.cb false)])) (
      .bRX (.cmp .eql .i64) (.bRY tI tI (.p1 tI (.bRW tI aH) (.p1 bF aO (.Z 0))) (.ci .i64 2)) <|
      .ite (.Z 11) (
       .bRX (.bS3 3 tI 8) (.bRY aB aB (.nl 3 tI) (aP (.bRW bF aO) 2 (.Z 0))) <|
       .bRX (.bS3 3 tI 8) (.bRY aB aB (.nl 3 tI) (aP (.bRW bF aO) 2 (.Z 0))) <|
       .ret (bB (.bRW aB (.bRW aB .bool)) [(.Z 12),(.Z 13),(.cb false)])) (
       .bRX (.cmp .eql .i64) (.bRY tI tI (.p1 tI (.bRW tI aH) (.p1 bF aO (.Z 0))) (.ci .i64 3)) <|
       .ite (.Z 12) (
        .call 2 (aP (.bRW bF aO) 1 (.Z 0)) <|
        .ret (bB (.bRW aB (.bRW aB .bool)) [(.Z 13),(.nl 3 tI),(.cb false)])) (
        .bRX (.cmp .eql .i64) (.bRY tI tI (.p1 tI (.bRW tI aH) (.p1 bF aO (.Z 0))) (.ci .i64 4)) <|
        .ite (.Z 13) (
         .bRX (.bS1 3 tI) (.bRY aB tI (aP bF 3 (.p1 bF aO (.Z 0))) (.ci .i64 0)) <|
         .call 3 (.bRY tI aB (.Z 14) (aP (.bRW bF aO) 2 (.Z 0))) <|
         .call 4 (.bRY aB aB (aP (.bRW bF aO) 2 (.Z 0)) (aK (.bRW bF aO) 1 (.Z 0))) <|
         .bRX (.lit 3 tI 1) (.p1 tI .bool (.Z 16)) <|
         .ite (aP (.bRW aB .bool) 1 (.Z 15)) (
          .ret (bB (.bRW aB (.bRW aB .bool)) [(.p1 aB .bool (.Z 15)),(.Z 17),(.cb true)])) (
          .ret (bB (.bRW aB (.bRW aB .bool)) [(.p1 aB .bool (.Z 15)),(.Z 17),(aP (.bRW tI .bool) 1 (.Z 16))]))) (
         .call 5 (.p1 bF aO (.Z 0)) <|
         .call 6 (.bRY (.bRW tI aH) aB (.Z 14) (aP (.bRW bF aO) 2 (.Z 0))) <|
         .call 7 (.bRY aB aB (aP (.bRW bF aO) 2 (.Z 0)) (aK (.bRW bF aO) 1 (.Z 0))) <|
         .bRX (.cmp .eql .i64) (.bRY tI tI (.p1 tI (.bRW tI aH) (.p1 bF aO (.Z 0))) (.ci .i64 1)) <|
         .ite (.Z 17) (
          .ite (aP (.bRW aB .bool) 1 (.Z 15)) (
           .ret (bB (.bRW aB (.bRW aB .bool)) [(.p1 aB .bool (.Z 15)),(aP (.bRW tI aH) 2 (.p1 (.bRW tI aH) .bool (.Z 16))),(.cb true)])) (
           .ret (bB (.bRW aB (.bRW aB .bool)) [(.p1 aB .bool (.Z 15)),(aP (.bRW tI aH) 2 (.p1 (.bRW tI aH) .bool (.Z 16))),(aP (.bRW (.bRW tI aH) .bool) 1 (.Z 16))]))) (
          .call 8 (.bRY aB aB (aP (.bRW bF aO) 2 (.Z 0)) (.p1 aB .bool (.Z 15))) <|
          .ite (aP (.bRW aB .bool) 1 (.Z 15)) (
           .ret (bB (.bRW aB (.bRW aB .bool)) [(.p1 aB .bool (.Z 18)),(aP (.bRW tI aH) 2 (.p1 (.bRW tI aH) .bool (.Z 16))),(.cb true)])) (
           .ite (aP (.bRW (.bRW tI aH) .bool) 1 (.Z 16)) (
            .ret (bB (.bRW aB (.bRW aB .bool)) [(.p1 aB .bool (.Z 18)),(aP (.bRW tI aH) 2 (.p1 (.bRW tI aH) .bool (.Z 16))),(.cb true)])) (
            .ret (bB (.bRW aB (.bRW aB .bool)) [(.p1 aB .bool (.Z 18)),(aP (.bRW tI aH) 2 (.p1 (.bRW tI aH) .bool (.Z 16))),(aP (.bRW aB .bool) 1 (.Z 18))]))))))))))))
theorem aMR:bI Tryz.prog [mD,bN,qH,iV,eY,nN,qI,xZ,lJ] lN false 3000 ⟨[],[]⟩ = .ok uN:=by kernel_rfl
theorem aOC (x:dI × bT) (hx:okD (.bRW bF aO) x) (hp:(fun _=>True) x):uN.wp [mD,bN,qH,iV,eY,nN,qI,xZ,lJ] [⟨(.bRW bF aO),x⟩] [] (fun v=>v.as (.bRW aB (.bRW aB .bool))=(fun x=>iS x.1 x.2.1 x.2.2) x):=by
 obtain ⟨⟨kd,i,ou,P⟩,v,d⟩:=x
 delta uN mD bN qH iV eY nN qI xZ lJ;refine cW ?_
 simp only[Bool.not_eq_true',Bool.not_eq_false',aFJ,aF4]
 refine ⟨fun h=>?_,fun h1=>⟨fun h=>?_,fun h2 _=>⟨fun h=>?_,fun h3=>⟨fun h=>?_,fun h5 _=>⟨fun h=>?_,fun h6=>?_⟩⟩⟩⟩⟩
 ·unfold iS;rw[if_pos (by rw[h];simp)]
 ·unfold iS eQ;rw[if_pos (by rw[h];simp)]
 ·unfold iS;rw[if_pos (fun hh=>h ((cI _ _).1 hh.2.1).2)]
 ·unfold iS eQ;rw[if_pos (by rw[h];simp)]
 ·unfold iS;rw[if_pos (fun hh=>h ((cI _ _).1 hh.2.2).2)]
 have h9:eQ v i=true:=(cI _ _).2 ⟨h2,h3⟩
 have h10:eQ d ou=true:=(cI _ _).2 ⟨h5,h6⟩
 have hd:=(cT d).1 h5
 clear h2 h3 h5 h6
 have h4:=aKX h1
 have hk:=((gY _).1 h1).1
 dsimp only at h4 hk
 rcases (show kd=1∨kd=2∨kd=3∨kd=4∨kd=5 by omega) with rfl|rfl|rfl|rfl|rfl
 all_goals
  refine dB ?_
  clear hk hx
  (repeat' first|intro _|(with_reducible apply And.intro))
  all_goals first|omega|(unfold maxLen;omega)|exact absurd trivial (by assumption)|(unfold iS;rw[if_neg (by simp[h1,h9,h10]),if_neg (by simp),if_neg (by simp),if_pos rfl];first|exact Prod.ext rfl (Prod.ext rfl (iT (by assumption)))|exact Prod.ext rfl (Prod.ext rfl (mN (by assumption))))|(simp[iS,h1,h9,h10, *];done)
theorem aN6:Con.Holds Tryz.prog lN:=aS aV (aI aOK (aI fD (aI aXK (aI aHF (aI aA6 (aI aR1 (aI aWN (aI bHK (aI aO3 aQ))))))))) aMR aOC
end
end Go.Proofs.YtabamggdmdednaaGreat
