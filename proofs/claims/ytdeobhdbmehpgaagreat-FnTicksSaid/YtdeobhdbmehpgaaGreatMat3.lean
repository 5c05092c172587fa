/- Mat3: lemmas. No conditions. -/
import Derived.Test.YtdeobhdbmehpgaaGreatLin2
namespace Go.Proofs.YtdeobhdbmehpgaaGreat
noncomputable section
set_option maxRecDepth 100000
open Go.ChangeShapes Go.WideShapes Go.ChangeAt Go.RowKit Go.Deep
set_option linter.unusedVariables false
set_option linter.unusedSimpArgs false
abbrev aB3:=Int × (Int × List Int)
def xV (m:aB3):Bool:=decide (1≤m.1∧m.1≤6∧1≤m.2.1∧m.2.1≤6∧(m.2.2.length:Int)=m.1 * m.2.1)&&m.2.2.all iP
theorem lT (m:aB3):xV m=true↔(1≤m.1∧m.1≤6∧1≤m.2.1∧m.2.1≤6∧(m.2.2.length:Int)=m.1 * m.2.1)∧m.2.2.all iP=true:=by unfold xV;simp only[Bool.and_eq_true,decide_eq_true_eq]
def aAO (m:aB3) (i:Nat):List Int:=(m.2.2.take ((i+1) * m.2.1.toNat)).drop (i * m.2.1.toNat)
def rI (m:aB3) (k:Nat):List Int:=mp m.1.toNat fun i=>m.2.2.getD (i * m.2.1.toNat+k) 0
def jL (m:aB3) (x:List Int):List Int × Bool:=if xV m=true∧eF x m.2.1=true then (mp m.1.toNat fun r=>(fL (aAO m r) x).1,an m.1.toNat fun r=>(fL (aAO m r) x).2) else ([],false)
def gF (m:aB3) (d:List Int):List Int × Bool:=if xV m=true∧eF d m.1=true then (mp m.2.1.toNat fun k=>(fL (rI m k) d).1,an m.2.1.toNat fun k=>(fL (rI m k) d).2) else ([],false)
def bNB:aB3:=(0,0,[])
def pV (f:Nat→List Int):Nat→List Int
 | 0=>[]
 | n+1=>pV f n++f n
def qD (m:aB3):aB3:=if xV m=true then (m.2.1,m.1,pV (rI m) m.2.1.toNat) else bNB
def wW (d x:List Int) (i:Nat):List Int:=mp x.length fun j=>(fA (d.getD i 0) (x.getD j 0)).1
def aKG (d x:List Int) (i:Nat):Bool:=an x.length fun j=>(fA (d.getD i 0) (x.getD j 0)).2
def qP (d x:List Int):aB3 × Bool:=if iA d=true∧iA x=true then (((d.length:Int),(x.length:Int),pV (wW d x) d.length),an d.length (aKG d x)) else (bNB,false)
def wE (o:dJ):aB3:=(o.2.2.1,o.2.1,o.2.2.2)
def oT (o:dJ) (x:List Int):List Int × Bool:=if ¬ (opB o=true∧eF x o.2.1=true) then ([],false) else
 if o.1=1 then jL (wE o) x else if o.1=2 then kD dK x o.2.2.2 else if o.1=4 then sR (o.2.2.2.getD 0 0) x else
 if o.1=5 then ((kD dK x (jL (wE o) x).1).1,(jL (wE o) x).2 || (kD dK x (jL (wE o) x).1).2) else (nI x,false)
def iB (o:dJ) (x d:List Int):List Int × (List Int × Bool):=if ¬ (opB o=true∧eF x o.2.1=true∧eF d o.2.2.1=true) then ([],[],false) else
 if o.1=1 then ((gF (wE o) d).1,(qP d x).1.2.2,(gF (wE o) d).2 || (qP d x).2) else
 if o.1=2 then (d,d,false) else
 if o.1=4 then ((sR (o.2.2.2.getD 0 0) d).1,[(fL d x).1],(sR (o.2.2.2.getD 0 0) d).2 || (fL d x).2) else
 if o.1=5 then ((kD dK d (gF (wE o) d).1).1,(qP d x).1.2.2,(gF (wE o) d).2 || (kD dK d (gF (wE o) d).1).2 || (qP d x).2) else
 (nO x d,[],false)
theorem lK {m:aB3} (h:xV m=true):∃ (R C:Nat) (data:List Int),m=((R:Int),(C:Int),data)∧1≤R∧R≤6∧1≤C∧C≤6∧data.length=R * C∧R * C≤36∧data.all iP=true:=by
 obtain ⟨a,b,data⟩:=m
 obtain ⟨⟨h1,h2,h3,h4,h5⟩,h6⟩:=(lT _).1 h
 dsimp only at h1 h2 h3 h4 h5 h6
 refine ⟨a.toNat,b.toNat,data,?_,by omega,by omega,by omega,by omega,?_,Nat.le_trans (Nat.mul_le_mul (show a.toNat≤6 by omega) (show b.toNat≤6 by omega)) (by decide),h6⟩
 ·rw[Int.toNat_of_nonneg (by omega),Int.toNat_of_nonneg (by omega)]
 ·have:((a.toNat * b.toNat:Nat):Int)=a * b:=by rw[Int.natCast_mul,Int.toNat_of_nonneg (by omega),Int.toNat_of_nonneg (by omega)]
  omega
theorem aGG {R C k:Nat} (h:k<R):k * C+C≤R * C:=by
 have:=Nat.mul_le_mul_right C (show k+1≤R from h)
 rwa [Nat.succ_mul] at this
theorem aKM (R C k p:Nat) (data:List Int) (e:p=k * C):aAO ((R:Int),(C:Int),data) k=(data.take (p+C)).drop p:=by
 unfold aAO;simp only[Int.toNat_natCast,Nat.succ_mul,← e]
theorem sM {f:Nat→List Int} {L:Nat} (h:∀ i,(f i).length=L):(n:Nat)→(pV f n).length=n * L
 | 0=>by simp[pV]
 | n+1=>by rw[pV,List.length_append,sM h n,h,Nat.succ_mul]
theorem aJE {f:Nat→List Int} {L:Nat} (h:∀ i,(f i).length=L) {k:Nat}:(n:Nat)→k<n→((pV f n).take (k * L+L)).drop (k * L)=f k
 | 0,hk=>by omega
 | n+1,hk=>by
  have hl:=sM h n
  rcases Nat.lt_or_eq_of_le (Nat.le_of_lt_succ hk) with h'|rfl
  ·have h1:=aGG (C:=L) h'
   rw[pV,List.take_append_of_le_length (by omega)]
   exact aJE h n h'
  ·rw[pV,List.take_of_length_le (by rw[List.length_append,hl,h];exact Nat.le_refl _),List.drop_append_of_le_length (by omega),List.drop_of_length_le (by omega),List.nil_append]
theorem aO0 (m:aB3) (k:Nat):(rI m k).length=m.1.toNat:=fR _ _
theorem aUX {f:Nat→List Int} {x:Int}:(n:Nat)→x∈pV f n→∃ k,k<n∧x∈f k
 | 0,h=>by simp[pV] at h
 | n+1,h=>by
  rw[pV,List.mem_append] at h
  rcases h with h|h
  ·obtain ⟨k,h1,h2⟩:=aUX n h;exact ⟨k,by omega,h2⟩
  ·exact ⟨n,by omega,h⟩
theorem bEL {m:aB3} (h:xV m=true):xV (qD m)=true∧∀ k,k<m.2.1.toNat→aAO (qD m) k=rI m k:=by
 obtain ⟨R,C,data,rfl,h1,h2,h3,h4,h5,h6,h7⟩:=lK h
 have e:qD ((R:Int),(C:Int),data)=((C:Int),(R:Int),pV (rI ((R:Int),(C:Int),data)) C):=if_pos h
 have hl:∀ i,(rI ((R:Int),(C:Int),data) i).length=R:=fun i=>aO0 _ _
 constructor
 ·rw[e,lT]
  refine ⟨⟨?_,?_,?_,?_,?_⟩,?_⟩
  ·dsimp only;omega
  ·dsimp only;omega
  ·dsimp only;omega
  ·dsimp only;omega
  ·dsimp only;rw[sM hl,Int.natCast_mul]
  ·rw[List.all_eq_true]
   intro x hx
   obtain ⟨k,hk,hx⟩:=aUX _ hx
   unfold rI mp at hx
   rw[List.mem_map] at hx
   obtain ⟨i,hi,rfl⟩:=hx
   rw[List.mem_range] at hi
   dsimp only [Int.toNat_natCast] at hi ⊢
   have hb:=aGG (C:=C) hi
   rw[aZ (show i * C+k<data.length by omega)]
   exact (List.all_eq_true.1 h7) _ (List.getElem_mem _)
 ·intro k hk
  rw[e,aKM C R k (k * R) _ rfl]
  exact aJE hl C hk
theorem bL0 {m:aB3} {d:List Int} (h:xV m=true) (h2:eF d m.1=true):jL (qD m) d=gF m d:=by
 obtain ⟨t1,t2⟩:=bEL h
 have e1:(qD m).2.1=m.1:=by unfold qD;rw[if_pos h]
 have e2:(qD m).1=m.2.1:=by unfold qD;rw[if_pos h]
 unfold jL gF
 rw[if_pos ⟨t1,by rw[e1];exact h2⟩,if_pos ⟨h,h2⟩,e2]
 exact Prod.ext (bJU fun i hi=>by rw[t2 i hi]) (bKC fun i hi=>by rw[t2 i hi])
theorem aIR {o:dJ} (h:opB o=true) (h4:o.1=4):o.2.2.2.length=1:=by
 have:=((hK o).1 h).1
 have e:=aLV (o:=o) (by omega)
 omega
def iV:Con:=⟨190,(.bNT tI aF),.bool,[.val ⟨true,(.bNT tI aF),[]⟩],[⟨false,.bool,[0]⟩],false,none,
 ((fun _=>True):(Int × cC)→Prop),
 ((fun x=>xV x):(Int × cC)→(Bool))⟩
def aGP:T :=
 .bNU (.cmp .lss .i64) (.bNV tI tI (.p1 tI aF (.Z 0)) (.ci .i64 1)) <|
 .ite (.Z 1) (
  .ret (.cb false)) (
  .bNU (.cmp .gtr .i64) (.bNV tI tI (.p1 tI aF (.Z 0)) (.ci .i64 6)) <|
  .ite (.Z 2) (
   .ret (.cb false)) (
   .bNU (.cmp .lss .i64) (.bNV tI tI (aJ (.bNT tI aF) 1 (.Z 0)) (.ci .i64 1)) <|
   .ite (.Z 3) (
    .ret (.cb false)) (
    .bNU (.cmp .gtr .i64) (.bNV tI tI (aJ (.bNT tI aF) 1 (.Z 0)) (.ci .i64 6)) <|
    .ite (.Z 4) (
     .ret (.cb false)) (
     .bNU (.bNX 3 tI) (aO (.bNT tI aF) 2 (.Z 0)) <|
     .bNU (.ar .mul .i64) (.bNV tI tI (.p1 tI aF (.Z 0)) (aJ (.bNT tI aF) 1 (.Z 0))) <|
     .bNU (.cmp .eql .i64) (.bNV tI tI (.Z 5) (.Z 6)) <|
     .ite (.Z 7) (
      .call 0 (aO (.bNT tI aF) 2 (.Z 0)) <|
      .ret (.Z 8)) (
      .ret (.cb false))))))
theorem bE4:bM Tryz.prog [gT] iV false 3000 ⟨[],[]⟩ = .ok aGP:=by kernel_rfl
theorem bEI (x:Int × cC) (hx:okD (.bNT tI aF) x) (hp:(fun _=>True) x):aGP.wp [gT] [⟨(.bNT tI aF),x⟩] [] (fun v=>v.as .bool=(fun x=>xV x) x):=by
 delta aGP gT;refine dB ?_
 (refine dT ?_;try with_reducible exact True.intro)
 (repeat' first|intro _|(with_reducible apply And.intro))
 all_goals first|(first|(refine (Bool.eq_false_iff.2 ?_).symm;rw[ne_eq,lT];intro hh;omega)|(refine (lT.2 ?_).symm;omega))|(have:=aOW (a:=x.1) (b:=x.2.1) (by omega) (by omega) (by omega) (by omega);omega)|(rw[Bool.eq_iff_iff,lT];exact ⟨fun h=>⟨⟨by omega,by omega,by omega,by omega,by assumption⟩,h⟩,fun h=>h.2⟩)
theorem aGF:Con.Holds Tryz.prog iV:=aS aW (aH aDR aR) bE4 bEI
def kV:Con:=⟨172,(.bNT (.bNT tI aF) aB),(.bNT aB .bool),[.val ⟨true,(.bNT tI aF),[]⟩,.val ⟨false,aB,[]⟩],[⟨false,aB,[2]⟩,⟨false,.bool,[0]⟩],false,none,
 ((fun _=>True):((Int × cC) × bK)→Prop),
 ((fun x=>jL x.1 x.2):((Int × cC) × bK)→(bK × Bool))⟩
def aE6:T:=.call 0 (.p1 (.bNT tI aF) aB (.Z 0)) <|
 .bNU .not (.Z 1) <|
 .ite (.Z 2) (
  .ret (.bNV aB .bool (.nl 3 tI) (.cb false))) (
  .call 1 (.bNV aB tI (aO (.bNT (.bNT tI aF) aB) 1 (.Z 0)) (aJ (.bNT tI aF) 1 (.p1 (.bNT tI aF) aB (.Z 0)))) <|
  .bNU .not (.Z 3) <|
  .ite (.Z 4) (
   .ret (.bNV aB .bool (.nl 3 tI) (.cb false))) (
   .loop (.bNT tI (.bNT .bool aB)) (bB (.bNT tI (.bNT .bool aB)) [(.ci .i64 0),(.cb false),(.nl 3 tI)]) <|
    .bNU (.cmp .lss .i64) (.bNV tI tI (.p1 tI (.bNT .bool aB) (.Z 5)) (.p1 tI aF (.p1 (.bNT tI aF) aB (.Z 0)))) <|
    .ite (.Z 6) (
     .bNU (.ar .mul .i64) (.bNV tI tI (.p1 tI (.bNT .bool aB) (.Z 5)) (aJ (.bNT tI aF) 1 (.p1 (.bNT tI aF) aB (.Z 0)))) <|
     .bNU (.ar .add .i64) (.bNV tI tI (.p1 tI (.bNT .bool aB) (.Z 5)) (.ci .i64 1)) <|
     .bNU (.ar .mul .i64) (.bNV tI tI (.Z 8) (aJ (.bNT tI aF) 1 (.p1 (.bNT tI aF) aB (.Z 0)))) <|
     .bNU (.bNZ 3 tI) (bB (.bNT aB aE) [(aO (.bNT tI aF) 2 (.p1 (.bNT tI aF) aB (.Z 0))),(.Z 7),(.Z 9)]) <|
     .call 2 (.bNV aB aB (.Z 10) (aO (.bNT (.bNT tI aF) aB) 1 (.Z 0))) <|
     .bNU (.lit 3 tI 1) (.p1 tI .bool (.Z 11)) <|
     .bNU (.bO0 3 tI 8) (.bNV aB aB (aO (.bNT tI (.bNT .bool aB)) 2 (.Z 5)) (.Z 12)) <|
     .ite (aJ (.bNT tI (.bNT .bool aB)) 1 (.Z 5)) (
      .bNU (.ar .add .i64) (.bNV tI tI (.p1 tI (.bNT .bool aB) (.Z 5)) (.ci .i64 1)) <|
      .bNW 0 (bB (.bNT tI (.bNT .bool aB)) [(.Z 14),(.cb true),(.Z 13)])) (
      .bNU (.ar .add .i64) (.bNV tI tI (.p1 tI (.bNT .bool aB) (.Z 5)) (.ci .i64 1)) <|
      .bNW 0 (bB (.bNT tI (.bNT .bool aB)) [(.Z 14),(aO (.bNT tI .bool) 1 (.Z 11)),(.Z 13)]))) (
     .ret (.bNV aB .bool (aO (.bNT tI (.bNT .bool aB)) 2 (.Z 5)) (aJ (.bNT tI (.bNT .bool aB)) 1 (.Z 5))))))
theorem aZ6:bM Tryz.prog [iV,cB,gS] kV false 3000 ⟨[(2984,4005,iT 21 11++[.dr 0,.tm 8 0,.tm 7 0,.on 6,.sl 2])],[]⟩ = .ok aE6:=by kernel_rfl
theorem aY6 (x:(Int × cC) × bK) (hx:okD (.bNT (.bNT tI aF) aB) x) (hp:(fun _=>True) x):aE6.wp [iV,cB,gS] [⟨(.bNT (.bNT tI aF) aB),x⟩] [] (fun v=>v.as (.bNT aB .bool)=(fun x=>jL x.1 x.2) x):=by
 obtain ⟨m,v⟩:=x
 delta aE6 iV cB gS;refine dB ?_
 simp only[Bool.not_eq_true',Bool.not_eq_false']
 refine ⟨fun h=>?_,fun h1=>⟨fun h=>?_,fun h2=>?_⟩⟩
 ·unfold jL;rw[if_neg (by rw[h];simp)]
 ·unfold jL;rw[if_neg (by rw[h];simp)]
 rw[show jL m v=_ from if_pos ⟨h1,h2⟩]
 obtain ⟨R,C,data,rfl,g1,g2,g3,g4,g5,g6,g7⟩:=lK h1
 refine cZ (fun k=>((k:Int),an k (fun r=>(fL (aAO ((R:Int),(C:Int),data) r) v).2),mp k fun r=>(fL (aAO ((R:Int),(C:Int),data) r) v).1)) R rfl fun I μ k hk _ go=>?_
 dsimp only
 obtain ⟨p,e0⟩:∃ p,p=k * C:=⟨_,rfl⟩
 have e1:(k:Int) * (C:Int)=(p:Int):=by rw[e0];exact (Int.natCast_mul k C).symm
 have e2:((k:Int)+1) * (C:Int)=((p+C:Nat):Int):=by rw[Int.add_mul,e1,Int.one_mul];rfl
 have e4:k<R→p+C≤data.length:=fun h=>by rw[e0,g5];exact aGG h
 simp only[e1,e2,nS,fR,← aKM R C k p data e0]
 (repeat' first|intro _|(refine go _ ?_ ?_ ?_)|(refine go _ ?_ ?_)|(with_reducible apply And.intro))
 all_goals first|omega|(unfold maxLen;omega)|(rw[gH,lI];first|exact Prod.ext rfl (Prod.ext (iC (by assumption)) rfl)|exact Prod.ext rfl (Prod.ext (lL (by assumption)) rfl))|(have e:k=R:=(by omega);subst e;rfl)
theorem aJ0:Con.Holds Tryz.prog kV:=aS aW (aH aGF (aH jT (aH aE4 aR))) aZ6 aY6
def lZ:Con:=⟨192,(.bNT tI aF),(.bNT tI aF),[.val ⟨true,(.bNT tI aF),[]⟩],[⟨true,(.bNT tI aF),[0,0,2]⟩],false,none,
 ((fun _=>True):(Int × cC)→Prop),
 ((fun x=>qD x):(Int × cC)→(Int × cC))⟩
def uF:T:=.call 0 (.Z 0) <|
 .bNU .not (.Z 1) <|
 .ite (.Z 2) (
  .ret (bB (.bNT tI aF) [(.ci .i64 0),(.ci .i64 0),(.nl 3 tI)])) (
  .loop aF (.bNV tI aB (.ci .i64 0) (.nl 3 tI)) <|
   .bNU (.cmp .lss .i64) (.bNV tI tI (.p1 tI aB (.Z 3)) (aJ (.bNT tI aF) 1 (.Z 0))) <|
   .ite (.Z 4) (
    .loop aF (.bNV tI aB (.ci .i64 0) (aO aF 1 (.Z 3))) <|
     .bNU (.cmp .lss .i64) (.bNV tI tI (.p1 tI aB (.Z 5)) (.p1 tI aF (.Z 0))) <|
     .ite (.Z 6) (
      .bNU (.ar .mul .i64) (.bNV tI tI (.p1 tI aB (.Z 5)) (aJ (.bNT tI aF) 1 (.Z 0))) <|
      .bNU (.ar .add .i64) (.bNV tI tI (.Z 7) (.p1 tI aB (.Z 3))) <|
      .bNU (.bNY 3 tI) (.bNV aB tI (aO (.bNT tI aF) 2 (.Z 0)) (.Z 8)) <|
      .bNU (.lit 3 tI 1) (.Z 9) <|
      .bNU (.bO0 3 tI 8) (.bNV aB aB (aO aF 1 (.Z 5)) (.Z 10)) <|
      .bNU (.ar .add .i64) (.bNV tI tI (.p1 tI aB (.Z 5)) (.ci .i64 1)) <|
      .bNW 0 (.bNV tI aB (.Z 12) (.Z 11))) (
      .bNU (.ar .add .i64) (.bNV tI tI (.p1 tI aB (.Z 3)) (.ci .i64 1)) <|
      .bNW 1 (.bNV tI aB (.Z 7) (aO aF 1 (.Z 5))))) (
    .ret (bB (.bNT tI aF) [(aJ (.bNT tI aF) 1 (.Z 0)),(.p1 tI aF (.Z 0)),(aO aF 1 (.Z 3))])))
theorem aN6:bM Tryz.prog [iV] lZ false 3000 ⟨[(2986,2003,iT 14 10++iT 8 6++[.dr 0,.tm 4 0,.sl 6]),(2975,6005,[.tm 5 0,.sl 6])],[]⟩ = .ok uF:=by kernel_rfl
theorem aMF (x:Int × cC) (hx:okD (.bNT tI aF) x) (hp:(fun _=>True) x):uF.wp [iV] [⟨(.bNT tI aF),x⟩] [] (fun v=>v.as (.bNT tI aF)=(fun x=>qD x) x):=by
 obtain ⟨m,rfl⟩:∃ m,m=x:=⟨_,rfl⟩
 delta uF iV;refine dB ?_
 simp only[Bool.not_eq_true',Bool.not_eq_false']
 refine ⟨fun h=>?_,fun h1=>?_⟩
 ·unfold qD;rw[if_neg (by rw[h];exact Bool.false_ne_true)];rfl
 rw[show qD m=_ from if_pos h1]
 obtain ⟨R,C,data,rfl,g1,g2,g3,g4,g5,g6,g7⟩:=lK h1
 refine cZ (fun c=>((c:Int),pV (rI ((R:Int),(C:Int),data)) c)) C rfl fun I μ c hc _ go=>?_
 dsimp only
 refine dT ?_
 have hl:(pV (rI ((R:Int),(C:Int),data)) c).length=c * R:=sM (fun i=>aO0 _ _) c
 have hq:c * R≤36:=Nat.le_trans (Nat.mul_le_mul hc g2) (by omega)
 generalize hD:pV (rI ((R:Int),(C:Int),data)) c=D at *
 constructor
 ·intro hlt
  refine cZ (fun r=>((r:Int),D++mp r fun i=>data.getD (i * C+c) 0)) R (by simp[aRU]) fun I2 μ2 k hk _ go2=>?_
  dsimp only
  obtain ⟨p,e0⟩:∃ p,p=k * C:=⟨_,rfl⟩
  have e1:(k:Int) * (C:Int)=(p:Int):=by rw[e0];exact (Int.natCast_mul k C).symm
  have e2:(p:Int)+(c:Int)=((p+c:Nat):Int):=rfl
  have e4:k<R→p+C≤data.length:=fun h=>by rw[e0,g5];exact aGG h
  simp only[e1,e2,nS,fR]
  (repeat' first|intro _|(refine go2 _ ?_ ?_ ?_)|(refine go2 _ ?_ ?_)|(refine go _ ?_ ?_ ?_)|(refine go _ ?_ ?_)|(with_reducible apply And.intro))
  all_goals first|omega|(unfold maxLen;omega)|(rw[gH,← List.append_assoc,← e0];rfl)|(have e:k=R:=(by omega);subst e;rw[pV,hD];rfl)
 ·intro hge
  have e:c=C:=by omega
  subst e
  rw[← hD]
theorem aM6:Con.Holds Tryz.prog lZ:=aS aW (aH aGF aR) aN6 aMF
def oQ:Con:=⟨178,(.bNT (.bNT tI aF) aB),(.bNT aB .bool),[.val ⟨true,(.bNT tI aF),[]⟩,.val ⟨false,aB,[]⟩],[⟨false,aB,[2]⟩,⟨false,.bool,[0]⟩],false,none,
 ((fun _=>True):((Int × cC) × bK)→Prop),
 ((fun x=>gF x.1 x.2):((Int × cC) × bK)→(bK × Bool))⟩
def aAL:T:=.call 0 (.p1 (.bNT tI aF) aB (.Z 0)) <|
 .bNU .not (.Z 1) <|
 .ite (.Z 2) (
  .ret (.bNV aB .bool (.nl 3 tI) (.cb false))) (
  .call 1 (.bNV aB tI (aO (.bNT (.bNT tI aF) aB) 1 (.Z 0)) (.p1 tI aF (.p1 (.bNT tI aF) aB (.Z 0)))) <|
  .bNU .not (.Z 3) <|
  .ite (.Z 4) (
   .ret (.bNV aB .bool (.nl 3 tI) (.cb false))) (
   .call 2 (.p1 (.bNT tI aF) aB (.Z 0)) <|
   .call 3 (.bNV (.bNT tI aF) aB (.Z 5) (aO (.bNT (.bNT tI aF) aB) 1 (.Z 0))) <|
   .ret (.Z 6)))
theorem aVQ:bM Tryz.prog [iV,cB,lZ,kV] oQ false 3000 ⟨[],[]⟩ = .ok aAL:=by kernel_rfl
theorem aUQ (x:(Int × cC) × bK) (hx:okD (.bNT (.bNT tI aF) aB) x) (hp:(fun _=>True) x):aAL.wp [iV,cB,lZ,kV] [⟨(.bNT (.bNT tI aF) aB),x⟩] [] (fun v=>v.as (.bNT aB .bool)=(fun x=>gF x.1 x.2) x):=by
 obtain ⟨m,d⟩:=x
 delta aAL iV cB lZ kV;refine dB ?_
 simp only[Bool.not_eq_true',Bool.not_eq_false']
 refine ⟨fun h=>?_,fun h1=>⟨fun h=>?_,fun h2 _ _=>bL0 h1 h2⟩⟩
 ·unfold gF;rw[if_neg (by rw[h];simp)]
 ·unfold gF;rw[if_neg (by rw[h];simp)]
theorem aV4:Con.Holds Tryz.prog oQ:=aS aW (aH aGF (aH jT (aH aM6 (aH aJ0 aR)))) aVQ aUQ
def vO:Con:=⟨179,aM,(.bNT (.bNT tI aF) .bool),[.val ⟨false,aB,[]⟩,.val ⟨false,aB,[]⟩],[⟨true,(.bNT tI aF),[0,0,2]⟩,⟨false,.bool,[0]⟩],false,none,
 ((fun _=>True):(bP)→Prop),
 ((fun x=>qP x.1 x.2):(bP)→((Int × cC) × Bool))⟩
def aGX:T:=.call 0 (.p1 aB aB (.Z 0)) <|
 .bNU .not (.Z 1) <|
 .ite (.Z 2) (
  .ret (.bNV (.bNT tI aF) .bool (bB (.bNT tI aF) [(.ci .i64 0),(.ci .i64 0),(.nl 3 tI)]) (.cb false))) (
  .call 0 (aO aM 1 (.Z 0)) <|
  .bNU .not (.Z 3) <|
  .ite (.Z 4) (
   .ret (.bNV (.bNT tI aF) .bool (bB (.bNT tI aF) [(.ci .i64 0),(.ci .i64 0),(.nl 3 tI)]) (.cb false))) (
   .bNU (.bNX 3 tI) (.p1 aB aB (.Z 0)) <|
   .bNU (.bNX 3 tI) (aO aM 1 (.Z 0)) <|
   .bNU (.bNX 3 tI) (.p1 aB aB (.Z 0)) <|
   .loop (.bNT tI (.bNT .bool aB)) (bB (.bNT tI (.bNT .bool aB)) [(.ci .i64 0),(.cb false),(.nl 3 tI)]) <|
    .bNU (.cmp .lss .i64) (.bNV tI tI (.p1 tI (.bNT .bool aB) (.Z 8)) (.Z 7)) <|
    .ite (.Z 9) (
     .bNU (.bNY 3 tI) (.bNV aB tI (.p1 aB aB (.Z 0)) (.p1 tI (.bNT .bool aB) (.Z 8))) <|
     .bNU (.bNX 3 tI) (aO aM 1 (.Z 0)) <|
     .loop (.bNT tI (.bNT .bool aB)) (.bNV tI (.bNT .bool aB) (.ci .i64 0) (aO (.bNT tI (.bNT .bool aB)) 1 (.Z 8))) <|
      .bNU (.cmp .lss .i64) (.bNV tI tI (.p1 tI (.bNT .bool aB) (.Z 12)) (.Z 11)) <|
      .ite (.Z 13) (
       .bNU (.bNY 3 tI) (.bNV aB tI (aO aM 1 (.Z 0)) (.p1 tI (.bNT .bool aB) (.Z 12))) <|
       .call 1 (.bNV tI tI (.Z 10) (.Z 14)) <|
       .bNU (.lit 3 tI 1) (.p1 tI .bool (.Z 15)) <|
       .bNU (.bO0 3 tI 8) (.bNV aB aB (aO (.bNT tI (.bNT .bool aB)) 2 (.Z 12)) (.Z 16)) <|
       .ite (aJ (.bNT tI (.bNT .bool aB)) 1 (.Z 12)) (
        .bNU (.ar .add .i64) (.bNV tI tI (.p1 tI (.bNT .bool aB) (.Z 12)) (.ci .i64 1)) <|
        .bNW 0 (bB (.bNT tI (.bNT .bool aB)) [(.Z 18),(.cb true),(.Z 17)])) (
        .bNU (.ar .add .i64) (.bNV tI tI (.p1 tI (.bNT .bool aB) (.Z 12)) (.ci .i64 1)) <|
        .bNW 0 (bB (.bNT tI (.bNT .bool aB)) [(.Z 18),(aO (.bNT tI .bool) 1 (.Z 15)),(.Z 17)]))) (
       .bNU (.ar .add .i64) (.bNV tI tI (.p1 tI (.bNT .bool aB) (.Z 8)) (.ci .i64 1)) <|
       .bNW 1 (.bNV tI (.bNT .bool aB) (.Z 14) (aO (.bNT tI (.bNT .bool aB)) 1 (.Z 12))))) (
     .ret (.bNV (.bNT tI aF) .bool (bB (.bNT tI aF) [(.Z 5),(.Z 6),(aO (.bNT tI (.bNT .bool aB)) 2 (.Z 8))]) (aJ (.bNT tI (.bNT .bool aB)) 1 (.Z 8))))))
theorem bDJ:bM Tryz.prog [cX,gY] vO false 3000 ⟨[(2984,4008,iT 27 23++iT 21 14++[.dr 0,.tm 30 0,.tm 7 0,.sl 5]),(2971,12012,[.tm 36 0,.tm 7 0,.sl 5])],[]⟩ = .ok aGX:=by kernel_rfl
theorem bDT (x:bP) (hx:okD aM x) (hp:(fun _=>True) x):aGX.wp [cX,gY] [⟨aM,x⟩] [] (fun v=>v.as (.bNT (.bNT tI aF) .bool)=(fun x=>qP x.1 x.2) x):=by
 obtain ⟨d,v⟩:=x
 delta aGX cX gY;refine dB ?_
 simp only[Bool.not_eq_true',Bool.not_eq_false']
 refine ⟨fun h=>?_,fun h1=>⟨fun h=>?_,fun h2 _ _ _=>?_⟩⟩
 ·unfold qP;rw[if_neg (by rw[h];simp)];rfl
 ·unfold qP;rw[if_neg (by rw[h];simp)];rfl
 rw[show qP d v=_ from if_pos ⟨h1,h2⟩]
 have hd:=(cL d).1 h1
 have hv:=(cL v).1 h2
 refine cZ (fun i=>((i:Int),an i (aKG d v),pV (wW d v) i)) d.length rfl fun I μ i hi _ go=>?_
 dsimp only
 refine dT ?_
 have hl:(pV (wW d v) i).length=i * v.length:=sM (fun i=>fR _ _) i
 have hq:i * v.length≤36:=Nat.le_trans (Nat.mul_le_mul hi (show v.length≤6 by omega)) (by omega)
 generalize hD:pV (wW d v) i=D at *
 generalize hA:an i (aKG d v)=A at *
 constructor
 ·intro hlt
  refine ⟨by omega,fun _ _=>?_⟩
  refine cZ (fun j=>((j:Int),A || an j (fun j=>(fA (d.getD i 0) (v.getD j 0)).2),D++mp j fun j=>(fA (d.getD i 0) (v.getD j 0)).1)) v.length (by simp[aRU,bC0]) fun I2 μ2 j hj _ go2=>?_
  dsimp only
  simp only[nS,fR]
  have ea:(A || an (j+1) (fun j=>(fA (d.getD i 0) (v.getD j 0)).2))=((A || an j (fun j=>(fA (d.getD i 0) (v.getD j 0)).2)) || (fA (d.getD i 0) (v.getD j 0)).2):=by rw[lI,Bool.or_assoc]
  (repeat' first|intro _|(refine go2 _ ?_ ?_ ?_)|(refine go2 _ ?_ ?_)|(refine go _ ?_ ?_ ?_)|(refine go _ ?_ ?_)|(with_reducible apply And.intro))
  all_goals first|omega|(unfold maxLen;omega)|(rw[gH,← List.append_assoc,ea];first|exact Prod.ext rfl (Prod.ext (iC (by assumption)) rfl)|exact Prod.ext rfl (Prod.ext (lL (by assumption)) rfl))|(have e:j=v.length:=(by omega);subst e;rw[pV,hD,lI,hA];rfl)
 ·intro hge
  have e:i=d.length:=by omega
  subst e
  rw[← hD,← hA]
theorem bDX:Con.Holds Tryz.prog vO:=aS aW (aH oD (aH aDM aR)) bDJ bDT
def mS:Con:=⟨173,bG,(.bNT tI aF),[.val ⟨true,bG,[]⟩],[⟨true,(.bNT tI aF),[0,0,0]⟩],true,none,
 ((fun _=>True):(dJ)→Prop),
 ((fun x=>wE x):(dJ)→(Int × cC))⟩
def aHJ:T:=.ret (bB (.bNT tI aF) [(aJ bG 2 (.Z 0)),(aJ bG 1 (.Z 0)),(aO bG 3 (.Z 0))])
theorem bCP:bM Tryz.prog [] mS false 3000 ⟨[],[]⟩ = .ok aHJ:=by kernel_rfl
theorem bE9 (x:dJ) (hx:okD bG x) (hp:(fun _=>True) x):aHJ.wp [] [⟨bG,x⟩] [] (fun v=>v.as (.bNT tI aF)=(fun x=>wE x) x):=by
 delta aHJ;refine dB ?_;try with_reducible exact True.intro
 rfl
theorem aNN:Con.Holds Tryz.prog mS:=aS aW aR bCP bE9
def lR:Con:=⟨150,(.bNT bG aB),(.bNT aB .bool),[.val ⟨true,bG,[]⟩,.val ⟨false,aB,[]⟩],[⟨false,aB,[2]⟩,⟨false,.bool,[0]⟩],false,none,
 ((fun _=>True):(dJ × bK)→Prop),
 ((fun x=>oT x.1 x.2):(dJ × bK)→(bK × Bool))⟩
def vJ:T:=.call 0 (.p1 bG aB (.Z 0)) <|
 .bNU .not (.Z 1) <|
 .ite (.Z 2) (
  .ret (.bNV aB .bool (.nl 3 tI) (.cb false))) (
  .call 1 (.bNV aB tI (aO (.bNT bG aB) 1 (.Z 0)) (aJ bG 1 (.p1 bG aB (.Z 0)))) <|
  .bNU .not (.Z 3) <|
  .ite (.Z 4) (
   .ret (.bNV aB .bool (.nl 3 tI) (.cb false))) (
   .bNU (.cmp .eql .i64) (.bNV tI tI (.p1 tI (.bNT tI aF) (.p1 bG aB (.Z 0))) (.ci .i64 1)) <|
   .ite (.Z 5) (
    .call 2 (.p1 bG aB (.Z 0)) <|
    .call 3 (.bNV (.bNT tI aF) aB (.Z 6) (aO (.bNT bG aB) 1 (.Z 0))) <|
    .ret (.Z 7)) (
    .bNU (.cmp .eql .i64) (.bNV tI tI (.p1 tI (.bNT tI aF) (.p1 bG aB (.Z 0))) (.ci .i64 2)) <|
    .ite (.Z 6) (
     .call 4 (.bNV aB aB (aO (.bNT bG aB) 1 (.Z 0)) (aO bG 3 (.p1 bG aB (.Z 0)))) <|
     .ret (.Z 7)) (
     .bNU (.cmp .eql .i64) (.bNV tI tI (.p1 tI (.bNT tI aF) (.p1 bG aB (.Z 0))) (.ci .i64 4)) <|
     .ite (.Z 7) (
      .bNU (.bNY 3 tI) (.bNV aB tI (aO bG 3 (.p1 bG aB (.Z 0))) (.ci .i64 0)) <|
      .call 5 (.bNV tI aB (.Z 8) (aO (.bNT bG aB) 1 (.Z 0))) <|
      .ret (.Z 9)) (
      .bNU (.cmp .eql .i64) (.bNV tI tI (.p1 tI (.bNT tI aF) (.p1 bG aB (.Z 0))) (.ci .i64 5)) <|
      .ite (.Z 8) (
       .call 2 (.p1 bG aB (.Z 0)) <|
       .call 3 (.bNV (.bNT tI aF) aB (.Z 9) (aO (.bNT bG aB) 1 (.Z 0))) <|
       .call 4 (.bNV aB aB (aO (.bNT bG aB) 1 (.Z 0)) (.p1 aB .bool (.Z 10))) <|
       .ite (aO (.bNT aB .bool) 1 (.Z 10)) (
        .ret (.bNV aB .bool (.p1 aB .bool (.Z 11)) (.cb true))) (
        .ret (.Z 11))) (
       .call 6 (aO (.bNT bG aB) 1 (.Z 0)) <|
       .ret (.bNV aB .bool (.Z 9) (.cb false))))))))
theorem aN8:bM Tryz.prog [kO,cB,mS,kV,kX,iF,pK] lR false 3000 ⟨[],[]⟩ = .ok vJ:=by kernel_rfl
theorem aMC (x:dJ × bK) (hx:okD (.bNT bG aB) x) (hp:(fun _=>True) x):vJ.wp [kO,cB,mS,kV,kX,iF,pK] [⟨(.bNT bG aB),x⟩] [] (fun v=>v.as (.bNT aB .bool)=(fun x=>oT x.1 x.2) x):=by
 obtain ⟨⟨kd,i,ou,P⟩,v⟩:=x
 delta vJ kO cB mS kV kX iF pK;refine dB ?_
 simp only[Bool.not_eq_true',Bool.not_eq_false']
 refine ⟨fun h=>?_,fun h1=>⟨fun h=>?_,fun h2=>?_⟩⟩
 ·unfold oT;rw[if_pos (by rw[h];simp)]
 ·unfold oT;rw[if_pos (by rw[h];simp)]
 have h4:=aIR h1
 have hk:=((hK _).1 h1).1
 dsimp only at h4 hk
 (refine dT ?_;try with_reducible exact True.intro)
 (repeat' first|intro _|(with_reducible apply And.intro))
 all_goals first|omega|(obtain rfl:kd=3:=(by omega);simp[oT,h1,h2];done)|(simp_all[oT];done)
theorem aNE:Con.Holds Tryz.prog lR:=aS aW (aH aIV (aH jT (aH aNN (aH aJ0 (aH aJ8 (aH aFK (aH aUG aR))))))) aN8 aMC
def kG:Con:=⟨156,(.bNT bG aM),(.bNT aB (.bNT aB .bool)),[.val ⟨true,bG,[]⟩,.val ⟨false,aB,[]⟩,.val ⟨false,aB,[]⟩],[⟨false,aB,[2]⟩,⟨false,aB,[2]⟩,⟨false,.bool,[0]⟩],false,none,
 ((fun _=>True):(dJ × bP)→Prop),
 ((fun x=>iB x.1 x.2.1 x.2.2):(dJ × bP)→(bK × (bK × Bool)))⟩
def rX:T:=.call 0 (.p1 bG aM (.Z 0)) <|
 .bNU .not (.Z 1) <|
 .ite (.Z 2) (
  .ret (bB (.bNT aB (.bNT aB .bool)) [(.nl 3 tI),(.nl 3 tI),(.cb false)])) (
  .call 1 (.bNV aB tI (aJ (.bNT bG aM) 1 (.Z 0)) (aJ bG 1 (.p1 bG aM (.Z 0)))) <|
  .bNU .not (.Z 3) <|
  .ite (.Z 4) (
   .ret (bB (.bNT aB (.bNT aB .bool)) [(.nl 3 tI),(.nl 3 tI),(.cb false)])) (
   .call 1 (.bNV aB tI (aO (.bNT bG aM) 2 (.Z 0)) (aJ bG 2 (.p1 bG aM (.Z 0)))) <|
   .bNU .not (.Z 5) <|
   .ite (.Z 6) (
    .ret (bB (.bNT aB (.bNT aB .bool)) [(.nl 3 tI),(.nl 3 tI),(.cb false)])) (
    .bNU (.cmp .eql .i64) (.bNV tI tI (.p1 tI (.bNT tI aF) (.p1 bG aM (.Z 0))) (.ci .i64 1)) <|
    .ite (.Z 7) (
     .call 2 (.p1 bG aM (.Z 0)) <|
     .call 3 (.bNV (.bNT tI aF) aB (.Z 8) (aO (.bNT bG aM) 2 (.Z 0))) <|
     .call 4 (.bNV aB aB (aO (.bNT bG aM) 2 (.Z 0)) (aJ (.bNT bG aM) 1 (.Z 0))) <|
     .ite (aO (.bNT aB .bool) 1 (.Z 9)) (
      .ret (bB (.bNT aB (.bNT aB .bool)) [(.p1 aB .bool (.Z 9)),(aO (.bNT tI aF) 2 (.p1 (.bNT tI aF) .bool (.Z 10))),(.cb true)])) (
      .ret (bB (.bNT aB (.bNT aB .bool)) [(.p1 aB .bool (.Z 9)),(aO (.bNT tI aF) 2 (.p1 (.bNT tI aF) .bool (.Z 10))),(aO (.bNT (.bNT tI aF) .bool) 1 (.Z 10))]))) (
     .bNU (.cmp .eql .i64) (.bNV tI tI (.p1 tI (.bNT tI aF) (.p1 bG aM (.Z 0))) (.ci .i64 2)) <|
     .ite (.Z 8) (
      .call 5 (aO (.bNT bG aM) 2 (.Z 0)) <|
      .call 5 (aO (.bNT bG aM) 2 (.Z 0)) <|
      .ret (bB (.bNT aB (.bNT aB .bool)) [(.Z 9),(.Z 10),(.cb false)])) (
      .bNU (.cmp .eql .i64) (.bNV tI tI (.p1 tI (.bNT tI aF) (.p1 bG aM (.Z 0))) (.ci .i64 4)) <|
      .ite (.Z 9) (
       .bNU (.bNY 3 tI) (.bNV aB tI (aO bG 3 (.p1 bG aM (.Z 0))) (.ci .i64 0)) <|
       .call 6 (.bNV tI aB (.Z 10) (aO (.bNT bG aM) 2 (.Z 0))) <|
       .call 7 (.bNV aB aB (aO (.bNT bG aM) 2 (.Z 0)) (aJ (.bNT bG aM) 1 (.Z 0))) <|
       .bNU (.lit 3 tI 1) (.p1 tI .bool (.Z 12)) <|
       .ite (aO (.bNT aB .bool) 1 (.Z 11)) (
        .ret (bB (.bNT aB (.bNT aB .bool)) [(.p1 aB .bool (.Z 11)),(.Z 13),(.cb true)])) (
        .ret (bB (.bNT aB (.bNT aB .bool)) [(.p1 aB .bool (.Z 11)),(.Z 13),(aO (.bNT tI .bool) 1 (.Z 12))]))) (
       .bNU (.cmp .eql .i64) (.bNV tI tI (.p1 tI (.bNT tI aF) (.p1 bG aM (.Z 0))) (.ci .i64 5)) <|
       .ite (.Z 10) (
        .call 2 (.p1 bG aM (.Z 0)) <|
        .call 3 (.bNV (.bNT tI aF) aB (.Z 11) (aO (.bNT bG aM) 2 (.Z 0))) <|
        .call 8 (.bNV aB aB (aO (.bNT bG aM) 2 (.Z 0)) (.p1 aB .bool (.Z 12))) <|
        .call 4 (.bNV aB aB (aO (.bNT bG aM) 2 (.Z 0)) (aJ (.bNT bG aM) 1 (.Z 0))) <|
        .ite (aO (.bNT aB .bool) 1 (.Z 12)) (
         .ret (bB (.bNT aB (.bNT aB .bool)) [(.p1 aB .bool (.Z 13)),(aO (.bNT tI aF) 2 (.p1 (.bNT tI aF) .bool (.Z 14))),(.cb true)])) (
         .ite (aO (.bNT aB .bool) 1 (.Z 13)) (
          .ret (bB (.bNT aB (.bNT aB .bool)) [(.p1 aB .bool (.Z 13)),(aO (.bNT tI aF) 2 (.p1 (.bNT tI aF) .bool (.Z 14))),(.cb true)])) (
          .ret (bB (.bNT aB (.bNT aB .bool)) [(.p1 aB .bool (.Z 13)),(aO (.bNT tI aF) 2 (.p1 (.bNT tI aF) .bool (.Z 14))),(aO (.bNT (.bNT tI aF) .bool) 1 (.Z 14))])))) (
        .call 9 (aO (.bNT bG aM) 1 (.Z 0)) <|
        .ret (bB (.bNT aB (.bNT aB .bool)) [(.Z 11),(.nl 3 tI),(.cb false)]))))))))
theorem aJV:bM Tryz.prog [kO,cB,mS,oQ,vO,bN,iF,gS,kX,pI] kG false 3000 ⟨[],[]⟩ = .ok rX:=by kernel_rfl
theorem aLF (x:dJ × bP) (hx:okD (.bNT bG aM) x) (hp:(fun _=>True) x):rX.wp [kO,cB,mS,oQ,vO,bN,iF,gS,kX,pI] [⟨(.bNT bG aM),x⟩] [] (fun v=>v.as (.bNT aB (.bNT aB .bool))=(fun x=>iB x.1 x.2.1 x.2.2) x):=by
 obtain ⟨⟨kd,i,ou,P⟩,v,d⟩:=x
 delta rX kO cB mS oQ vO bN iF gS kX pI;refine dB ?_
 simp only[Bool.not_eq_true',Bool.not_eq_false']
 refine ⟨fun h=>?_,fun h1=>⟨fun h=>?_,fun h2=>⟨fun h=>?_,fun h3=>?_⟩⟩⟩
 ·unfold iB;rw[if_pos (by rw[h];simp)]
 ·unfold iB;rw[if_pos (by rw[h];simp)]
 ·unfold iB;rw[if_pos (by rw[h];simp)]
 have h4:=aIR h1
 have hk:=((hK _).1 h1).1
 have hd:=(cL _).1 ((cE _ _).1 h3).1
 dsimp only at h4 hk
 (refine dT ?_;try with_reducible exact True.intro)
 (repeat' first|intro _|(with_reducible apply And.intro))
 all_goals first|omega|(obtain rfl:kd=3:=(by omega);simp[iB,h1,h2,h3];done)|(simp_all[iB];done)
theorem aJP:Con.Holds Tryz.prog kG:=aS aW (aH aIV (aH jT (aH aNN (aH aV4 (aH bDX (aH gK (aH aFK (aH aE4 (aH aJ8 (aH aT2 aR)))))))))) aJV aLF
def mO:Con:=⟨193,(.bNT tI aF),.bool,[.val ⟨true,(.bNT tI aF),[]⟩],[⟨false,.bool,[0]⟩],false,none,
 ((fun _=>True):(Int × cC)→Prop),
 ((fun x=>xV x):(Int × cC)→(Bool))⟩
def aG8:T:=.call 0 (bB (.bNT tI aE) [(.p1 tI aF (.Z 0)),(.ci .i64 1),(.ci .i64 6)]) <|
 .bNU .not (.Z 1) <|
 .ite (.Z 2) (
  .ret (.cb false)) (
  .call 0 (bB (.bNT tI aE) [(aJ (.bNT tI aF) 1 (.Z 0)),(.ci .i64 1),(.ci .i64 6)]) <|
  .bNU .not (.Z 3) <|
  .ite (.Z 4) (
   .ret (.cb false)) (
   .bNU (.bNX 3 tI) (aO (.bNT tI aF) 2 (.Z 0)) <|
   .bNU (.ar .mul .i64) (.bNV tI tI (.p1 tI aF (.Z 0)) (aJ (.bNT tI aF) 1 (.Z 0))) <|
   .bNU (.cmp .neq .i64) (.bNV tI tI (.Z 5) (.Z 6)) <|
   .ite (.Z 7) (
    .ret (.cb false)) (
    .loop tI (.ci .i64 0) <|
     .bNU (.bNX 3 tI) (aO (.bNT tI aF) 2 (.Z 0)) <|
     .bNU (.cmp .lss .i64) (.bNV tI tI (.Z 8) (.Z 9)) <|
     .ite (.Z 10) (
      .bNU (.bNY 3 tI) (.bNV aB tI (aO (.bNT tI aF) 2 (.Z 0)) (.Z 8)) <|
      .call 1 (.Z 11) <|
      .bNU .not (.Z 12) <|
      .ite (.Z 13) (
       .ret (.cb false)) (
       .bNU (.ar .add .i64) (.bNV tI tI (.Z 8) (.ci .i64 1)) <|
       .bNW 0 (.Z 14))) (
      .ret (.cb true)))))
theorem bCZ:bM Tryz.prog [bI,fY] mO false 3000 ⟨[(2988,8008,iT 24 4++[.dr 0,.tm 3 0])],[]⟩ = .ok aG8:=by kernel_rfl
theorem bD4 (x:Int × cC) (hx:okD (.bNT tI aF) x) (hp:(fun _=>True) x):aG8.wp [bI,fY] [⟨(.bNT tI aF),x⟩] [] (fun v=>v.as .bool=(fun x=>xV x) x):=by
 have hm:List.length x.2.2≤9223372036854775807:=hx.2.2.1
 delta aG8 bI fY;refine dB ?_
 simp only[nS,qF,qI]
 (repeat' first|intro _|(with_reducible apply And.intro))
 all_goals first|(first|(refine (Bool.eq_false_iff.2 ?_).symm;rw[ne_eq,lT];intro hh;omega)|(refine (lT.2 ?_).symm;omega))|(have:=aOW (a:=x.1) (b:=x.2.1) (by omega) (by omega) (by omega) (by omega);omega)|(refine (Bool.eq_false_iff.2 fun h=>?_).symm;rw[lT] at h;exact absurd h.1.2.2.2.2 (by assumption))|skip
 refine yV (fun k=>(k:Int)) (fun k=>(List.take k x.2.2).all iP=true) x.2.2.length rfl rfl fun I μ k hk hG _ go=>?_
 try dsimp only
 refine dT ?_
 have e:∀ h:k<x.2.2.length,(List.take (k+1) x.2.2).all iP=iP (x.2.2.getD k 0):=fun h=>by rw[qB iP x.2.2 h,hG,Bool.true_and,aZ h]
 (repeat' first|intro _|(refine go _ ?_ ?_ ?_)|(refine go _ ?_ ?_)|(with_reducible apply And.intro))
 all_goals first|omega|(refine (Bool.eq_false_iff.2 fun hh=>?_).symm;have h1:=List.all_eq_true.1 ((lT x).1 hh).2 _ (List.getElem_mem (show k<x.2.2.length by omega));rw[← aZ (d:=0)] at h1;exact Bool.noConfusion (h1.symm.trans (by assumption:_=false)))|(exact (e (by omega)).trans (by assumption))|rfl|skip
 refine ((lT x).2 ⟨⟨by omega,by omega,by omega,by omega,by omega⟩,?_⟩).symm
 rwa [List.take_of_length_le (by omega)] at hG
theorem aOL:Con.Holds Tryz.prog mO:=aS aW (aH eY (aH aBM aR)) bCZ bD4
def wI:Con:=⟨194,(.bNT (.bNT tI aF) tI),aB,[.val ⟨true,(.bNT tI aF),[]⟩,.val ⟨false,tI,[]⟩],[⟨false,aB,[0]⟩],true,none,
 ((fun x=>xV x.1=true∧0≤x.2∧x.2<x.1.1):((Int × cC) × Int)→Prop),
 ((fun x=>aAO x.1 x.2.toNat):((Int × cC) × Int)→(List Int))⟩
def aFZ:T :=
 .bNU (.ar .mul .i64) (.bNV tI tI (aO (.bNT (.bNT tI aF) tI) 1 (.Z 0)) (aJ (.bNT tI aF) 1 (.p1 (.bNT tI aF) tI (.Z 0)))) <|
 .bNU (.ar .add .i64) (.bNV tI tI (aO (.bNT (.bNT tI aF) tI) 1 (.Z 0)) (.ci .i64 1)) <|
 .bNU (.ar .mul .i64) (.bNV tI tI (.Z 2) (aJ (.bNT tI aF) 1 (.p1 (.bNT tI aF) tI (.Z 0)))) <|
 .bNU (.bNZ 3 tI) (bB (.bNT aB aE) [(aO (.bNT tI aF) 2 (.p1 (.bNT tI aF) tI (.Z 0))),(.Z 1),(.Z 3)]) <|
 .ret (.Z 4)
theorem bDW:bM Tryz.prog [] wI false 3000 ⟨[],[]⟩ = .ok aFZ:=by kernel_rfl
theorem bES (x:(Int × cC) × Int) (hx:okD (.bNT (.bNT tI aF) tI) x) (hp:(fun x=>xV x.1=true∧0≤x.2∧x.2<x.1.1) x):aFZ.wp [] [⟨(.bNT (.bNT tI aF) tI),x⟩] [] (fun v=>v.as aB=(fun x=>aAO x.1 x.2.toNat) x):=by
 obtain ⟨m,k⟩:=x
 obtain ⟨h1,h2,h3⟩:xV m=true∧0≤k∧k<m.1:=hp
 obtain ⟨R,C,data,rfl,g1,g2,g3,g4,g5,g6,g7⟩:=lK h1
 obtain ⟨k,rfl⟩:=Int.eq_ofNat_of_zero_le h2
 have h3:k<R:=by dsimp only at h3;omega
 delta aFZ;refine dB ?_
 obtain ⟨p,e0⟩:∃ p,p=k * C:=⟨_,rfl⟩
 have e1:(k:Int) * (C:Int)=(p:Int):=by rw[e0];exact (Int.natCast_mul k C).symm
 have e2:((k:Int)+1) * (C:Int)=((p+C:Nat):Int):=by rw[Int.add_mul,e1,Int.one_mul];rfl
 have e4:p+C≤data.length:=by rw[e0,g5];exact aGG h3
 simp only[e1,e2,nS,← aKM R C k p data e0]
 (repeat' first|intro _|(with_reducible apply And.intro))
 all_goals first|omega|trivial|rfl
theorem bE7:Con.Holds Tryz.prog wI:=aS aW aR bDW bES
def wH:Con:=⟨197,(.bNT (.bNT tI aF) tI),aB,[.val ⟨true,(.bNT tI aF),[]⟩,.val ⟨false,tI,[]⟩],[⟨false,aB,[2]⟩],false,none,
 ((fun x=>xV x.1=true∧0≤x.2∧x.2<x.1.2.1):((Int × cC) × Int)→Prop),
 ((fun x=>rI x.1 x.2.toNat):((Int × cC) × Int)→(List Int))⟩
def aGT:T:=.loop aF (.bNV tI aB (.ci .i64 0) (.nl 3 tI)) <|
 .bNU (.cmp .lss .i64) (.bNV tI tI (.p1 tI aB (.Z 1)) (.p1 tI aF (.p1 (.bNT tI aF) tI (.Z 0)))) <|
 .ite (.Z 2) (
  .bNU (.ar .mul .i64) (.bNV tI tI (.p1 tI aB (.Z 1)) (aJ (.bNT tI aF) 1 (.p1 (.bNT tI aF) tI (.Z 0)))) <|
  .bNU (.ar .add .i64) (.bNV tI tI (.Z 3) (aO (.bNT (.bNT tI aF) tI) 1 (.Z 0))) <|
  .bNU (.bNY 3 tI) (.bNV aB tI (aO (.bNT tI aF) 2 (.p1 (.bNT tI aF) tI (.Z 0))) (.Z 4)) <|
  .bNU (.lit 3 tI 1) (.Z 5) <|
  .bNU (.bO0 3 tI 8) (.bNV aB aB (aO aF 1 (.Z 1)) (.Z 6)) <|
  .bNU (.ar .add .i64) (.bNV tI tI (.p1 tI aB (.Z 1)) (.ci .i64 1)) <|
  .bNW 0 (.bNV tI aB (.Z 8) (.Z 7))) (
  .ret (aO aF 1 (.Z 1)))
theorem bCB:bM Tryz.prog [] wH false 3000 ⟨[(2991,1001,[.dr 7,.dr 0,.tm 6 0,.on 5,.sl 2])],[]⟩ = .ok aGT:=by kernel_rfl
theorem bED (x:(Int × cC) × Int) (hx:okD (.bNT (.bNT tI aF) tI) x) (hp:(fun x=>xV x.1=true∧0≤x.2∧x.2<x.1.2.1) x):aGT.wp [] [⟨(.bNT (.bNT tI aF) tI),x⟩] [] (fun v=>v.as aB=(fun x=>rI x.1 x.2.toNat) x):=by
 obtain ⟨m,c⟩:=x
 obtain ⟨h1,h2,h3⟩:xV m=true∧0≤c∧c<m.2.1:=hp
 obtain ⟨R,C,data,rfl,g1,g2,g3,g4,g5,g6,g7⟩:=lK h1
 obtain ⟨c,rfl⟩:=Int.eq_ofNat_of_zero_le h2
 have h3:c<C:=by dsimp only at h3;omega
 delta aGT;refine dB ?_
 refine cZ (fun r=>((r:Int),mp r fun i=>data.getD (i * C+c) 0)) R rfl fun I μ k hk _ go=>?_
 dsimp only
 obtain ⟨p,e0⟩:∃ p,p=k * C:=⟨_,rfl⟩
 have e1:(k:Int) * (C:Int)=(p:Int):=by rw[e0];exact (Int.natCast_mul k C).symm
 have e2:(p:Int)+(c:Int)=((p+c:Nat):Int):=rfl
 have e4:k<R→p+C≤data.length:=fun h=>by rw[e0,g5];exact aGG h
 simp only[e1,e2,nS,fR]
 (repeat' first|intro _|(refine go _ ?_ ?_ ?_)|(refine go _ ?_ ?_)|(with_reducible apply And.intro))
 all_goals first|omega|(unfold maxLen;omega)|(rw[gH,← e0];rfl)|(have e:k=R:=(by omega);subst e;rfl)
theorem bCO:Con.Holds Tryz.prog wH:=aS aW aR bCB bED
def sT:Con:=⟨181,(.bNT (.bNT tI aF) aB),(.bNT aB .bool),[.val ⟨true,(.bNT tI aF),[]⟩,.val ⟨false,aB,[]⟩],[⟨false,aB,[2]⟩,⟨false,.bool,[0]⟩],false,none,
 ((fun _=>True):((Int × cC) × bK)→Prop),
 ((fun x=>jL x.1 x.2):((Int × cC) × bK)→(bK × Bool))⟩
def aDF:T:=.call 0 (.p1 (.bNT tI aF) aB (.Z 0)) <|
 .bNU .not (.Z 1) <|
 .ite (.Z 2) (
  .ret (.bNV aB .bool (.nl 3 tI) (.cb false))) (
  .call 1 (aO (.bNT (.bNT tI aF) aB) 1 (.Z 0)) <|
  .bNU .not (.Z 3) <|
  .ite (.Z 4) (
   .ret (.bNV aB .bool (.nl 3 tI) (.cb false))) (
   .bNU (.bNX 3 tI) (aO (.bNT (.bNT tI aF) aB) 1 (.Z 0)) <|
   .bNU (.cmp .neq .i64) (.bNV tI tI (.Z 5) (aJ (.bNT tI aF) 1 (.p1 (.bNT tI aF) aB (.Z 0)))) <|
   .ite (.Z 6) (
    .ret (.bNV aB .bool (.nl 3 tI) (.cb false))) (
    .loop (.bNT tI (.bNT .bool aB)) (bB (.bNT tI (.bNT .bool aB)) [(.ci .i64 0),(.cb false),(.nl 3 tI)]) <|
     .bNU (.cmp .lss .i64) (.bNV tI tI (.p1 tI (.bNT .bool aB) (.Z 7)) (.p1 tI aF (.p1 (.bNT tI aF) aB (.Z 0)))) <|
     .ite (.Z 8) (
      .call 2 (.bNV (.bNT tI aF) tI (.p1 (.bNT tI aF) aB (.Z 0)) (.p1 tI (.bNT .bool aB) (.Z 7))) <|
      .call 3 (.bNV aB aB (.Z 9) (aO (.bNT (.bNT tI aF) aB) 1 (.Z 0))) <|
      .bNU (.lit 3 tI 1) (.p1 tI .bool (.Z 10)) <|
      .bNU (.bO0 3 tI 8) (.bNV aB aB (aO (.bNT tI (.bNT .bool aB)) 2 (.Z 7)) (.Z 11)) <|
      .ite (aJ (.bNT tI (.bNT .bool aB)) 1 (.Z 7)) (
       .bNU (.ar .add .i64) (.bNV tI tI (.p1 tI (.bNT .bool aB) (.Z 7)) (.ci .i64 1)) <|
       .bNW 0 (bB (.bNT tI (.bNT .bool aB)) [(.Z 13),(.cb true),(.Z 12)])) (
       .bNU (.ar .add .i64) (.bNV tI tI (.p1 tI (.bNT .bool aB) (.Z 7)) (.ci .i64 1)) <|
       .bNW 0 (bB (.bNT tI (.bNT .bool aB)) [(.Z 13),(aO (.bNT tI .bool) 1 (.Z 10)),(.Z 12)]))) (
      .ret (.bNV aB .bool (aO (.bNT tI (.bNT .bool aB)) 2 (.Z 7)) (aJ (.bNT tI (.bNT .bool aB)) 1 (.Z 7)))))))
theorem aZC:bM Tryz.prog [mO,bJ,wI,eV] sT false 3000 ⟨[(2984,8007,iT 26 11++[.dr 0,.tm 8 0,.tm 7 0,.on 6,.sl 2])],[]⟩ = .ok aDF:=by kernel_rfl
theorem aZH (x:(Int × cC) × bK) (hx:okD (.bNT (.bNT tI aF) aB) x) (hp:(fun _=>True) x):aDF.wp [mO,bJ,wI,eV] [⟨(.bNT (.bNT tI aF) aB),x⟩] [] (fun v=>v.as (.bNT aB .bool)=(fun x=>jL x.1 x.2) x):=by
 obtain ⟨m,v⟩:=x
 delta aDF mO bJ wI eV;refine dB ?_
 simp only[Bool.not_eq_true',Bool.not_eq_false',qF,qI]
 refine ⟨fun h=>?_,fun h1=>⟨fun h=>?_,fun h2 _=>⟨fun h=>?_,fun h3=>?_⟩⟩⟩
 ·unfold jL;rw[if_neg (by rw[h];simp)]
 ·unfold jL eF;rw[if_neg (by rw[h];simp)]
 ·unfold jL eF;rw[if_neg (fun hh=>h (by have:=hh.2;rw[Bool.and_eq_true,decide_eq_true_eq] at this;exact this.2))]
 have h4:eF v m.2.1=true:=(cE _ _).2 ⟨h2,h3⟩
 rw[show jL m v=_ from if_pos ⟨h1,h4⟩]
 obtain ⟨R,C,data,rfl,g1,g2,g3,g4,g5,g6,g7⟩:=lK h1
 refine cZ (fun k=>((k:Int),an k (fun r=>(fL (aAO ((R:Int),(C:Int),data) r) v).2),mp k fun r=>(fL (aAO ((R:Int),(C:Int),data) r) v).1)) R rfl fun I μ k hk _ go=>?_
 dsimp only
 simp only[nS,fR]
 (repeat' first|intro _|(refine go _ ?_ ?_ ?_)|(refine go _ ?_ ?_)|(with_reducible apply And.intro))
 all_goals first|omega|exact h1|(unfold maxLen;omega)|(rw[gH,lI];first|exact Prod.ext rfl (Prod.ext (iC (by assumption)) rfl)|exact Prod.ext rfl (Prod.ext (lL (by assumption)) rfl))|(have e:k=R:=(by omega);subst e;rfl)
theorem bAG:Con.Holds Tryz.prog sT:=aS aW (aH aOL (aH fD (aH bE7 (aH xG aR)))) aZC aZH
def pC:Con:=⟨188,(.bNT (.bNT tI aF) aB),(.bNT aB .bool),[.val ⟨true,(.bNT tI aF),[]⟩,.val ⟨false,aB,[]⟩],[⟨false,aB,[2]⟩,⟨false,.bool,[0]⟩],false,none,
 ((fun _=>True):((Int × cC) × bK)→Prop),
 ((fun x=>gF x.1 x.2):((Int × cC) × bK)→(bK × Bool))⟩
def aAR:T:=.call 0 (.p1 (.bNT tI aF) aB (.Z 0)) <|
 .bNU .not (.Z 1) <|
 .ite (.Z 2) (
  .ret (.bNV aB .bool (.nl 3 tI) (.cb false))) (
  .call 1 (aO (.bNT (.bNT tI aF) aB) 1 (.Z 0)) <|
  .bNU .not (.Z 3) <|
  .ite (.Z 4) (
   .ret (.bNV aB .bool (.nl 3 tI) (.cb false))) (
   .bNU (.bNX 3 tI) (aO (.bNT (.bNT tI aF) aB) 1 (.Z 0)) <|
   .bNU (.cmp .neq .i64) (.bNV tI tI (.Z 5) (.p1 tI aF (.p1 (.bNT tI aF) aB (.Z 0)))) <|
   .ite (.Z 6) (
    .ret (.bNV aB .bool (.nl 3 tI) (.cb false))) (
    .loop (.bNT tI (.bNT .bool aB)) (bB (.bNT tI (.bNT .bool aB)) [(.ci .i64 0),(.cb false),(.nl 3 tI)]) <|
     .bNU (.cmp .lss .i64) (.bNV tI tI (.p1 tI (.bNT .bool aB) (.Z 7)) (aJ (.bNT tI aF) 1 (.p1 (.bNT tI aF) aB (.Z 0)))) <|
     .ite (.Z 8) (
      .call 2 (.bNV (.bNT tI aF) tI (.p1 (.bNT tI aF) aB (.Z 0)) (.p1 tI (.bNT .bool aB) (.Z 7))) <|
      .call 3 (.bNV aB aB (.Z 9) (aO (.bNT (.bNT tI aF) aB) 1 (.Z 0))) <|
      .bNU (.lit 3 tI 1) (.p1 tI .bool (.Z 10)) <|
      .bNU (.bO0 3 tI 8) (.bNV aB aB (aO (.bNT tI (.bNT .bool aB)) 2 (.Z 7)) (.Z 11)) <|
      .ite (aJ (.bNT tI (.bNT .bool aB)) 1 (.Z 7)) (
       .bNU (.ar .add .i64) (.bNV tI tI (.p1 tI (.bNT .bool aB) (.Z 7)) (.ci .i64 1)) <|
       .bNW 0 (bB (.bNT tI (.bNT .bool aB)) [(.Z 13),(.cb true),(.Z 12)])) (
       .bNU (.ar .add .i64) (.bNV tI tI (.p1 tI (.bNT .bool aB) (.Z 7)) (.ci .i64 1)) <|
       .bNW 0 (bB (.bNT tI (.bNT .bool aB)) [(.Z 13),(aO (.bNT tI .bool) 1 (.Z 10)),(.Z 12)]))) (
      .ret (.bNV aB .bool (aO (.bNT tI (.bNT .bool aB)) 2 (.Z 7)) (aJ (.bNT tI (.bNT .bool aB)) 1 (.Z 7)))))))
theorem aSZ:bM Tryz.prog [mO,bJ,wH,eV] pC false 3000 ⟨[(2984,8007,iT 26 11++[.dr 0,.tm 8 0,.tm 7 0,.on 6,.sl 2])],[]⟩ = .ok aAR:=by kernel_rfl
theorem aSS (x:(Int × cC) × bK) (hx:okD (.bNT (.bNT tI aF) aB) x) (hp:(fun _=>True) x):aAR.wp [mO,bJ,wH,eV] [⟨(.bNT (.bNT tI aF) aB),x⟩] [] (fun v=>v.as (.bNT aB .bool)=(fun x=>gF x.1 x.2) x):=by
 obtain ⟨m,v⟩:=x
 delta aAR mO bJ wH eV;refine dB ?_
 simp only[Bool.not_eq_true',Bool.not_eq_false',qF,qI]
 refine ⟨fun h=>?_,fun h1=>⟨fun h=>?_,fun h2 _=>⟨fun h=>?_,fun h3=>?_⟩⟩⟩
 ·unfold gF;rw[if_neg (by rw[h];simp)]
 ·unfold gF eF;rw[if_neg (by rw[h];simp)]
 ·unfold gF eF;rw[if_neg (fun hh=>h (by have:=hh.2;rw[Bool.and_eq_true,decide_eq_true_eq] at this;exact this.2))]
 have h4:eF v m.1=true:=(cE _ _).2 ⟨h2,h3⟩
 rw[show gF m v=_ from if_pos ⟨h1,h4⟩]
 obtain ⟨R,C,data,rfl,g1,g2,g3,g4,g5,g6,g7⟩:=lK h1
 refine cZ (fun k=>((k:Int),an k (fun r=>(fL (rI ((R:Int),(C:Int),data) r) v).2),mp k fun r=>(fL (rI ((R:Int),(C:Int),data) r) v).1)) C rfl fun I μ k hk _ go=>?_
 dsimp only
 simp only[nS,fR]
 (repeat' first|intro _|(refine go _ ?_ ?_ ?_)|(refine go _ ?_ ?_)|(with_reducible apply And.intro))
 all_goals first|omega|exact h1|(unfold maxLen;omega)|(rw[gH,lI];first|exact Prod.ext rfl (Prod.ext (iC (by assumption)) rfl)|exact Prod.ext rfl (Prod.ext (lL (by assumption)) rfl))|(have e:k=C:=(by omega);subst e;rfl)
theorem aS3:Con.Holds Tryz.prog pC:=aS aW (aH aOL (aH fD (aH bCO (aH xG aR)))) aSZ aSS
def vQ:Con:=⟨189,aM,(.bNT (.bNT tI aF) .bool),[.val ⟨false,aB,[]⟩,.val ⟨false,aB,[]⟩],[⟨true,(.bNT tI aF),[0,0,2]⟩,⟨false,.bool,[0]⟩],false,none,
 ((fun _=>True):(bP)→Prop),
 ((fun x=>qP x.1 x.2):(bP)→((Int × cC) × Bool))⟩
def aG6:T:=.call 0 (.p1 aB aB (.Z 0)) <|
 .bNU .not (.Z 1) <|
 .ite (.Z 2) (
  .ret (.bNV (.bNT tI aF) .bool (bB (.bNT tI aF) [(.ci .i64 0),(.ci .i64 0),(.nl 3 tI)]) (.cb false))) (
  .call 0 (aO aM 1 (.Z 0)) <|
  .bNU .not (.Z 3) <|
  .ite (.Z 4) (
   .ret (.bNV (.bNT tI aF) .bool (bB (.bNT tI aF) [(.ci .i64 0),(.ci .i64 0),(.nl 3 tI)]) (.cb false))) (
   .bNU (.bNX 3 tI) (.p1 aB aB (.Z 0)) <|
   .bNU (.bNX 3 tI) (aO aM 1 (.Z 0)) <|
   .loop (.bNT tI (.bNT .bool aB)) (bB (.bNT tI (.bNT .bool aB)) [(.ci .i64 0),(.cb false),(.nl 3 tI)]) <|
    .bNU (.bNX 3 tI) (.p1 aB aB (.Z 0)) <|
    .bNU (.cmp .lss .i64) (.bNV tI tI (.p1 tI (.bNT .bool aB) (.Z 7)) (.Z 8)) <|
    .ite (.Z 9) (
     .loop (.bNT tI (.bNT .bool aB)) (.bNV tI (.bNT .bool aB) (.ci .i64 0) (aO (.bNT tI (.bNT .bool aB)) 1 (.Z 7))) <|
      .bNU (.bNX 3 tI) (aO aM 1 (.Z 0)) <|
      .bNU (.cmp .lss .i64) (.bNV tI tI (.p1 tI (.bNT .bool aB) (.Z 10)) (.Z 11)) <|
      .ite (.Z 12) (
       .bNU (.bNY 3 tI) (.bNV aB tI (.p1 aB aB (.Z 0)) (.p1 tI (.bNT .bool aB) (.Z 7))) <|
       .bNU (.bNY 3 tI) (.bNV aB tI (aO aM 1 (.Z 0)) (.p1 tI (.bNT .bool aB) (.Z 10))) <|
       .call 1 (.bNV tI tI (.Z 13) (.Z 14)) <|
       .bNU (.lit 3 tI 1) (.p1 tI .bool (.Z 15)) <|
       .bNU (.bO0 3 tI 8) (.bNV aB aB (aO (.bNT tI (.bNT .bool aB)) 2 (.Z 10)) (.Z 16)) <|
       .ite (aJ (.bNT tI (.bNT .bool aB)) 1 (.Z 10)) (
        .bNU (.ar .add .i64) (.bNV tI tI (.p1 tI (.bNT .bool aB) (.Z 10)) (.ci .i64 1)) <|
        .bNW 0 (bB (.bNT tI (.bNT .bool aB)) [(.Z 18),(.cb true),(.Z 17)])) (
        .bNU (.ar .add .i64) (.bNV tI tI (.p1 tI (.bNT .bool aB) (.Z 10)) (.ci .i64 1)) <|
        .bNW 0 (bB (.bNT tI (.bNT .bool aB)) [(.Z 18),(aO (.bNT tI .bool) 1 (.Z 15)),(.Z 17)]))) (
       .bNU (.ar .add .i64) (.bNV tI tI (.p1 tI (.bNT .bool aB) (.Z 7)) (.ci .i64 1)) <|
       .bNW 1 (.bNV tI (.bNT .bool aB) (.Z 13) (aO (.bNT tI (.bNT .bool aB)) 1 (.Z 10))))) (
     .ret (.bNV (.bNT tI aF) .bool (bB (.bNT tI aF) [(.Z 5),(.Z 6),(aO (.bNT tI (.bNT .bool aB)) 2 (.Z 7))]) (aJ (.bNT tI (.bNT .bool aB)) 1 (.Z 7))))))
theorem bET:bM Tryz.prog [bJ,gR] vQ false 3000 ⟨[(2984,4007,iT 25 21++iT 19 12++[.tm 8 0,.tm 7 0,.sl 5]),(2973,12010,[.tm 9 0,.tm 7 0,.sl 5])],[]⟩ = .ok aG6:=by kernel_rfl
theorem bDP (x:bP) (hx:okD aM x) (hp:(fun _=>True) x):aG6.wp [bJ,gR] [⟨aM,x⟩] [] (fun v=>v.as (.bNT (.bNT tI aF) .bool)=(fun x=>qP x.1 x.2) x):=by
 obtain ⟨d,v⟩:=x
 delta aG6 bJ gR;refine dB ?_
 simp only[Bool.not_eq_true',Bool.not_eq_false']
 refine ⟨fun h=>?_,fun h1=>⟨fun h=>?_,fun h2 _ _=>?_⟩⟩
 ·unfold qP;rw[if_neg (by rw[h];simp)];rfl
 ·unfold qP;rw[if_neg (by rw[h];simp)];rfl
 rw[show qP d v=_ from if_pos ⟨h1,h2⟩]
 have hd:=(cL d).1 h1
 have hv:=(cL v).1 h2
 refine cZ (fun i=>((i:Int),an i (aKG d v),pV (wW d v) i)) d.length rfl fun I μ i hi _ go=>?_
 dsimp only
 refine dT ?_
 have hl:(pV (wW d v) i).length=i * v.length:=sM (fun i=>fR _ _) i
 have hq:i * v.length≤36:=Nat.le_trans (Nat.mul_le_mul hi (show v.length≤6 by omega)) (by omega)
 generalize hD:pV (wW d v) i=D at *
 generalize hA:an i (aKG d v)=A at *
 intro _
 constructor
 ·intro hlt
  refine cZ (fun j=>((j:Int),A || an j (fun j=>(fA (d.getD i 0) (v.getD j 0)).2),D++mp j fun j=>(fA (d.getD i 0) (v.getD j 0)).1)) v.length (by simp[aRU,bC0]) fun I2 μ2 j hj _ go2=>?_
  dsimp only
  simp only[nS,fR]
  have ea:(A || an (j+1) (fun j=>(fA (d.getD i 0) (v.getD j 0)).2))=((A || an j (fun j=>(fA (d.getD i 0) (v.getD j 0)).2)) || (fA (d.getD i 0) (v.getD j 0)).2):=by rw[lI,Bool.or_assoc]
  (repeat' first|intro _|(refine go2 _ ?_ ?_ ?_)|(refine go2 _ ?_ ?_)|(refine go _ ?_ ?_ ?_)|(refine go _ ?_ ?_)|(with_reducible apply And.intro))
  all_goals first|omega|(unfold maxLen;omega)|(rw[gH,← List.append_assoc,ea];first|exact Prod.ext rfl (Prod.ext (iC (by assumption)) rfl)|exact Prod.ext rfl (Prod.ext (lL (by assumption)) rfl))|(have e:j=v.length:=(by omega);subst e;rw[pV,hD,lI,hA];rfl)
 ·intro hge
  have e:i=d.length:=by omega
  subst e
  rw[← hD,← hA]
theorem bDA:Con.Holds Tryz.prog vQ:=aS aW (aH fD (aH aCW aR)) bET bDP
def mQ:Con:=⟨182,bG,(.bNT tI aF),[.val ⟨true,bG,[]⟩],[⟨true,(.bNT tI aF),[0,0,0]⟩],true,none,
 ((fun _=>True):(dJ)→Prop),
 ((fun x=>wE x):(dJ)→(Int × cC))⟩
def aGU:T:=.ret (bB (.bNT tI aF) [(aJ bG 2 (.Z 0)),(aJ bG 1 (.Z 0)),(aO bG 3 (.Z 0))])
theorem bEK:bM Tryz.prog [] mQ false 3000 ⟨[],[]⟩ = .ok aGU:=by kernel_rfl
theorem bC9 (x:dJ) (hx:okD bG x) (hp:(fun _=>True) x):aGU.wp [] [⟨bG,x⟩] [] (fun v=>v.as (.bNT tI aF)=(fun x=>wE x) x):=by
 delta aGU;refine dB ?_;try with_reducible exact True.intro
 rfl
theorem aNR:Con.Holds Tryz.prog mQ:=aS aW aR bEK bC9
def lV:Con:=⟨158,(.bNT bG aB),(.bNT aB .bool),[.val ⟨true,bG,[]⟩,.val ⟨false,aB,[]⟩],[⟨false,aB,[2]⟩,⟨false,.bool,[0]⟩],false,none,
 ((fun _=>True):(dJ × bK)→Prop),
 ((fun x=>oT x.1 x.2):(dJ × bK)→(bK × Bool))⟩
def uY:T:=.call 0 (.p1 bG aB (.Z 0)) <|
 .bNU .not (.Z 1) <|
 .ite (.Z 2) (
  .ret (.bNV aB .bool (.nl 3 tI) (.cb false))) (
  .call 1 (aO (.bNT bG aB) 1 (.Z 0)) <|
  .bNU .not (.Z 3) <|
  .ite (.Z 4) (
   .ret (.bNV aB .bool (.nl 3 tI) (.cb false))) (
   .bNU (.bNX 3 tI) (aO (.bNT bG aB) 1 (.Z 0)) <|
   .bNU (.cmp .neq .i64) (.bNV tI tI (.Z 5) (aJ bG 1 (.p1 bG aB (.Z 0)))) <|
   .ite (.Z 6) (
    .ret (.bNV aB .bool (.nl 3 tI) (.cb false))) (
    .bNU (.cmp .eql .i64) (.bNV tI tI (.p1 tI (.bNT tI aF) (.p1 bG aB (.Z 0))) (.ci .i64 1)) <|
    .ite (.Z 7) (
     .call 2 (.p1 bG aB (.Z 0)) <|
     .call 3 (.bNV (.bNT tI aF) aB (.Z 8) (aO (.bNT bG aB) 1 (.Z 0))) <|
     .ret (.Z 9)) (
     .bNU (.cmp .eql .i64) (.bNV tI tI (.p1 tI (.bNT tI aF) (.p1 bG aB (.Z 0))) (.ci .i64 2)) <|
     .ite (.Z 8) (
      .call 4 (.bNV aB aB (aO (.bNT bG aB) 1 (.Z 0)) (aO bG 3 (.p1 bG aB (.Z 0)))) <|
      .ret (.Z 9)) (
      .bNU (.cmp .eql .i64) (.bNV tI tI (.p1 tI (.bNT tI aF) (.p1 bG aB (.Z 0))) (.ci .i64 3)) <|
      .ite (.Z 9) (
       .call 5 (aO (.bNT bG aB) 1 (.Z 0)) <|
       .ret (.bNV aB .bool (.Z 10) (.cb false))) (
       .bNU (.cmp .eql .i64) (.bNV tI tI (.p1 tI (.bNT tI aF) (.p1 bG aB (.Z 0))) (.ci .i64 4)) <|
       .ite (.Z 10) (
        .bNU (.bNY 3 tI) (.bNV aB tI (aO bG 3 (.p1 bG aB (.Z 0))) (.ci .i64 0)) <|
        .call 6 (.bNV tI aB (.Z 11) (aO (.bNT bG aB) 1 (.Z 0))) <|
        .ret (.Z 12)) (
        .call 2 (.p1 bG aB (.Z 0)) <|
        .call 3 (.bNV (.bNT tI aF) aB (.Z 11) (aO (.bNT bG aB) 1 (.Z 0))) <|
        .call 4 (.bNV aB aB (aO (.bNT bG aB) 1 (.Z 0)) (.p1 aB .bool (.Z 12))) <|
        .ite (aO (.bNT aB .bool) 1 (.Z 12)) (
         .ret (.bNV aB .bool (.p1 aB .bool (.Z 13)) (.cb true))) (
         .ret (.Z 13)))))))))
theorem aMX:bM Tryz.prog [lA,bJ,mQ,sT,kJ,oS,iH] lV false 3000 ⟨[],[]⟩ = .ok uY:=by kernel_rfl
theorem aNJ (x:dJ × bK) (hx:okD (.bNT bG aB) x) (hp:(fun _=>True) x):uY.wp [lA,bJ,mQ,sT,kJ,oS,iH] [⟨(.bNT bG aB),x⟩] [] (fun v=>v.as (.bNT aB .bool)=(fun x=>oT x.1 x.2) x):=by
 obtain ⟨⟨kd,i,ou,P⟩,v⟩:=x
 delta uY lA bJ mQ sT kJ oS iH;refine dB ?_
 simp only[Bool.not_eq_true',Bool.not_eq_false',qF,qI]
 refine ⟨fun h=>?_,fun h1=>⟨fun h=>?_,fun h2 _=>⟨fun h=>?_,fun h3=>?_⟩⟩⟩
 ·unfold oT;rw[if_pos (by rw[h];simp)]
 ·unfold oT eF;rw[if_pos (by rw[h];simp)]
 ·unfold oT;rw[if_pos (fun hh=>h ((cE _ _).1 hh.2).2)]
 have h9:eF v i=true:=(cE _ _).2 ⟨h2,h3⟩
 clear h2 h3
 have h4:=aIR h1
 have hk:=((hK _).1 h1).1
 dsimp only at h4 hk
 (refine dT ?_;try with_reducible exact True.intro)
 (repeat' first|intro _|(with_reducible apply And.intro))
 all_goals first|omega|(simp_all[oT];done)|(have e5:kd=5:=(by omega);subst e5;simp_all[oT];done)
theorem aMJ:Con.Holds Tryz.prog lV:=aS aW (aH aLE (aH fD (aH aNR (aH bAG (aH aK1 (aH aT5 (aH aFB aR))))))) aMX aNJ
def kZ:Con:=⟨164,(.bNT bG aM),(.bNT aB (.bNT aB .bool)),[.val ⟨true,bG,[]⟩,.val ⟨false,aB,[]⟩,.val ⟨false,aB,[]⟩],[⟨false,aB,[2]⟩,⟨false,aB,[2]⟩,⟨false,.bool,[0]⟩],false,none,
 ((fun _=>True):(dJ × bP)→Prop),
 ((fun x=>iB x.1 x.2.1 x.2.2):(dJ × bP)→(bK × (bK × Bool)))⟩
def rW:T:=.call 0 (.p1 bG aM (.Z 0)) <|
 .bNU .not (.Z 1) <|
 .ite (.Z 2) (
  .ret (bB (.bNT aB (.bNT aB .bool)) [(.nl 3 tI),(.nl 3 tI),(.cb false)])) (
  .call 1 (aJ (.bNT bG aM) 1 (.Z 0)) <|
  .bNU .not (.Z 3) <|
  .ite (.Z 4) (
   .ret (bB (.bNT aB (.bNT aB .bool)) [(.nl 3 tI),(.nl 3 tI),(.cb false)])) (
   .bNU (.bNX 3 tI) (aJ (.bNT bG aM) 1 (.Z 0)) <|
   .bNU (.cmp .neq .i64) (.bNV tI tI (.Z 5) (aJ bG 1 (.p1 bG aM (.Z 0)))) <|
   .ite (.Z 6) (
    .ret (bB (.bNT aB (.bNT aB .bool)) [(.nl 3 tI),(.nl 3 tI),(.cb false)])) (
    .call 1 (aO (.bNT bG aM) 2 (.Z 0)) <|
    .bNU .not (.Z 7) <|
    .ite (.Z 8) (
     .ret (bB (.bNT aB (.bNT aB .bool)) [(.nl 3 tI),(.nl 3 tI),(.cb false)])) (
     .bNU (.bNX 3 tI) (aO (.bNT bG aM) 2 (.Z 0)) <|
     .bNU (.cmp .neq .i64) (.bNV tI tI (.Z 9) (aJ bG 2 (.p1 bG aM (.Z 0)))) <|
     .ite (.Z 10) (
      .ret (bB (.bNT aB (.bNT aB .bool)) [(.nl 3 tI),(.nl 3 tI),(.cb false)])) (
      .bNU (.cmp .eql .i64) (.bNV tI tI (.p1 tI (.bNT tI aF) (.p1 bG aM (.Z 0))) (.ci .i64 2)) <|
      .ite (.Z 11) (
       .bNU (.bO0 3 tI 8) (.bNV aB aB (.nl 3 tI) (aO (.bNT bG aM) 2 (.Z 0))) <|
       .bNU (.bO0 3 tI 8) (.bNV aB aB (.nl 3 tI) (aO (.bNT bG aM) 2 (.Z 0))) <|
       .ret (bB (.bNT aB (.bNT aB .bool)) [(.Z 12),(.Z 13),(.cb false)])) (
       .bNU (.cmp .eql .i64) (.bNV tI tI (.p1 tI (.bNT tI aF) (.p1 bG aM (.Z 0))) (.ci .i64 3)) <|
       .ite (.Z 12) (
        .call 2 (aO (.bNT bG aM) 1 (.Z 0)) <|
        .ret (bB (.bNT aB (.bNT aB .bool)) [(.Z 13),(.nl 3 tI),(.cb false)])) (
        .bNU (.cmp .eql .i64) (.bNV tI tI (.p1 tI (.bNT tI aF) (.p1 bG aM (.Z 0))) (.ci .i64 4)) <|
        .ite (.Z 13) (
         .bNU (.bNY 3 tI) (.bNV aB tI (aO bG 3 (.p1 bG aM (.Z 0))) (.ci .i64 0)) <|
         .call 3 (.bNV tI aB (.Z 14) (aO (.bNT bG aM) 2 (.Z 0))) <|
         .call 4 (.bNV aB aB (aO (.bNT bG aM) 2 (.Z 0)) (aJ (.bNT bG aM) 1 (.Z 0))) <|
         .bNU (.lit 3 tI 1) (.p1 tI .bool (.Z 16)) <|
         .ite (aO (.bNT aB .bool) 1 (.Z 15)) (
          .ret (bB (.bNT aB (.bNT aB .bool)) [(.p1 aB .bool (.Z 15)),(.Z 17),(.cb true)])) (
          .ret (bB (.bNT aB (.bNT aB .bool)) [(.p1 aB .bool (.Z 15)),(.Z 17),(aO (.bNT tI .bool) 1 (.Z 16))]))) (
         .call 5 (.p1 bG aM (.Z 0)) <|
         .call 6 (.bNV (.bNT tI aF) aB (.Z 14) (aO (.bNT bG aM) 2 (.Z 0))) <|
         .call 7 (.bNV aB aB (aO (.bNT bG aM) 2 (.Z 0)) (aJ (.bNT bG aM) 1 (.Z 0))) <|
         .bNU (.cmp .eql .i64) (.bNV tI tI (.p1 tI (.bNT tI aF) (.p1 bG aM (.Z 0))) (.ci .i64 1)) <|
         .ite (.Z 17) (
          .ite (aO (.bNT aB .bool) 1 (.Z 15)) (
           .ret (bB (.bNT aB (.bNT aB .bool)) [(.p1 aB .bool (.Z 15)),(aO (.bNT tI aF) 2 (.p1 (.bNT tI aF) .bool (.Z 16))),(.cb true)])) (
           .ret (bB (.bNT aB (.bNT aB .bool)) [(.p1 aB .bool (.Z 15)),(aO (.bNT tI aF) 2 (.p1 (.bNT tI aF) .bool (.Z 16))),(aO (.bNT (.bNT tI aF) .bool) 1 (.Z 16))]))) (
          .call 8 (.bNV aB aB (aO (.bNT bG aM) 2 (.Z 0)) (.p1 aB .bool (.Z 15))) <|
          .ite (aO (.bNT aB .bool) 1 (.Z 15)) (
           .ret (bB (.bNT aB (.bNT aB .bool)) [(.p1 aB .bool (.Z 18)),(aO (.bNT tI aF) 2 (.p1 (.bNT tI aF) .bool (.Z 16))),(.cb true)])) (
           .ite (aO (.bNT (.bNT tI aF) .bool) 1 (.Z 16)) (
            .ret (bB (.bNT aB (.bNT aB .bool)) [(.p1 aB .bool (.Z 18)),(aO (.bNT tI aF) 2 (.p1 (.bNT tI aF) .bool (.Z 16))),(.cb true)])) (
            .ret (bB (.bNT aB (.bNT aB .bool)) [(.p1 aB .bool (.Z 18)),(aO (.bNT tI aF) 2 (.p1 (.bNT tI aF) .bool (.Z 16))),(aO (.bNT aB .bool) 1 (.Z 18))]))))))))))))
theorem aK8:bM Tryz.prog [lA,bJ,pN,iH,eV,mQ,pC,vQ,kJ] kZ false 3000 ⟨[],[]⟩ = .ok rW:=by kernel_rfl
theorem aKZ (x:dJ × bP) (hx:okD (.bNT bG aM) x) (hp:(fun _=>True) x):rW.wp [lA,bJ,pN,iH,eV,mQ,pC,vQ,kJ] [⟨(.bNT bG aM),x⟩] [] (fun v=>v.as (.bNT aB (.bNT aB .bool))=(fun x=>iB x.1 x.2.1 x.2.2) x):=by
 obtain ⟨⟨kd,i,ou,P⟩,v,d⟩:=x
 delta rW lA bJ pN iH eV mQ pC vQ kJ;refine dB ?_
 simp only[Bool.not_eq_true',Bool.not_eq_false',qF,qI]
 refine ⟨fun h=>?_,fun h1=>⟨fun h=>?_,fun h2 _=>⟨fun h=>?_,fun h3=>⟨fun h=>?_,fun h5 _=>⟨fun h=>?_,fun h6=>?_⟩⟩⟩⟩⟩
 ·unfold iB;rw[if_pos (by rw[h];simp)]
 ·unfold iB eF;rw[if_pos (by rw[h];simp)]
 ·unfold iB;rw[if_pos (fun hh=>h ((cE _ _).1 hh.2.1).2)]
 ·unfold iB eF;rw[if_pos (by rw[h];simp)]
 ·unfold iB;rw[if_pos (fun hh=>h ((cE _ _).1 hh.2.2).2)]
 have h9:eF v i=true:=(cE _ _).2 ⟨h2,h3⟩
 have h10:eF d ou=true:=(cE _ _).2 ⟨h5,h6⟩
 have hd:=(cL d).1 h5
 clear h2 h3 h5 h6
 have h4:=aIR h1
 have hk:=((hK _).1 h1).1
 dsimp only at h4 hk
 rcases (show kd=1∨kd=2∨kd=3∨kd=4∨kd=5 by omega) with rfl|rfl|rfl|rfl|rfl
 all_goals
  refine dT ?_
  clear hk hx
  (repeat' first|intro _|(with_reducible apply And.intro))
  all_goals first|omega|(unfold maxLen;omega)|exact absurd trivial (by assumption)|(unfold iB;rw[if_neg (by simp[h1,h9,h10]),if_neg (by simp),if_neg (by simp),if_pos rfl];first|exact Prod.ext rfl (Prod.ext rfl (iC (by assumption)))|exact Prod.ext rfl (Prod.ext rfl (lL (by assumption))))|(simp[iB,h1,h9,h10, *];done)
theorem aKJ:Con.Holds Tryz.prog kZ:=aS aW (aH aLE (aH fD (aH aW8 (aH aFB (aH xG (aH aNR (aH aS3 (aH bDA (aH aK1 aR))))))))) aK8 aKZ
end
end Go.Proofs.YtdeobhdbmehpgaaGreat
