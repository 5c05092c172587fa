/- Ops2: trees, and what they say. -/
import Derived.Test.YtmfpkkbhnmkfdaaGreatGr2
namespace Go.Proofs.YtmfpkkbhnmkfdaaGreat
open Go.ChangeShapes Go.WideShapes Go.ChangeAt Go.RowKit Go.Deep
set_option linter.unusedVariables false
set_option linter.unusedSimpArgs false
def iA (v:List Int):Bool:=decide (1≤v.length) && (decide (v.length≤6) && v.all mF)
theorem cJ (v:List Int):iA v = true↔1≤v.length∧v.length≤6∧v.all mF = true:=by unfold iA;simp only [Bool.and_eq_true,decide_eq_true_eq]
def lS (o:iC):Int:=if o.2.1 < 1∨6 < o.2.1∨o.2.2.1 < 1∨6 < o.2.2.1 then 0 else if o.1 = 1∨o.1 = 5 then o.2.1 * o.2.2.1 else if o.1 = 2 then o.2.1 else if o.1 = 4 then 1 else 0
def opB (o:iC):Bool:=decide (1≤o.1∧o.1≤5∧1≤o.2.1∧o.2.1≤6∧1≤o.2.2.1∧o.2.2.1≤6∧(o.1 ≠ 1→o.2.1 = o.2.2.1)∧(o.2.2.2.length:Int) = lS o) && o.2.2.2.all mF
theorem lC (o:iC):opB o = true↔(1≤o.1∧o.1≤5∧1≤o.2.1∧o.2.1≤6∧1≤o.2.2.1∧o.2.2.1≤6∧(o.1 ≠ 1→o.2.1 = o.2.2.1)∧(o.2.2.2.length:Int) = lS o)∧o.2.2.2.all mF = true:=by
 unfold opB;simp only [Bool.and_eq_true,decide_eq_true_eq]
theorem bED {m n:Nat}:((m:Int) = (n:Int))↔m = n:=by omega
def zOp:iC:=(0,0,0,[])
def aRT (m:List iC) (i:Nat):Bool:=opB (m.getD i zOp) && (decide (i = 0) || decide ((m.getD (i - 1) zOp).2.2.1 = (m.getD i zOp).2.1))
theorem aEO (m:List iC) {i:Nat} (h:i < m.length):aRT m i = true↔opB m[i] = true∧(i = 0∨(m[i - 1]'(by omega)).2.2.1 = m[i].2.1):=by
 unfold aRT
 rw [bD h,bD (show i - 1 < m.length by omega)]
 simp only [Bool.and_eq_true,Bool.or_eq_true,decide_eq_true_eq]
def jK (m:List iC):Bool:=decide (1≤m.length) && (decide (m.length≤8) && (List.range m.length).all (aRT m))
theorem cK (m:List iC):jK m = true↔1≤m.length∧m.length≤8∧∀ i,i < m.length→aRT m i = true:=by
 unfold jK;simp only [Bool.and_eq_true,decide_eq_true_eq,List.all_eq_true,List.mem_range]
theorem aFN {m:List iC} {i:Nat} (h:i < m.length) (hb:¬ aRT m i = true):false = jK m:=by
 refine (Bool.eq_false_iff.2 ?_).symm
 rw [ne_eq,cK]
 exact fun hh=>hb (hh.2.2 i h)
theorem aMA {o:iC} (h:o.2.1 < 1∨6 < o.2.1∨o.2.2.1 < 1∨6 < o.2.2.1∨(o.1 ≠ 1∧o.1 ≠ 5∧o.1 ≠ 2∧o.1 ≠ 4)):0 = lS o:=by
 unfold lS
 split
 ·rfl
 ·rw [if_neg (by omega),if_neg (by omega),if_neg (by omega)]
theorem aM4 {o:iC} (h:1≤o.2.1∧o.2.1≤6∧1≤o.2.2.1∧o.2.2.1≤6∧(o.1 = 1∨o.1 = 5)):o.2.1 * o.2.2.1 = lS o:=by
 unfold lS;rw [if_neg (by omega),if_pos (by omega)]
theorem aPO {o:iC} (h:1≤o.2.1∧o.2.1≤6∧1≤o.2.2.1∧o.2.2.1≤6∧o.1 = 2):o.2.1 = lS o:=by
 unfold lS;rw [if_neg (by omega),if_neg (by omega),if_pos (by omega)]
theorem aFX {o:iC} (h:1≤o.2.1∧o.2.1≤6∧1≤o.2.2.1∧o.2.2.1≤6∧o.1 = 4):1 = lS o:=by
 unfold lS;rw [if_neg (by omega),if_neg (by omega),if_neg (by omega),if_pos (by omega)]
theorem aUR {a b:Int} (h1:1≤a) (h2:a≤6) (h3:1≤b) (h4:b≤6):0≤a * b∧a * b≤36 :=
 ⟨Int.mul_nonneg (by omega) (by omega),Int.le_trans (Int.mul_le_mul h2 h4 (by omega) (by omega)) (by omega)⟩
noncomputable def gD:Con:=⟨254,aB,.bool,[.val ⟨false,aB,[]⟩],[⟨false,.bool,[0]⟩],false,none,
 ((fun _=>True):(List Int)→Prop),
 ((fun x=>List.all x mF):(List Int)→(Bool))⟩
def aAL:T :=
 .prim (.llen 3 tI) (.vr 0) <|
 .loop tI (.ci .i64 0) <|
  .prim (.cmp .lss .i64) (.mk2 tI tI (.vr 2) (.vr 1)) <|
  .ite (.vr 3) (
   .prim (.lidx 3 tI) (.mk2 aB tI (.vr 0) (.vr 2)) <|
   .call 0 (.vr 4) <|
   .prim .not (.vr 5) <|
   .ite (.vr 6) (
    .ret (.cb false)) (
    .prim (.ar .add .i64) (.mk2 tI tI (.vr 2) (.ci .i64 1)) <|
    .again 0 (.vr 7))) (
   .ret (.cb true))
set_option maxRecDepth 100000 in
theorem aQ6:bS Tryz.prog [iM] gD false 3000 ⟨[(2993,1002,[.dr 0,.tm 7 0])],[]⟩ = .ok aAL:=by kernel_rfl
theorem aS8 (x:List Int) (hx:okD aB x) (hp:(fun _=>True) x):aAL.wp [iM] [⟨aB,x⟩] [] (fun v=>v.as .bool = (fun x=>List.all x mF) x):=by
 have hp:List.length x≤9223372036854775807:=hx.1
 delta aAL iM;refine eS ?_;try with_reducible exact True.intro
 intro _
 refine ⟨fun s=>∃ k:Nat,k≤x.length∧s = (k:Int)∧(x.take k).all mF = true,fun s=>x.length - (s:Int).toNat,⟨0,by omega,rfl,rfl⟩,fun s _ hI=>?_⟩
 obtain ⟨k,hk,rfl,ha⟩:=hI
 (refine gR ?_;try with_reducible exact True.intro)
 constructor
 ·intro hlt
  have hk':k < x.length:=by omega
  rw [bD hk']
  have e:=sP mF x hk'
  (repeat' first | intro _ | (with_reducible apply And.intro))
  all_goals first | omega | skip
  ·exact (aB1 hk' (by assumption)).symm
  ·exact ⟨k + 1,by omega,rfl,by rw [e,ha];simpa using ‹mF _ = true›⟩
 ·intro hge
  have:k = x.length:=by omega
  subst this
  rw [List.take_length] at ha
  exact ha.symm
theorem zT:Con.Holds Tryz.prog gD:=aT aY (aK aD9 aU) aQ6 fun x hx hp=>aS8 x hx hp
noncomputable def pS:Con:=⟨295,aZ,tI,[.val ⟨true,aZ,[]⟩],[⟨false,tI,[0]⟩],false,none,
 ((fun _=>True):(iC)→Prop),
 ((fun x=>lS x):(iC)→(Int))⟩
def aAC:T :=
 .prim (.cmp .lss .i64) (.mk2 tI tI (aJ aZ 1 (.vr 0)) (.ci .i64 1)) <|
 .ite (.vr 1) (
  .ret (.ci .i64 0)) (
  .prim (.cmp .gtr .i64) (.mk2 tI tI (aJ aZ 1 (.vr 0)) (.ci .i64 6)) <|
  .ite (.vr 2) (
   .ret (.ci .i64 0)) (
   .prim (.cmp .lss .i64) (.mk2 tI tI (aJ aZ 2 (.vr 0)) (.ci .i64 1)) <|
   .ite (.vr 3) (
    .ret (.ci .i64 0)) (
    .prim (.cmp .gtr .i64) (.mk2 tI tI (aJ aZ 2 (.vr 0)) (.ci .i64 6)) <|
    .ite (.vr 4) (
     .ret (.ci .i64 0)) (
     .prim (.cmp .eql .i64) (.mk2 tI tI (.p1 tI (.pair tI aD) (.vr 0)) (.ci .i64 1)) <|
     .ite (.vr 5) (
      .prim (.ar .mul .i64) (.mk2 tI tI (aJ aZ 1 (.vr 0)) (aJ aZ 2 (.vr 0))) <|
      .ret (.vr 6)) (
      .prim (.cmp .eql .i64) (.mk2 tI tI (.p1 tI (.pair tI aD) (.vr 0)) (.ci .i64 5)) <|
      .ite (.vr 6) (
       .prim (.ar .mul .i64) (.mk2 tI tI (aJ aZ 1 (.vr 0)) (aJ aZ 2 (.vr 0))) <|
       .ret (.vr 7)) (
       .prim (.cmp .eql .i64) (.mk2 tI tI (.p1 tI (.pair tI aD) (.vr 0)) (.ci .i64 2)) <|
       .ite (.vr 7) (
        .ret (aJ aZ 1 (.vr 0))) (
        .prim (.cmp .eql .i64) (.mk2 tI tI (.p1 tI (.pair tI aD) (.vr 0)) (.ci .i64 4)) <|
        .ite (.vr 8) (
         .ret (.ci .i64 1)) (
         .ret (.ci .i64 0)))))))))
set_option maxRecDepth 100000 in
theorem aT4:bS Tryz.prog [] pS false 3000 ⟨[],[]⟩ = .ok aAC:=by kernel_rfl
theorem aR6 (x:iC) (hx:okD aZ x) (hp:(fun _=>True) x):aAC.wp [] [⟨aZ,x⟩] [] (fun v=>v.as tI = (fun x=>lS x) x):=by
 delta aAC;refine eS ?_;try with_reducible exact True.intro
 (repeat' first | intro _ | (with_reducible apply And.intro))
 all_goals simp only [oL] at *
 all_goals first | omega | (have:=aUR (a:=x.2.1) (b:=x.2.2.1) (by omega) (by omega) (by omega) (by omega);omega) | exact aMA (by omega) | exact aM4 (by omega) | exact aPO (by omega) | exact aFX (by omega)
theorem aQ8:Con.Holds Tryz.prog pS:=aT aY aU aT4 fun x hx hp=>aR6 x hx hp
noncomputable def jT:Con:=⟨244,aZ,.bool,[.val ⟨true,aZ,[]⟩],[⟨false,.bool,[0]⟩],false,none,
 ((fun _=>True):(iC)→Prop),
 ((fun x=>opB x):(iC)→(Bool))⟩
def aFM:T :=
 .prim (.cmp .lss .i64) (.mk2 tI tI (.p1 tI (.pair tI aD) (.vr 0)) (.ci .i64 1)) <|
 .ite (.vr 1) (
  .ret (.cb false)) (
  .prim (.cmp .gtr .i64) (.mk2 tI tI (.p1 tI (.pair tI aD) (.vr 0)) (.ci .i64 5)) <|
  .ite (.vr 2) (
   .ret (.cb false)) (
   .prim (.cmp .lss .i64) (.mk2 tI tI (aJ aZ 1 (.vr 0)) (.ci .i64 1)) <|
   .ite (.vr 3) (
    .ret (.cb false)) (
    .prim (.cmp .gtr .i64) (.mk2 tI tI (aJ aZ 1 (.vr 0)) (.ci .i64 6)) <|
    .ite (.vr 4) (
     .ret (.cb false)) (
     .prim (.cmp .lss .i64) (.mk2 tI tI (aJ aZ 2 (.vr 0)) (.ci .i64 1)) <|
     .ite (.vr 5) (
      .ret (.cb false)) (
      .prim (.cmp .gtr .i64) (.mk2 tI tI (aJ aZ 2 (.vr 0)) (.ci .i64 6)) <|
      .ite (.vr 6) (
       .ret (.cb false)) (
       .prim (.cmp .neq .i64) (.mk2 tI tI (.p1 tI (.pair tI aD) (.vr 0)) (.ci .i64 1)) <|
       .ite (.vr 7) (
        .prim (.cmp .neq .i64) (.mk2 tI tI (aJ aZ 1 (.vr 0)) (aJ aZ 2 (.vr 0))) <|
        .ite (.vr 8) (
         .ret (.cb false)) (
         .prim (.llen 3 tI) (aQ aZ 3 (.vr 0)) <|
         .call 0 (.vr 0) <|
         .prim (.cmp .eql .i64) (.mk2 tI tI (.vr 9) (.vr 10)) <|
         .ite (.vr 11) (
          .call 1 (aQ aZ 3 (.vr 0)) <|
          .ret (.vr 12)) (
          .ret (.cb false)))) (
        .prim (.llen 3 tI) (aQ aZ 3 (.vr 0)) <|
        .call 0 (.vr 0) <|
        .prim (.cmp .eql .i64) (.mk2 tI tI (.vr 8) (.vr 9)) <|
        .ite (.vr 10) (
         .call 1 (aQ aZ 3 (.vr 0)) <|
         .ret (.vr 11)) (
         .ret (.cb false)))))))))
set_option maxRecDepth 100000 in
theorem aYZ:bS Tryz.prog [pS,gD] jT false 3000 ⟨[],[]⟩ = .ok aFM:=by kernel_rfl
theorem aZ0 (x:iC) (hx:okD aZ x) (hp:(fun _=>True) x):aFM.wp [pS,gD] [⟨aZ,x⟩] [] (fun v=>v.as .bool = (fun x=>opB x) x):=by
 have hp:List.length x.2.2.2≤9223372036854775807:=hx.2.2.2.1
 delta aFM pS gD;refine eS ?_;try with_reducible exact True.intro
 (repeat' first | intro _ | (with_reducible apply And.intro))
 all_goals simp only [oL] at *
 all_goals first | assumption | (first | (refine (Bool.eq_false_iff.2 ?_).symm;rw [ne_eq,lC];intro hh;omega) | (refine (lC.2 ?_).symm;omega)) | (rw [Bool.eq_iff_iff,lC];exact ⟨fun h=>⟨by omega,h⟩,fun h=>h.2⟩)
theorem aER:Con.Holds Tryz.prog jT:=aT aY (aK aQ8 (aK zT aU)) aYZ fun x hx hp=>aZ0 x hx hp
noncomputable def dW:Con:=⟨155,aN,.bool,[.val ⟨true,aN,[]⟩],[⟨false,.bool,[0]⟩],false,none,
 ((fun _=>True):(dA)→Prop),
 ((fun x=>jK x):(dA)→(Bool))⟩
def vQ:T :=
 .prim (.llen 219 aZ) (.vr 0) <|
 .prim (.cmp .lss .i64) (.mk2 tI tI (.vr 1) (.ci .i64 1)) <|
 .ite (.vr 2) (
  .ret (.cb false)) (
  .prim (.llen 219 aZ) (.vr 0) <|
  .prim (.cmp .gtr .i64) (.mk2 tI tI (.vr 3) (.ci .i64 8)) <|
  .ite (.vr 4) (
   .ret (.cb false)) (
   .prim (.llen 219 aZ) (.vr 0) <|
   .loop tI (.ci .i64 0) <|
    .prim (.cmp .lss .i64) (.mk2 tI tI (.vr 6) (.vr 5)) <|
    .ite (.vr 7) (
     .prim (.lidx 219 aZ) (.mk2 aN tI (.vr 0) (.vr 6)) <|
     .call 0 (.vr 8) <|
     .prim .not (.vr 9) <|
     .ite (.vr 10) (
      .ret (.cb false)) (
      .prim (.cmp .gtr .i64) (.mk2 tI tI (.vr 6) (.ci .i64 0)) <|
      .ite (.vr 11) (
       .prim (.ar .sub .i64) (.mk2 tI tI (.vr 6) (.ci .i64 1)) <|
       .prim (.lidx 219 aZ) (.mk2 aN tI (.vr 0) (.vr 12)) <|
       .prim (.cmp .neq .i64) (.mk2 tI tI (aJ aZ 2 (.vr 13)) (aJ aZ 1 (.vr 8))) <|
       .ite (.vr 14) (
        .ret (.cb false)) (
        .prim (.ar .add .i64) (.mk2 tI tI (.vr 6) (.ci .i64 1)) <|
        .again 0 (.vr 15))) (
       .prim (.ar .add .i64) (.mk2 tI tI (.vr 6) (.ci .i64 1)) <|
       .again 0 (.vr 12)))) (
     .ret (.cb true))))
set_option maxRecDepth 100000 in
theorem aMQ:bS Tryz.prog [jT] dW false 3000 ⟨[(2988,4006,mL 15 5 ++ [.dr 0,.tm 18 0])],[]⟩ = .ok vQ:=by kernel_rfl
theorem aOG (x:dA) (hx:okD aN x) (hp:(fun _=>True) x):vQ.wp [jT] [⟨aN,x⟩] [] (fun v=>v.as .bool = (fun x=>jK x) x):=by
 obtain ⟨hp1,hp2⟩:List.length x≤9223372036854775807∧∀ o ∈ (x:List iC),List.length o.2.2.2≤9223372036854775807:=⟨hx.1,fun o ho=>(hx.2 o ho).2.2.2.1⟩
 delta vQ jT;refine eS ?_;try with_reducible exact True.intro
 (repeat' first | intro _ | (with_reducible apply And.intro))
 all_goals simp only [oL] at *
 ·(first | (refine (Bool.eq_false_iff.2 ?_).symm;rw [ne_eq,cK];intro hh;omega) | (refine (cK.2 ?_).symm;omega))
 ·(first | (refine (Bool.eq_false_iff.2 ?_).symm;rw [ne_eq,cK];intro hh;omega) | (refine (cK.2 ?_).symm;omega))
 refine ⟨fun s=>∃ k:Nat,k≤x.length∧s = (k:Int)∧∀ i,i < k→aRT x i = true,fun s=>x.length - (s:Int).toNat,⟨0,by omega,rfl,by omega⟩,fun s _ hI=>?_⟩
 obtain ⟨k,hk,rfl,ha⟩:=hI
 (refine gR ?_;try with_reducible exact True.intro)
 constructor
 ·intro hlt
  have hk':k < x.length:=by omega
  rw [bD hk',bD (show k - 1 < x.length by omega)]
  have e:=aEO x hk'
  have hm:=hp2 _ (List.getElem_mem hk')
  (repeat' first | intro _ | (with_reducible apply And.intro))
  all_goals first | omega | exact hm | skip
  all_goals first | (refine aFN hk' fun h=>?_;rw [e] at h;obtain ⟨h1,h2⟩:=h;first | (simp_all;done) | omega) | skip
  all_goals refine ⟨k + 1,by omega,rfl,fun i hi=>?_⟩
  all_goals rcases Nat.lt_or_eq_of_le (Nat.le_of_lt_succ hi) with h | rfl
  all_goals first | exact ha i h | (refine e.2 ⟨by assumption,?_⟩;first | exact .inl (by omega) | exact .inr (by assumption) | exact .inr (by omega))
 ·intro hge
  have:k = x.length:=by omega
  subst this
  refine ((cK x).2 ⟨?_,?_,ha⟩).symm <;> omega
theorem qW:Con.Holds Tryz.prog dW:=aT aY (aK aER aU) aMQ fun x hx hp=>aOG x hx hp
noncomputable def fP:Con:=⟨248,tI,.bool,[.val ⟨false,tI,[]⟩],[⟨false,.bool,[0]⟩],false,none,
 ((fun _=>True):(Int)→Prop),
 ((fun x=>mF x):(Int)→(Bool))⟩
def aCU:T :=
 .call 0 (bF (.pair tI aO) [(.vr 0),(.ci .i64 (-2147483647)),(.ci .i64 2147483647)]) <|
 .ret (.vr 1)
set_option maxRecDepth 100000 in
theorem aVR:bS Tryz.prog [bU] fP false 3000 ⟨[],[]⟩ = .ok aCU:=by kernel_rfl
theorem aW6 (x:Int) (hx:okD tI x) (hp:(fun _=>True) x):aCU.wp [bU] [⟨tI,x⟩] [] (fun v=>v.as .bool = (fun x=>mF x) x):=by
 delta aCU bU;refine eS ?_;try with_reducible exact True.intro
 rw [Bool.eq_iff_iff,aY9]
 (refine gR ?_;try with_reducible exact True.intro)
theorem yJ:Con.Holds Tryz.prog fP:=aT aY (aK jB aU) aVR fun x hx hp=>aW6 x hx hp
noncomputable def bJ:Con:=⟨162,aB,.bool,[.val ⟨false,aB,[]⟩],[⟨false,.bool,[0]⟩],false,none,
 ((fun _=>True):(List Int)→Prop),
 ((fun x=>iA x):(List Int)→(Bool))⟩
def aCO:T :=
 .loop tI (.ci .i64 0) <|
  .prim (.llen 3 tI) (.vr 0) <|
  .prim (.cmp .lss .i64) (.mk2 tI tI (.vr 1) (.vr 2)) <|
  .ite (.vr 3) (
   .prim (.lidx 3 tI) (.mk2 aB tI (.vr 0) (.vr 1)) <|
   .call 0 (.vr 4) <|
   .prim .not (.vr 5) <|
   .ite (.vr 6) (
    .ret (.cb false)) (
    .prim (.ar .add .i64) (.mk2 tI tI (.vr 1) (.ci .i64 1)) <|
    .again 0 (.vr 7))) (
   .prim (.llen 3 tI) (.vr 0) <|
   .call 1 (bF (.pair tI aO) [(.vr 4),(.ci .i64 1),(.ci .i64 6)]) <|
   .ret (.vr 5))
set_option maxRecDepth 100000 in
theorem aVG:bS Tryz.prog [fP,bU] bJ false 3000 ⟨[(2993,1001,[.tm 3 0])],[]⟩ = .ok aCO:=by kernel_rfl
theorem aWG (x:List Int) (hx:okD aB x) (hp:(fun _=>True) x):aCO.wp [fP,bU] [⟨aB,x⟩] [] (fun v=>v.as .bool = (fun x=>iA x) x):=by
 have hp:List.length x≤9223372036854775807:=hx.1
 delta aCO fP bU;refine eS ?_;try with_reducible exact True.intro
 refine ⟨fun s=>∃ k:Nat,k≤x.length∧s = (k:Int)∧(x.take k).all mF = true,fun s=>x.length - (s:Int).toNat,⟨0,by omega,rfl,rfl⟩,fun s _ hI=>?_⟩
 obtain ⟨k,hk,rfl,ha⟩:=hI
 (refine gR ?_;try with_reducible exact True.intro)
 intro _
 constructor
 ·intro hlt
  have hk':k < x.length:=by omega
  rw [bD hk']
  have e:=sP mF x hk'
  (repeat' first | intro _ | (with_reducible apply And.intro))
  all_goals first | omega | skip
  ·have:=aB1 hk' (by assumption)
   unfold iA
   rw [this]
   simp
  ·exact ⟨k + 1,by omega,rfl,by rw [e,ha];simpa using ‹mF _ = true›⟩
 ·intro hge
  have:k = x.length:=by omega
  subst this
  rw [List.take_length] at ha
  intro _
  rw [Bool.eq_iff_iff,cJ,ha]
  simp only [oL,and_true]
  omega
theorem fC:Con.Holds Tryz.prog bJ:=aT aY (aK yJ (aK jB aU)) aVG fun x hx hp=>aWG x hx hp
noncomputable def eN:Con:=⟨276,aI,.bool,[.val ⟨false,aB,[]⟩,.val ⟨false,aB,[]⟩],[⟨false,.bool,[0]⟩],false,none,
 ((fun _=>True):(cN)→Prop),
 ((fun x=>iA x.1 && (iA x.2 && decide ((x.1:List Int).length = (x.2:List Int).length))):(cN)→(Bool))⟩
def aA6:T :=
 .call 0 (.p1 aB aB (.vr 0)) <|
 .ite (.vr 1) (
  .call 0 (aQ aI 1 (.vr 0)) <|
  .ite (.vr 2) (
   .prim (.llen 3 tI) (.p1 aB aB (.vr 0)) <|
   .prim (.llen 3 tI) (aQ aI 1 (.vr 0)) <|
   .prim (.cmp .eql .i64) (.mk2 tI tI (.vr 3) (.vr 4)) <|
   .ret (.vr 5)) (
   .ret (.cb false))) (
  .ret (.cb false))
set_option maxRecDepth 100000 in
theorem aQC:bS Tryz.prog [bJ] eN false 3000 ⟨[],[]⟩ = .ok aA6:=by kernel_rfl
theorem aRG (x:cN) (hx:okD aI x) (hp:(fun _=>True) x):aA6.wp [bJ] [⟨aI,x⟩] [] (fun v=>v.as .bool = (fun x=>iA x.1 && (iA x.2 && decide ((x.1:List Int).length = (x.2:List Int).length))) x):=by
 delta aA6 bJ;refine eS ?_;try with_reducible exact True.intro
 cases iA x.1 <;> cases iA x.2 <;> simp only [reduceCtorEq,true_implies,false_implies,and_true,true_and,Bool.true_and,Bool.false_and,Bool.and_false,implies_true]
 intro _ _
 rw [Bool.eq_iff_iff,beq_iff_eq,decide_eq_true_eq]
 exact bED
theorem uI:Con.Holds Tryz.prog eN:=aT aY (aK fC aU) aQC fun x hx hp=>aRG x hx hp
noncomputable def pQ:Con:=⟨294,aZ,tI,[.val ⟨true,aZ,[]⟩],[⟨false,tI,[0]⟩],false,none,
 ((fun _=>True):(iC)→Prop),
 ((fun x=>lS x):(iC)→(Int))⟩
def aAJ:T :=
 .call 0 (bF (.pair tI aO) [(aJ aZ 1 (.vr 0)),(.ci .i64 1),(.ci .i64 6)]) <|
 .prim .not (.vr 1) <|
 .ite (.vr 2) (
  .ret (.ci .i64 0)) (
  .call 0 (bF (.pair tI aO) [(aJ aZ 2 (.vr 0)),(.ci .i64 1),(.ci .i64 6)]) <|
  .prim .not (.vr 3) <|
  .ite (.vr 4) (
   .ret (.ci .i64 0)) (
   .prim (.cmp .eql .i64) (.mk2 tI tI (.p1 tI (.pair tI aD) (.vr 0)) (.ci .i64 1)) <|
   .ite (.vr 5) (
    .prim (.ar .mul .i64) (.mk2 tI tI (aJ aZ 1 (.vr 0)) (aJ aZ 2 (.vr 0))) <|
    .ret (.vr 6)) (
    .prim (.cmp .eql .i64) (.mk2 tI tI (.p1 tI (.pair tI aD) (.vr 0)) (.ci .i64 5)) <|
    .ite (.vr 6) (
     .prim (.ar .mul .i64) (.mk2 tI tI (aJ aZ 1 (.vr 0)) (aJ aZ 2 (.vr 0))) <|
     .ret (.vr 7)) (
     .prim (.cmp .eql .i64) (.mk2 tI tI (.p1 tI (.pair tI aD) (.vr 0)) (.ci .i64 2)) <|
     .ite (.vr 7) (
      .ret (aJ aZ 1 (.vr 0))) (
      .prim (.cmp .eql .i64) (.mk2 tI tI (.p1 tI (.pair tI aD) (.vr 0)) (.ci .i64 4)) <|
      .ite (.vr 8) (
       .ret (.ci .i64 1)) (
       .ret (.ci .i64 0)))))))
set_option maxRecDepth 100000 in
theorem aTP:bS Tryz.prog [bU] pQ false 3000 ⟨[],[]⟩ = .ok aAJ:=by kernel_rfl
theorem aT9 (x:iC) (hx:okD aZ x) (hp:(fun _=>True) x):aAJ.wp [bU] [⟨aZ,x⟩] [] (fun v=>v.as tI = (fun x=>lS x) x):=by
 delta aAJ bU;refine eS ?_;try with_reducible exact True.intro
 (repeat' first | intro _ | (with_reducible apply And.intro))
 all_goals simp only [oL] at *
 all_goals first | omega | (have:=aUR (a:=x.2.1) (b:=x.2.2.1) (by omega) (by omega) (by omega) (by omega);omega) | exact aMA (by omega) | exact aM4 (by omega) | exact aPO (by omega) | exact aFX (by omega)
theorem aR4:Con.Holds Tryz.prog pQ:=aT aY (aK jB aU) aTP fun x hx hp=>aT9 x hx hp
noncomputable def jV:Con:=⟨239,aZ,.bool,[.val ⟨true,aZ,[]⟩],[⟨false,.bool,[0]⟩],false,none,
 ((fun _=>True):(iC)→Prop),
 ((fun x=>opB x):(iC)→(Bool))⟩
def aG4:T :=
 .call 0 (bF (.pair tI aO) [(.p1 tI (.pair tI aD) (.vr 0)),(.ci .i64 1),(.ci .i64 5)]) <|
 .prim .not (.vr 1) <|
 .ite (.vr 2) (
  .ret (.cb false)) (
  .call 0 (bF (.pair tI aO) [(aJ aZ 1 (.vr 0)),(.ci .i64 1),(.ci .i64 6)]) <|
  .prim .not (.vr 3) <|
  .ite (.vr 4) (
   .ret (.cb false)) (
   .call 0 (bF (.pair tI aO) [(aJ aZ 2 (.vr 0)),(.ci .i64 1),(.ci .i64 6)]) <|
   .prim .not (.vr 5) <|
   .ite (.vr 6) (
    .ret (.cb false)) (
    .prim (.cmp .neq .i64) (.mk2 tI tI (.p1 tI (.pair tI aD) (.vr 0)) (.ci .i64 1)) <|
    .ite (.vr 7) (
     .prim (.cmp .neq .i64) (.mk2 tI tI (aJ aZ 1 (.vr 0)) (aJ aZ 2 (.vr 0))) <|
     .ite (.vr 8) (
      .ret (.cb false)) (
      .prim (.llen 3 tI) (aQ aZ 3 (.vr 0)) <|
      .call 1 (.vr 0) <|
      .prim (.cmp .neq .i64) (.mk2 tI tI (.vr 9) (.vr 10)) <|
      .ite (.vr 11) (
       .ret (.cb false)) (
       .loop tI (.ci .i64 0) <|
        .prim (.llen 3 tI) (aQ aZ 3 (.vr 0)) <|
        .prim (.cmp .lss .i64) (.mk2 tI tI (.vr 12) (.vr 13)) <|
        .ite (.vr 14) (
         .prim (.lidx 3 tI) (.mk2 aB tI (aQ aZ 3 (.vr 0)) (.vr 12)) <|
         .call 2 (.vr 15) <|
         .prim .not (.vr 16) <|
         .ite (.vr 17) (
          .ret (.cb false)) (
          .prim (.ar .add .i64) (.mk2 tI tI (.vr 12) (.ci .i64 1)) <|
          .again 0 (.vr 18))) (
         .ret (.cb true))))) (
     .prim (.llen 3 tI) (aQ aZ 3 (.vr 0)) <|
     .call 1 (.vr 0) <|
     .prim (.cmp .neq .i64) (.mk2 tI tI (.vr 8) (.vr 9)) <|
     .ite (.vr 10) (
      .ret (.cb false)) (
      .loop tI (.ci .i64 0) <|
       .prim (.llen 3 tI) (aQ aZ 3 (.vr 0)) <|
       .prim (.cmp .lss .i64) (.mk2 tI tI (.vr 11) (.vr 12)) <|
       .ite (.vr 13) (
        .prim (.lidx 3 tI) (.mk2 aB tI (aQ aZ 3 (.vr 0)) (.vr 11)) <|
        .call 2 (.vr 14) <|
        .prim .not (.vr 15) <|
        .ite (.vr 16) (
         .ret (.cb false)) (
         .prim (.ar .add .i64) (.mk2 tI tI (.vr 11) (.ci .i64 1)) <|
         .again 0 (.vr 17))) (
        .ret (.cb true)))))))
set_option maxRecDepth 100000 in
theorem bA2:bS Tryz.prog [bU,pQ,fP] jV false 3000 ⟨[(2988,72012,mL 39 28 ++ [.dr 26,.dr 27] ++ mL 25 4 ++ [.dr 0,.tm 3 0]),(2988,32011,mL 39 28 ++ [.dr 26,.dr 27] ++ mL 25 4 ++ [.dr 0,.tm 3 0])],[]⟩ = .ok aG4:=by kernel_rfl
theorem aZI (x:iC) (hx:okD aZ x) (hp:(fun _=>True) x):aG4.wp [bU,pQ,fP] [⟨aZ,x⟩] [] (fun v=>v.as .bool = (fun x=>opB x) x):=by
  have hp:List.length x.2.2.2≤9223372036854775807:=hx.2.2.2.1
  delta aG4 bU pQ fP;refine eS ?_;try with_reducible exact True.intro
  (repeat' first | intro _ | (with_reducible apply And.intro))
  all_goals simp only [oL] at *
  all_goals first | assumption | (first | (refine (Bool.eq_false_iff.2 ?_).symm;rw [ne_eq,lC];intro hh;omega) | (refine (lC.2 ?_).symm;omega)) | skip
  all_goals refine ⟨fun s=>∃ k:Nat,k≤x.2.2.2.length∧s = (k:Int)∧(x.2.2.2.take k).all mF = true,fun s=>x.2.2.2.length - (s:Int).toNat,⟨0,by omega,rfl,rfl⟩,fun s _ hI=>?_⟩
  all_goals obtain ⟨k,hk,rfl,ha⟩:=hI
  all_goals (refine gR ?_;try with_reducible exact True.intro)
  all_goals intro _
  all_goals have hin:k < x.2.2.2.length→x.2.2.2.getD k 0 = x.2.2.2.getD k (0:Int):=fun _=>rfl
  all_goals constructor
  all_goals intro hlt
  all_goals first
    | (have hk':k < x.2.2.2.length:=by omega
       rw [bD hk']
       have e:=sP mF x.2.2.2 hk'
       refine ⟨by omega,fun _=>⟨fun hf=>?_,fun hf=>⟨by omega,fun _=>⟨⟨k + 1,by omega,rfl,by rw [e,ha,hf];rfl⟩,by omega⟩⟩⟩⟩
       have hb:=aB1 hk' hf
       refine (Bool.eq_false_iff.2 fun h=>?_).symm
       rw [lC] at h
       rw [hb] at h
       exact Bool.noConfusion h.2)
    | (have:k = x.2.2.2.length:=by omega
       subst this
       rw [List.take_length] at ha
       exact ((lC x).2 ⟨by omega,ha⟩).symm)
theorem aFL:Con.Holds Tryz.prog jV:=aT aY (aK jB (aK aR4 (aK yJ aU))) bA2 fun x hx hp=>aZI x hx hp
noncomputable def nQ:Con:=⟨151,aN,.bool,[.val ⟨true,aN,[]⟩],[⟨false,.bool,[0]⟩],false,none,
 ((fun _=>True):(dA)→Prop),
 ((fun x=>jK x):(dA)→(Bool))⟩
def vO:T :=
 .loop tI (.ci .i64 0) <|
  .prim (.llen 219 aZ) (.vr 0) <|
  .prim (.cmp .lss .i64) (.mk2 tI tI (.vr 1) (.vr 2)) <|
  .ite (.vr 3) (
   .prim (.lidx 219 aZ) (.mk2 aN tI (.vr 0) (.vr 1)) <|
   .call 0 (.vr 4) <|
   .prim .not (.vr 5) <|
   .ite (.vr 6) (
    .ret (.cb false)) (
    .prim (.cmp .gtr .i64) (.mk2 tI tI (.vr 1) (.ci .i64 0)) <|
    .ite (.vr 7) (
     .prim (.ar .sub .i64) (.mk2 tI tI (.vr 1) (.ci .i64 1)) <|
     .prim (.lidx 219 aZ) (.mk2 aN tI (.vr 0) (.vr 1)) <|
     .prim (.lidx 219 aZ) (.mk2 aN tI (.vr 0) (.vr 8)) <|
     .prim (.cmp .neq .i64) (.mk2 tI tI (aJ aZ 1 (.vr 9)) (aJ aZ 2 (.vr 10))) <|
     .ite (.vr 11) (
      .ret (.cb false)) (
      .prim (.ar .add .i64) (.mk2 tI tI (.vr 1) (.ci .i64 1)) <|
      .again 0 (.vr 12))) (
     .prim (.ar .add .i64) (.mk2 tI tI (.vr 1) (.ci .i64 1)) <|
     .again 0 (.vr 8)))) (
   .prim (.llen 219 aZ) (.vr 0) <|
   .call 1 (bF (.pair tI aO) [(.vr 4),(.ci .i64 1),(.ci .i64 8)]) <|
   .ret (.vr 5))
set_option maxRecDepth 100000 in
theorem aN0:bS Tryz.prog [jV,bU] nQ false 3000 ⟨[(2993,1001,[.dr 0,.tm 3 0])],[]⟩ = .ok vO:=by kernel_rfl
theorem aMC (x:dA) (hx:okD aN x) (hp:(fun _=>True) x):vO.wp [jV,bU] [⟨aN,x⟩] [] (fun v=>v.as .bool = (fun x=>jK x) x):=by
 obtain ⟨hp1,hp2⟩:List.length x≤9223372036854775807∧∀ o ∈ (x:List iC),List.length o.2.2.2≤9223372036854775807:=⟨hx.1,fun o ho=>(hx.2 o ho).2.2.2.1⟩
 delta vO jV bU;refine eS ?_;try with_reducible exact True.intro
 refine ⟨fun s=>∃ k:Nat,k≤x.length∧s = (k:Int)∧∀ i,i < k→aRT x i = true,fun s=>x.length - (s:Int).toNat,⟨0,by omega,rfl,by omega⟩,fun s _ hI=>?_⟩
 obtain ⟨k,hk,rfl,ha⟩:=hI
 (refine gR ?_;try with_reducible exact True.intro)
 intro _
 constructor
 ·intro hlt
  have hk':k < x.length:=by omega
  rw [bD hk',bD (show k - 1 < x.length by omega)]
  have e:=aEO x hk'
  have hm:=hp2 _ (List.getElem_mem hk')
  (repeat' first | intro _ | (with_reducible apply And.intro))
  all_goals first | omega | exact hm | skip
  all_goals first | (refine aFN hk' fun h=>?_;rw [e] at h;obtain ⟨h1,h2⟩:=h;first | (simp_all;done) | omega) | skip
  all_goals refine ⟨k + 1,by omega,rfl,fun i hi=>?_⟩
  all_goals rcases Nat.lt_or_eq_of_le (Nat.le_of_lt_succ hi) with h | rfl
  all_goals first | exact ha i h | (refine e.2 ⟨by assumption,?_⟩;first | exact .inl (by omega) | exact .inr (by assumption) | exact .inr (by omega))
 ·intro hge
  have:k = x.length:=by omega
  subst this
  intro _
  rw [Bool.eq_iff_iff,cK]
  (refine gR ?_;try with_reducible exact True.intro)
  constructor
  ·intro h;exact ⟨by omega,by omega,ha⟩
  ·intro h;omega
theorem aNF:Con.Holds Tryz.prog nQ:=aT aY (aK aFL (aK jB aU)) aN0 fun x hx hp=>aMC x hx hp
end Go.Proofs.YtmfpkkbhnmkfdaaGreat
