/- CoreO: lemmas. No conditions. -/
import Derived.Test.YtmfpkkbhnmkfdaaGreatCoreM
import Derived.Test.YtmfpkkbhnmkfdaaGreatCoreT
namespace Go.Proofs.YtmfpkkbhnmkfdaaGreat
noncomputable section
set_option maxRecDepth 100000
open Go.ChangeShapes Go.WideShapes Go.ChangeAt Go.RowKit Go.Deep
set_option linter.unusedVariables false
set_option linter.unusedSimpArgs false
theorem bNM {q:bF} {b:List Int} {M:Int} (hz:(aY aG q:Int)≤M) (h:∀ j,0≤b.getD j 0∧b.getD j 0≤M):(k:Nat)→k≤q.2.1.length→∀ j,0≤(upK q b k).getD j 0∧(upK q b k).getD j 0≤M
 | 0,_=>h
 | k+1,hk=>fun j=>by
  have h1:=bNM hz h k (by omega)
  have h2:=h1 k
  have h3:=bOM (q.2.1.getD k (aX aA))
  have h5:aY aA (q.2.1.getD k (aX aA))≤aY (.slice 121 aA) q.2.1:=by rw[aZ (show k<q.2.1.length by omega)];exact pR (List.getElem_mem _)
  have h6:=tE q
  exact aN6 h1 (by omega) j
theorem bDI (p:bF):(k:Nat)→∀ j,0≤(qC p k).getD j 0∧(qC p k).getD j 0≤((aY aG p+800 * k:Nat):Int)
 | 0=>fun j=>by
  have:(qC p 0).getD j 0=0:=by
   show (List.replicate p.2.1.length (0:Int)).getD j 0=0
   by_cases hj:j<p.2.1.length
   ·rw[aZ (by rw[List.length_replicate];exact hj),List.getElem_replicate]
   ·rw[aDE (by rw[List.length_replicate];omega)]
  omega
 | k+1=>fun j=>by
  have h1:=xW p (k+1)
  have h2:=bDI p k
  exact bNM (q:=cC p (k+1)) (M:=((aY aG p+800 * (k+1):Nat):Int)) (by omega) (fun j=>by have:=h2 j;omega) _ (Nat.le_refl _) j
theorem bN1 (c:bI) (s micro:Int):0≤tX c s micro:=by
 unfold tX
 split
 ·rename_i h
  have hb:=aK8 c s
  have hr:=(rT c.1 c.2.1 s).2.2.2 h.1
  have hm:=bHU (k:=if c.2.2.1=2 then min micro ((c.2.1.length:Int)+1 - s) else micro) (v:=jW c s) (by split <;> omega) (by split <;> omega) (by omega) (by omega)
  have h2:0≤(if oG c s=true then oW c s else 0):=by split <;> omega
  omega
 ·exact Int.le_refl _
theorem aU7 {c:bI} {b:List bP} (h1:aY aC c≤2000000) (h2:aY aM b≤2000000) {k:Nat} (hk:k<(iJ c b).2.2.1.length) :
  eL c b=0∧k<c.2.2.2.2.2.length∧(0≤(iJ c b).2.2.1.getD k 0∧(iJ c b).2.2.1.getD k 0≤100000000)∧0≤c.2.2.2.2.2.getD k 0∧c.2.2.2.2.2.getD k 0≤100000∧(iJ c b).2.2.1.length≤4:=by
 by_cases h:eL c b=0
 ·obtain ⟨a1,a2,a3,a4,a5,a6,a7,a8⟩:=aNK h
  have hs:=aKX h1 h2
  have hl:=aCX h
  obtain ⟨m,hm,e⟩:=aH3 (lG c b) 1000 0
  rw[bCQ h] at e
  rw[e] at hk ⊢
  have hml:=wV (lG c b) m
  have hmb:=bDI (lG c b) m k
  have hk2:k<(qC (lG c b) m).length:=hk
  unfold lF at a8
  rw[Bool.and_eq_true,decide_eq_true_eq,List.all_eq_true] at a8
  have hpl:(lG c b).2.1.length=(bS c.1 c.2.1).toNat:=by rw[← aT5 h];exact eM _ _
  have hlk:k<c.2.2.2.2.2.length:=by omega
  have hlim:=of_decide_eq_true (a8.2 k (List.mem_range.2 hlk))
  have hpn:=bN1 c (k:Int) (b.length:Int)
  refine ⟨h,hlk,⟨?_,?_⟩,by omega,hlim.2,?_⟩
  ·exact hmb.1
  ·have:=hmb.2;show (qC (lG c b) m).getD k 0≤100000000;omega
  ·show (qC (lG c b) m).length≤4;omega
 ·rw[← aVP h] at hk
  exact absurd hk (Nat.not_lt_zero _)
def aFC (c:bI) (b:List bP):List Int:=mp (iJ c b).2.2.1.length fun i=>c.2.2.2.2.2.getD i 0 - (iJ c b).2.2.1.getD i 0
theorem bLH {c:bI} {b:List bP} (h:¬ eL c b=0):[]=aFC c b:=by unfold aFC;rw[← aVP h];rfl
theorem bKF {x y:Int} (h:0≤x∧x≤100000) (g:0≤y∧y≤100000000):-9223372036854775808≤x - y:=by omega
theorem bK3 {x y:Int} (h:0≤x∧x≤100000) (g:0≤y∧y≤100000000):x - y≤9223372036854775807:=by omega
def aBZ (a d:aTI):Int:=if d.2.2.2=true∧(a.2.2.2=false∨d.1<a.1) then 2 else if a.2.2.2=true then 1 else 0
theorem aJQ {a d:aTI} (h:d.2.2.2=true) (h2:a.2.2.2=false∨d.1<a.1):2=aBZ a d:=(if_pos ⟨h,h2⟩).symm
theorem aJX {a d:aTI} (h:d.2.2.2=false∨a.1≤d.1) (h2:a.2.2.2=true):1=aBZ a d:=by
 unfold aBZ
 rw[if_neg,if_pos h2]
 rintro ⟨h3,h4⟩
 rcases h with h|h
 ·rw[h] at h3;cases h3
 ·rcases h4 with h4|h4
  ·rw[h4] at h2;cases h2
  ·omega
theorem bD0 {a d:aTI} (h:d.2.2.2=false) (h2:a.2.2.2=false):0=aBZ a d:=by
 unfold aBZ
 rw[if_neg (by rw[h];simp),if_neg (by rw[h2];simp)]
def aFT (c:bI) (b:List bP):Int:=aBZ (iJ (c.1,c.2.1,1,c.2.2.2) b) (iJ (c.1,c.2.1,2,c.2.2.2) b)
def kY:Con:=⟨42,(.bP9 aC aM),aB,[.val ⟨true,aC,[]⟩,.val ⟨false,aM,[]⟩],[⟨false,aB,[2]⟩],false,none,
 ((fun x=>aY aC x.1≤2000000∧aY aM x.2≤2000000):(bI × dI)→Prop),
 ((fun x=>aFC x.1 x.2):(bI × dI)→(List Int))⟩
def aHS:T:=.call 0 (.Z 0) <|
 .bPA (.cmp .neq .i64) (.bPB tI tI (.Z 1) (.ci .i64 0)) <|
 .ite (.Z 2) (
  .ret (.nl 3 tI)) (
  .call 1 (.Z 0) <|
  .bPA (.bPD 3 tI) (aK (.bP9 tI (.bP9 aB (.bP9 aB .bool))) 2 (.Z 3)) <|
  .loop aF (.bPB tI aB (.ci .i64 0) (.nl 3 tI)) <|
   .bPA (.cmp .lss .i64) (.bPB tI tI (.p1 tI aB (.Z 5)) (.Z 4)) <|
   .ite (.Z 6) (
    .bPA (.bPE 3 tI) (.bPB aB tI (aK (.bP9 tI (.bP9 aB (.bP9 aB .bool))) 2 (.Z 3)) (.p1 tI aB (.Z 5))) <|
    .bPA (.bPE 3 tI) (.bPB aB tI (aK (.bP9 tI (.bP9 aB (.bP9 aB .bool))) 2 (.Z 3)) (.p1 tI aB (.Z 5))) <|
    .bPA (.bPE 3 tI) (.bPB aB tI (aQ aC 5 (.p1 aC aM (.Z 0))) (.p1 tI aB (.Z 5))) <|
    .bPA (.ar .sub .i64) (.bPB tI tI (.Z 9) (.Z 8)) <|
    .bPA (.lit 3 tI 1) (.Z 10) <|
    .bPA (.bPG 3 tI 8) (.bPB aB aB (aQ aF 1 (.Z 5)) (.Z 11)) <|
    .bPA (.ar .add .i64) (.bPB tI tI (.p1 tI aB (.Z 5)) (.ci .i64 1)) <|
    .bPC 0 (.bPB tI aB (.Z 13) (.Z 12))) (
    .ret (aQ aF 1 (.Z 5))))
theorem bG5:bN Tryz.prog [kF,dC] kY false 3000 ⟨[(2986,2005,iL 15 8++[.dr 0,.dr 1,.tm 18 0,.on 5,.sl 4])],[]⟩ = .ok aHS:=by kernel_rfl
theorem bEZ (x:bI × dI) (hx:okD (.bP9 aC aM) x) (hp:(fun x=>aY aC x.1≤2000000∧aY aM x.2≤2000000) x):aHS.wp [kF,dC] [⟨(.bP9 aC aM),x⟩] [] (fun v=>v.as aB=(fun x=>aFC x.1 x.2) x):=by
 obtain ⟨c,b⟩:=x
 obtain ⟨hp1,hp2⟩:aY aC c≤2000000∧aY aM b≤2000000:=hp
 have hcp:fF c:=xY (by omega)
 delta aHS kF dC;refine dD ?_
 refine dM ?_
 refine ⟨hcp,fun _=>⟨fun h=>bLH h,fun h=>⟨⟨hp1,hp2⟩,fun _ _=>?_⟩⟩⟩
 refine cJ (fun k=>((k:Int),mp k fun i=>c.2.2.2.2.2.getD i 0 - (iJ c b).2.2.1.getD i 0)) (iJ c b).2.2.1.length rfl fun I μ k hk _ go=>?_
 dsimp only
 refine dM ?_
 have hml:=eM k (fun i=>c.2.2.2.2.2.getD i 0 - (iJ c b).2.2.1.getD i 0)
 by_cases hk':k<(iJ c b).2.2.1.length
 ·obtain ⟨q1,q2,q3,q4,q5,q6⟩:=aU7 hp1 hp2 hk'
  have q3':0≤List.getD (iJ c b).2.2.1 k (aX tI)∧List.getD (iJ c b).2.2.1 k (aX tI)≤100000000:=q3
  have q4':0≤List.getD c.2.2.2.2.2 k (aX tI)∧List.getD c.2.2.2.2.2 k (aX tI)≤100000:=⟨q4,q5⟩
  (repeat' first|intro _|(refine go _ ?_ ?_ ?_)|(refine go _ ?_ ?_)|(with_reducible apply And.intro))
  all_goals first|omega|(unfold maxLen;omega)|exact bKF q4' q3'|exact bK3 q4' q3'|(rw[fN];rfl)|skip
 ·(repeat' first|intro _|(refine go _ ?_ ?_ ?_)|(refine go _ ?_ ?_)|(with_reducible apply And.intro))
  all_goals first|omega|(have e:k=(iJ c b).2.2.1.length:=(by omega);subst e;rfl)|skip
theorem bF0:Con.Holds Tryz.prog kY:=aS aV (aH aIF (aH yK aT)) bG5 bEZ
def lA:Con:=⟨41,(.bP9 aC aM),aB,[.val ⟨true,aC,[]⟩,.val ⟨false,aM,[]⟩],[⟨false,aB,[2]⟩],false,none,
 ((fun x=>aY aC x.1≤2000000∧aY aM x.2≤2000000):(bI × dI)→Prop),
 ((fun x=>aFC x.1 x.2):(bI × dI)→(List Int))⟩
def aH8:T:=.call 0 (.Z 0) <|.loop aF (.bPB tI aB (.ci .i64 0) (.nl 3 tI)) <|
 .bPA (.bPD 3 tI) (aK (.bP9 tI (.bP9 aB (.bP9 aB .bool))) 2 (.Z 1)) <|
 .bPA (.cmp .lss .i64) (.bPB tI tI (.p1 tI aB (.Z 2)) (.Z 3)) <|
 .ite (.Z 4) (
  .bPA (.bPE 3 tI) (.bPB aB tI (aQ aC 5 (.p1 aC aM (.Z 0))) (.p1 tI aB (.Z 2))) <|
  .bPA (.bPE 3 tI) (.bPB aB tI (aK (.bP9 tI (.bP9 aB (.bP9 aB .bool))) 2 (.Z 1)) (.p1 tI aB (.Z 2))) <|
  .bPA (.bPE 3 tI) (.bPB aB tI (aK (.bP9 tI (.bP9 aB (.bP9 aB .bool))) 2 (.Z 1)) (.p1 tI aB (.Z 2))) <|
  .bPA (.ar .sub .i64) (.bPB tI tI (.Z 5) (.Z 7)) <|
  .bPA (.lit 3 tI 1) (.Z 8) <|
  .bPA (.bPG 3 tI 8) (.bPB aB aB (aQ aF 1 (.Z 2)) (.Z 9)) <|
  .bPA (.ar .add .i64) (.bPB tI tI (.p1 tI aB (.Z 2)) (.ci .i64 1)) <|
  .bPC 0 (.bPB tI aB (.Z 11) (.Z 10))) (
  .ret (aQ aF 1 (.Z 2)))
theorem bFS:bN Tryz.prog [dB] lA false 3000 ⟨[(2989,1002,iL 11 8++[.dr 0,.dr 1,.tm 7 0,.on 5,.sl 7])],[]⟩ = .ok aH8:=by kernel_rfl
theorem bGT (x:bI × dI) (hx:okD (.bP9 aC aM) x) (hp:(fun x=>aY aC x.1≤2000000∧aY aM x.2≤2000000) x):aH8.wp [dB] [⟨(.bP9 aC aM),x⟩] [] (fun v=>v.as aB=(fun x=>aFC x.1 x.2) x):=by
 obtain ⟨c,b⟩:=x
 obtain ⟨hp1,hp2⟩:aY aC c≤2000000∧aY aM b≤2000000:=hp
 have hcp:fF c:=xY (by omega)
 delta aH8 dB;refine dD ?_
 refine dM ?_
 refine ⟨⟨hp1,hp2⟩,fun _=>?_⟩
 refine cJ (fun k=>((k:Int),mp k fun i=>c.2.2.2.2.2.getD i 0 - (iJ c b).2.2.1.getD i 0)) (iJ c b).2.2.1.length rfl fun I μ k hk _ go=>?_
 dsimp only
 refine dM ?_
 have hml:=eM k (fun i=>c.2.2.2.2.2.getD i 0 - (iJ c b).2.2.1.getD i 0)
 by_cases hk':k<(iJ c b).2.2.1.length
 ·obtain ⟨q1,q2,q3,q4,q5,q6⟩:=aU7 hp1 hp2 hk'
  have q3':0≤List.getD (iJ c b).2.2.1 k (aX tI)∧List.getD (iJ c b).2.2.1 k (aX tI)≤100000000:=q3
  have q4':0≤List.getD c.2.2.2.2.2 k (aX tI)∧List.getD c.2.2.2.2.2 k (aX tI)≤100000:=⟨q4,q5⟩
  (repeat' first|intro _|(refine go _ ?_ ?_ ?_)|(refine go _ ?_ ?_)|(with_reducible apply And.intro))
  all_goals first|omega|(unfold maxLen;omega)|exact bKF q4' q3'|exact bK3 q4' q3'|(rw[fN];rfl)|skip
 ·(repeat' first|intro _|(refine go _ ?_ ?_ ?_)|(refine go _ ?_ ?_)|(with_reducible apply And.intro))
  all_goals first|omega|(have e:k=(iJ c b).2.2.1.length:=(by omega);subst e;rfl)|skip
theorem bFF:Con.Holds Tryz.prog lA:=aS aV (aH zA aT) bFS bGT
def fC:Con:=⟨45,(.bP9 aC aM),tI,[.val ⟨true,aC,[]⟩,.val ⟨false,aM,[]⟩],[⟨false,tI,[0]⟩],false,none,
 ((fun x=>aY aC x.1≤2000000∧aY aM x.2≤2000000):(bI × dI)→Prop),
 ((fun x=>aFT x.1 x.2):(bI × dI)→(Int))⟩
def vY:T:=.call 0 (.bPB aC aM (bG aC [(.p1 aE (.bP9 aB (.bP9 tI (.bP9 bW aI))) (.p1 aC aM (.Z 0))),(aK aC 1 (.p1 aC aM (.Z 0))),(.ci .i64 1),(aQ aC 3 (.p1 aC aM (.Z 0)))]) (aQ (.bP9 aC aM) 1 (.Z 0))) <|.call 0 (.bPB aC aM (bG aC [(.p1 aE (.bP9 aB (.bP9 tI (.bP9 bW aI))) (.p1 aC aM (.Z 0))),(aK aC 1 (.p1 aC aM (.Z 0))),(.ci .i64 2),(aQ aC 3 (.p1 aC aM (.Z 0)))]) (aQ (.bP9 aC aM) 1 (.Z 0))) <|.ite (aQ (.bP9 tI (.bP9 aB (.bP9 aB .bool))) 3 (.Z 2)) (
 .bPA .not (aQ (.bP9 tI (.bP9 aB (.bP9 aB .bool))) 3 (.Z 1)) <|
 .ite (.Z 3) (
  .ret (.ci .i64 2)) (
  .bPA (.cmp .lss .i64) (.bPB tI tI (.p1 tI (.bP9 aB (.bP9 aB .bool)) (.Z 2)) (.p1 tI (.bP9 aB (.bP9 aB .bool)) (.Z 1))) <|
  .ite (.Z 4) (
   .ret (.ci .i64 2)) (
   .ite (aQ (.bP9 tI (.bP9 aB (.bP9 aB .bool))) 3 (.Z 1)) (
    .ret (.ci .i64 1)) (
    .ret (.ci .i64 0))))) (
 .ite (aQ (.bP9 tI (.bP9 aB (.bP9 aB .bool))) 3 (.Z 1)) (
  .ret (.ci .i64 1)) (
  .ret (.ci .i64 0)))
theorem aOT:bN Tryz.prog [dC] fC false 3000 ⟨[],[]⟩ = .ok vY:=by kernel_rfl
theorem aO3 (x:bI × dI) (hx:okD (.bP9 aC aM) x) (hp:(fun x=>aY aC x.1≤2000000∧aY aM x.2≤2000000) x):vY.wp [dC] [⟨(.bP9 aC aM),x⟩] [] (fun v=>v.as tI=(fun x=>aFT x.1 x.2) x):=by
 obtain ⟨c,b⟩:=x
 obtain ⟨hp1,hp2⟩:aY aC c≤2000000∧aY aM b≤2000000:=hp
 delta vY dC;refine dD ?_
 refine dM ?_
 rw[show aFT c b=aBZ (iJ (c.1,c.2.1,1,c.2.2.2) b) (iJ (c.1,c.2.1,2,c.2.2.2) b) from rfl]
 (repeat' first|intro _|(with_reducible apply And.intro))
 all_goals first|exact hp1|exact hp2|exact aJQ (by assumption) (.inl (by assumption))|exact aJQ (by assumption) (.inr (by assumption))|exact aJX (.inl (by assumption)) (by assumption)|exact aJX (.inr (by assumption)) (by assumption)|exact bD0 (by assumption) (by assumption)|exact Bool.noConfusion ((by assumption:(iJ (c.1,c.2.1,1,c.2.2.2) b).2.2.2=true).symm.trans (by assumption:(iJ (c.1,c.2.1,1,c.2.2.2) b).2.2.2=false))|exact Bool.noConfusion ((by assumption:(iJ (c.1,c.2.1,2,c.2.2.2) b).2.2.2=true).symm.trans (by assumption:(iJ (c.1,c.2.1,2,c.2.2.2) b).2.2.2=false))|skip
theorem aOD:Con.Holds Tryz.prog fC:=aS aV (aH yK aT) aOT aO3
def fE:Con:=⟨44,(.bP9 aC aM),tI,[.val ⟨true,aC,[]⟩,.val ⟨false,aM,[]⟩],[⟨false,tI,[0]⟩],false,none,
 ((fun x=>aY aC x.1≤2000000∧aY aM x.2≤2000000):(bI × dI)→Prop),
 ((fun x=>aFT x.1 x.2):(bI × dI)→(Int))⟩
def wO:T:=.call 0 (.bPB aC aM (bG aC [(.p1 aE (.bP9 aB (.bP9 tI (.bP9 bW aI))) (.p1 aC aM (.Z 0))),(aK aC 1 (.p1 aC aM (.Z 0))),(.ci .i64 1),(aQ aC 3 (.p1 aC aM (.Z 0)))]) (aQ (.bP9 aC aM) 1 (.Z 0))) <|.call 0 (.bPB aC aM (bG aC [(.p1 aE (.bP9 aB (.bP9 tI (.bP9 bW aI))) (.p1 aC aM (.Z 0))),(aK aC 1 (.p1 aC aM (.Z 0))),(.ci .i64 2),(aQ aC 3 (.p1 aC aM (.Z 0)))]) (aQ (.bP9 aC aM) 1 (.Z 0))) <|
 .bPA .not (aQ (.bP9 tI (.bP9 aB (.bP9 aB .bool))) 3 (.Z 1)) <|
 .ite (.Z 3) (
  .bPA .not (aQ (.bP9 tI (.bP9 aB (.bP9 aB .bool))) 3 (.Z 2)) <|
  .ite (.Z 4) (
   .ret (.ci .i64 0)) (
   .bPA .not (aQ (.bP9 tI (.bP9 aB (.bP9 aB .bool))) 3 (.Z 2)) <|
   .ite (.Z 5) (
    .ret (.ci .i64 1)) (
    .ite (aQ (.bP9 tI (.bP9 aB (.bP9 aB .bool))) 3 (.Z 1)) (
     .bPA (.cmp .leq .i64) (.bPB tI tI (.p1 tI (.bP9 aB (.bP9 aB .bool)) (.Z 1)) (.p1 tI (.bP9 aB (.bP9 aB .bool)) (.Z 2))) <|
     .ite (.Z 6) (
      .ret (.ci .i64 1)) (
      .ret (.ci .i64 2))) (
     .ret (.ci .i64 2))))) (
  .bPA .not (aQ (.bP9 tI (.bP9 aB (.bP9 aB .bool))) 3 (.Z 2)) <|
  .ite (.Z 4) (
   .ret (.ci .i64 1)) (
   .ite (aQ (.bP9 tI (.bP9 aB (.bP9 aB .bool))) 3 (.Z 1)) (
    .bPA (.cmp .leq .i64) (.bPB tI tI (.p1 tI (.bP9 aB (.bP9 aB .bool)) (.Z 1)) (.p1 tI (.bP9 aB (.bP9 aB .bool)) (.Z 2))) <|
    .ite (.Z 5) (
     .ret (.ci .i64 1)) (
     .ret (.ci .i64 2))) (
    .ret (.ci .i64 2))))
theorem aNU:bN Tryz.prog [dB] fE false 3000 ⟨[],[]⟩ = .ok wO:=by kernel_rfl
theorem aOB (x:bI × dI) (hx:okD (.bP9 aC aM) x) (hp:(fun x=>aY aC x.1≤2000000∧aY aM x.2≤2000000) x):wO.wp [dB] [⟨(.bP9 aC aM),x⟩] [] (fun v=>v.as tI=(fun x=>aFT x.1 x.2) x):=by
 obtain ⟨c,b⟩:=x
 obtain ⟨hp1,hp2⟩:aY aC c≤2000000∧aY aM b≤2000000:=hp
 delta wO dB;refine dD ?_
 refine dM ?_
 rw[show aFT c b=aBZ (iJ (c.1,c.2.1,1,c.2.2.2) b) (iJ (c.1,c.2.1,2,c.2.2.2) b) from rfl]
 (repeat' first|intro _|(with_reducible apply And.intro))
 all_goals first|exact hp1|exact hp2|exact aJQ (by assumption) (.inl (by assumption))|exact aJQ (by assumption) (.inr (by assumption))|exact aJX (.inl (by assumption)) (by assumption)|exact aJX (.inr (by assumption)) (by assumption)|exact bD0 (by assumption) (by assumption)|exact Bool.noConfusion ((by assumption:(iJ (c.1,c.2.1,1,c.2.2.2) b).2.2.2=true).symm.trans (by assumption:(iJ (c.1,c.2.1,1,c.2.2.2) b).2.2.2=false))|exact Bool.noConfusion ((by assumption:(iJ (c.1,c.2.1,2,c.2.2.2) b).2.2.2=true).symm.trans (by assumption:(iJ (c.1,c.2.1,2,c.2.2.2) b).2.2.2=false))|skip
theorem aOA:Con.Holds Tryz.prog fE:=aS aV (aH zA aT) aNU aOB
end
end Go.Proofs.YtmfpkkbhnmkfdaaGreat
