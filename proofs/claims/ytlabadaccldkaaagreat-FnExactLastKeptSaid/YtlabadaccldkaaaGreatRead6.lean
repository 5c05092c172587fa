/- Read6: lemmas. No conditions. -/
import Derived.Test.YtlabadaccldkaaaGreatParse5
namespace Go.Proofs.YtlabadaccldkaaaGreat
set_option maxRecDepth 100000
open Go.ChangeShapes Go.WideShapes Go.ChangeAt Go.RowKit Go.Deep
set_option linter.unusedVariables false
set_option linter.unusedSimpArgs false
theorem aKN:(k:Nat)→(r:fA)→∀ v∈(jG k r).1,-1000000000000≤v∧v≤1000000000000
 | 0,r,v,h=>by cases h
 | k+1,r,v,h=>by
  cases hb:r.2.2 with
  | true=>rw[kR _ hb] at h;cases h
  | false =>
   rw[uO _ hb] at h
   rcases List.mem_cons.1 h with rfl|h
   ·have:=aNO r (-1000000000000) 1000000000000;omega
   ·exact aKN k _ v h
theorem rA {r:fA} {n:Int} {i:Nat}:-1000000000000≤(bP r n).1.getD i 0∧(bP r n).1.getD i 0≤1000000000000:=by
 by_cases h:i<(bP r n).1.length
 ·rw[bG h]
  have hm:=List.getElem_mem h
  generalize (bP r n).1[i]=v at hm
  unfold bP at hm
  split at hm
  ·exact aKN _ _ _ hm
  ·rw[List.eq_of_mem_replicate hm];omega
 ·rw[List.getD_eq_getElem?_getD,List.getElem?_eq_none (by omega)];exact ⟨by decide,by decide⟩
theorem vI {α:Type} {f:fA→α × fA} (hf:∀ r,lM r→lM (f r).2∧(f r).2.1=r.1):(k:Nat)→{r:fA}→lM r→lM (dG f k r).2∧(dG f k r).2.1=r.1
 | 0,r,h=>⟨h,rfl⟩
 | k+1,r,h=>by
  cases hb:r.2.2 with
  | true=>rw[iJ _ _ hb];exact ⟨h,rfl⟩
  | false =>
   rw[iT _ _ hb]
   have h1:=hf r h
   have h2:=vI hf k h1.1
   exact ⟨h2.1,h2.2.trans h1.2⟩
theorem aBT {r:fA} (h:lM r):lM (iP r).2∧(iP r).2.1=r.1:=by
 have h1:=aAC h 0 20
 have h2:=vI (f:=eB) (fun r h=>jJ h) (fM r 0 20).1.toNat h1.1
 exact ⟨h2.1,h2.2.trans h1.2⟩
theorem aRV {r:fA} (h:lM r):lM (aAJ r).2∧(aAJ r).2.1=r.1:=jF 2 h
theorem aV7 {r:fA} (h:lM r):lM (opF r).2∧(opF r).2.1=r.1:=by
 have h1:=jF 3 h
 have h2:=jJ h1.1
 exact ⟨h2.1,h2.2.trans h1.2⟩
theorem aT7 {r:fA} (h:lM r):lM (aA2 r).2∧(aA2 r).2.1=r.1:=by
 have h1:=jF 1 h
 have h2:=aBT h1.1
 exact ⟨h2.1,h2.2.trans h1.2⟩
noncomputable def cN:Con:=⟨30,(.aWS (.aWS .str (.aWS tI .bool)) tI),(.aWS aA (.aWS .str (.aWS tI .bool))),[.box 68 ⟨true,(.aWS .str (.aWS tI .bool)),[]⟩,.val ⟨false,tI,[]⟩],[⟨false,aA,[2]⟩],false,none,
 ((fun x=>lM x.1∧0≤x.2∧x.2≤100):(((ByteArray) × (Int × Bool)) × Int)→Prop),
 ((fun x=>bP x.1 x.2):(((ByteArray) × (Int × Bool)) × Int)→(fN × ((ByteArray) × (Int × Bool))))⟩
def nC:T:=.call 0 (.p1 (.aWS .str (.aWS tI .bool)) tI (.Z 0)) <|
 .aWT (.aWW 3 tI) (.p1 aA (.aWS .str (.aWS tI .bool)) (.Z 1)) <|
 .aWT (.cmp .neq .i64) (.aWU tI tI (.Z 2) (aG (.aWS (.aWS .str (.aWS tI .bool)) tI) 1 (.Z 0))) <|
 .ite (.Z 3) (
  .aWT (.rep 3 tI 8) (aG (.aWS (.aWS .str (.aWS tI .bool)) tI) 1 (.Z 0)) <|
  .ret (aQ (.aWS aA (.aWS .str (.aWS tI .bool))) [(.Z 4),(aO (.aWS aA (.aWS .str (.aWS tI .bool))) 1 (.Z 1)),(aO (.aWS aA (.aWS .str (.aWS tI .bool))) 2 (.Z 1)),(.cb true)])) (
  .ret (.Z 1))
theorem aBE:cW Tryz.prog [bS] cN false 3000 ⟨[],[]⟩ = .ok nC:=by kernel_rfl
theorem aBM (x:((ByteArray) × (Int × Bool)) × Int) (hx:okD (.aWS (.aWS .str (.aWS tI .bool)) tI) x) (hp:(fun x=>lM x.1∧0≤x.2∧x.2≤100) x):nC.wp [bS] [⟨(.aWS (.aWS .str (.aWS tI .bool)) tI),x⟩] [] (fun v=>v.as (.aWS aA (.aWS .str (.aWS tI .bool)))=(fun x=>bP x.1 x.2) x):=by
 obtain ⟨r,n⟩:=x
 obtain ⟨h1,h2,h3⟩:lM r∧0≤n∧n≤100:=hp
 delta nC bS;refine jN ?_
 refine gJ ?_
 refine ⟨h1,fun _ _=>⟨fun h=>?_,fun h=>?_⟩⟩
 ·(repeat' first|intro _|(with_reducible apply And.intro))
  all_goals first|omega|skip
  unfold bP;rw[if_neg h];rfl
 ·unfold bP;rw[if_pos h]
theorem nK:Con.Holds Tryz.prog cN:=aX bI (aR iY aY) aBE aBM
noncomputable def iH:Con:=⟨59,(.aWS .str (.aWS tI .bool)),(.aWS aF (.aWS .str (.aWS tI .bool))),[.box 68 ⟨true,(.aWS .str (.aWS tI .bool)),[]⟩],[⟨false,aF,[2]⟩],false,none,
 ((fun x=>lM x):((ByteArray) × (Int × Bool))→Prop),
 ((fun x=>iP x):((ByteArray) × (Int × Bool))→(eT × ((ByteArray) × (Int × Bool))))⟩
def nE:T:=.call 0 (aQ (.aWS (.aWS .str (.aWS tI .bool)) aJ) [(.Z 0),(.ci .i64 0),(.ci .i64 20)]) <|.loop (.aWS tI (.aWS .str (.aWS tI (.aWS .bool aF)))) (aQ (.aWS tI (.aWS .str (.aWS tI (.aWS .bool aF)))) [(.ci .i64 0),(aO (.aWS tI (.aWS .str (.aWS tI .bool))) 1 (.Z 1)),(aO (.aWS tI (.aWS .str (.aWS tI .bool))) 2 (.Z 1)),(aG (.aWS tI (.aWS .str (.aWS tI .bool))) 3 (.Z 1)),(.nl 117 aA)]) <|
 .aWT (.cmp .lss .i64) (.aWU tI tI (.p1 tI (.aWS .str (.aWS tI (.aWS .bool aF))) (.Z 2)) (.p1 tI (.aWS .str (.aWS tI .bool)) (.Z 1))) <|
 .ite (.Z 3) (
  .aWT .not (aO (.aWS tI (.aWS .str (.aWS tI (.aWS .bool aF)))) 3 (.Z 2)) <|
  .ite (.Z 4) (
   .call 1 (aQ (.aWS .str (.aWS tI .bool)) [(aO (.aWS tI (.aWS .str (.aWS tI (.aWS .bool aF)))) 1 (.Z 2)),(aO (.aWS tI (.aWS .str (.aWS tI (.aWS .bool aF)))) 2 (.Z 2)),(aO (.aWS tI (.aWS .str (.aWS tI (.aWS .bool aF)))) 3 (.Z 2))]) <|
   .aWT (.lit 117 aA 1) (.p1 aA (.aWS .str (.aWS tI .bool)) (.Z 5)) <|
   .aWT (.aWZ 117 aA 24) (.aWU aF aF (aG (.aWS tI (.aWS .str (.aWS tI (.aWS .bool aF)))) 4 (.Z 2)) (.Z 6)) <|
   .aWT (.ar .add .i64) (.aWU tI tI (.p1 tI (.aWS .str (.aWS tI (.aWS .bool aF))) (.Z 2)) (.ci .i64 1)) <|
   .aWV 0 (aQ (.aWS tI (.aWS .str (.aWS tI (.aWS .bool aF)))) [(.Z 8),(aO (.aWS aA (.aWS .str (.aWS tI .bool))) 1 (.Z 5)),(aO (.aWS aA (.aWS .str (.aWS tI .bool))) 2 (.Z 5)),(aG (.aWS aA (.aWS .str (.aWS tI .bool))) 3 (.Z 5)),(.Z 7)])) (
   .ret (aQ (.aWS aF (.aWS .str (.aWS tI .bool))) [(aG (.aWS tI (.aWS .str (.aWS tI (.aWS .bool aF)))) 4 (.Z 2)),(aO (.aWS tI (.aWS .str (.aWS tI (.aWS .bool aF)))) 1 (.Z 2)),(aO (.aWS tI (.aWS .str (.aWS tI (.aWS .bool aF)))) 2 (.Z 2)),(aO (.aWS tI (.aWS .str (.aWS tI (.aWS .bool aF)))) 3 (.Z 2))]))) (
  .ret (aQ (.aWS aF (.aWS .str (.aWS tI .bool))) [(aG (.aWS tI (.aWS .str (.aWS tI (.aWS .bool aF)))) 4 (.Z 2)),(aO (.aWS tI (.aWS .str (.aWS tI (.aWS .bool aF)))) 1 (.Z 2)),(aO (.aWS tI (.aWS .str (.aWS tI (.aWS .bool aF)))) 2 (.Z 2)),(aO (.aWS tI (.aWS .str (.aWS tI (.aWS .bool aF)))) 3 (.Z 2))]))
theorem aBN:cW Tryz.prog [dL,bS] iH false 3000 ⟨[(2989,1002,fG 8 6++[.tm 5 0,.on 3,.bx 1 0,.bx 1 1,.bx 1 2,.sl 2])],[(2981,7005,[23],[])]⟩ = .ok nE:=by kernel_rfl
theorem aBP (x:(ByteArray) × (Int × Bool)) (hx:okD (.aWS .str (.aWS tI .bool)) x) (hp:(fun x=>lM x) x):nE.wp [dL,bS] [⟨(.aWS .str (.aWS tI .bool)),x⟩] [] (fun v=>v.as (.aWS aF (.aWS .str (.aWS tI .bool)))=(fun x=>iP x) x):=by
 have hp:lM x:=hp
 delta nE dL bS;refine jN ?_
 have h1:=aAC hp 0 20
 have hb:=aNO x 0 20
 refine ⟨hp,fun _=>?_⟩
 refine ⟨fun t=>∃ k:Nat,t.1=(k:Int)∧(k:Int)≤(fM x 0 20).1∧List.length t.2.2.2.2≤k∧lM (t.2.1,t.2.2.1,t.2.2.2.1)∧iP x=(t.2.2.2.2++(dG eB ((fM x 0 20).1.toNat - k) (t.2.1,t.2.2.1,t.2.2.2.1)).1,(dG eB ((fM x 0 20).1.toNat - k) (t.2.1,t.2.2.1,t.2.2.2.1)).2),fun t=>((fM x 0 20).1 - (t.1:Int)).toNat,⟨0,rfl,by omega,Nat.le_refl _,h1.1,rfl⟩,fun t _ hI=>?_⟩
 obtain ⟨i,s,p,b,acc⟩:Int × (ByteArray × (Int × (Bool × eT))):=t
 obtain ⟨k,rfl,hk,hl,hP,hv⟩:=hI
 dsimp only at hk hl hP hv ⊢
 generalize hn:(fM x 0 20).1=n at hb hk hv ⊢
 constructor
 ·intro hlt
  rw[decide_eq_true_eq] at hlt
  constructor
  ·intro hb2
   obtain rfl:b=false:=by simpa using hb2
   have hP2:=jJ hP
   obtain ⟨m,hm⟩:∃ m,n.toNat - k=m+1:=⟨n.toNat - k - 1,by omega⟩
   rw[hm,iT eB m rfl] at hv
   (refine gJ ?_;try with_reducible exact True.intro)
   (repeat' first|intro _|(with_reducible apply And.intro))
   all_goals first|omega|exact hP|(unfold maxLen;omega)|skip
   refine ⟨k+1,rfl,by omega,Nat.succ_le_succ hl,hP2.1,?_⟩
   rw[show n.toNat - (k+1)=m by omega,hv]
   simp
  ·intro hb2
   obtain rfl:b=true:=by simpa using hb2
   rw[iJ _ _ rfl] at hv
   rw[hv];simp
 ·intro hge
  rw[decide_eq_false_iff_not] at hge
  rw[show n.toNat - k=0 by omega] at hv
  rw[hv];simp[dG]
theorem aBJ:Con.Holds Tryz.prog iH:=aX bI (aR pS (aR iY aY)) aBN aBP
noncomputable def gI:Con:=⟨32,(.aWS .str (.aWS tI .bool)),(.aWS aB (.aWS .str (.aWS tI .bool))),[.box 68 ⟨true,(.aWS .str (.aWS tI .bool)),[]⟩],[⟨true,aB,[0,1,1,0,0,1,1,1,1,1,1,1,0,0]⟩],false,none,
 ((fun x=>lM x):((ByteArray) × (Int × Bool))→Prop),
 ((fun x=>eH x):((ByteArray) × (Int × Bool))→(bA × ((ByteArray) × (Int × Bool))))⟩
def lR:T:=.call 0 (.aWU (.aWS .str (.aWS tI .bool)) tI (.Z 0) (.ci .i64 8)) <|
 .aWT (.aWX 3 tI) (.aWU aA tI (.p1 aA (.aWS .str (.aWS tI .bool)) (.Z 1)) (.ci .i64 0)) <|
 .aWT (.aWX 3 tI) (.aWU aA tI (.p1 aA (.aWS .str (.aWS tI .bool)) (.Z 1)) (.ci .i64 0)) <|
 .aWT (.aWX 3 tI) (.aWU aA tI (.p1 aA (.aWS .str (.aWS tI .bool)) (.Z 1)) (.ci .i64 1)) <|
 .aWT (.aWX 3 tI) (.aWU aA tI (.p1 aA (.aWS .str (.aWS tI .bool)) (.Z 1)) (.ci .i64 1)) <|
 .aWT (.cmp .eql .i64) (.aWU tI tI (.Z 5) (.ci .i64 1)) <|
 .aWT (.aWX 3 tI) (.aWU aA tI (.p1 aA (.aWS .str (.aWS tI .bool)) (.Z 1)) (.ci .i64 2)) <|
 .aWT (.aWX 3 tI) (.aWU aA tI (.p1 aA (.aWS .str (.aWS tI .bool)) (.Z 1)) (.ci .i64 2)) <|
 .aWT (.cmp .eql .i64) (.aWU tI tI (.Z 8) (.ci .i64 1)) <|
 .aWT (.aWX 3 tI) (.aWU aA tI (.p1 aA (.aWS .str (.aWS tI .bool)) (.Z 1)) (.ci .i64 3)) <|
 .aWT (.aWX 3 tI) (.aWU aA tI (.p1 aA (.aWS .str (.aWS tI .bool)) (.Z 1)) (.ci .i64 3)) <|
 .aWT (.aWX 3 tI) (.aWU aA tI (.p1 aA (.aWS .str (.aWS tI .bool)) (.Z 1)) (.ci .i64 4)) <|
 .aWT (.aWX 3 tI) (.aWU aA tI (.p1 aA (.aWS .str (.aWS tI .bool)) (.Z 1)) (.ci .i64 4)) <|
 .aWT (.cmp .eql .i64) (.aWU tI tI (.Z 13) (.ci .i64 1)) <|
 .loop (.aWS tI (.aWS bD (.aWS .str (.aWS tI .bool)))) (aQ (.aWS tI (.aWS bD (.aWS .str (.aWS tI .bool)))) [(.ci .i64 0),(.nl 88 aJ),(aG (.aWS aA (.aWS .str (.aWS tI .bool))) 1 (.Z 1))]) <|
  .aWT (.aWX 3 tI) (.aWU aA tI (.p1 aA (.aWS .str (.aWS tI .bool)) (.Z 1)) (.ci .i64 5)) <|
  .aWT (.aWX 3 tI) (.aWU aA tI (.p1 aA (.aWS .str (.aWS tI .bool)) (.Z 1)) (.ci .i64 5)) <|
  .aWT (.cmp .lss .i64) (.aWU tI tI (.p1 tI (.aWS bD (.aWS .str (.aWS tI .bool))) (.Z 15)) (.Z 17)) <|
  .ite (.Z 18) (
   .aWT .not (aG (.aWS tI (.aWS bD (.aWS .str (.aWS tI .bool)))) 4 (.Z 15)) <|
   .ite (.Z 19) (
    .call 0 (.aWU (.aWS .str (.aWS tI .bool)) tI (aG (.aWS tI (.aWS bD (.aWS .str (.aWS tI .bool)))) 2 (.Z 15)) (.ci .i64 2)) <|
    .aWT (.aWX 3 tI) (.aWU aA tI (.p1 aA (.aWS .str (.aWS tI .bool)) (.Z 20)) (.ci .i64 0)) <|
    .aWT (.aWX 3 tI) (.aWU aA tI (.p1 aA (.aWS .str (.aWS tI .bool)) (.Z 20)) (.ci .i64 0)) <|
    .aWT (.aWX 3 tI) (.aWU aA tI (.p1 aA (.aWS .str (.aWS tI .bool)) (.Z 20)) (.ci .i64 1)) <|
    .aWT (.aWX 3 tI) (.aWU aA tI (.p1 aA (.aWS .str (.aWS tI .bool)) (.Z 20)) (.ci .i64 1)) <|
    .aWT (.lit 88 aJ 1) (.aWU tI tI (.Z 22) (.Z 24)) <|
    .aWT (.aWZ 88 aJ 16) (.aWU bD bD (aO (.aWS tI (.aWS bD (.aWS .str (.aWS tI .bool)))) 1 (.Z 15)) (.Z 25)) <|
    .aWT (.ar .add .i64) (.aWU tI tI (.p1 tI (.aWS bD (.aWS .str (.aWS tI .bool))) (.Z 15)) (.ci .i64 1)) <|
    .aWV 0 (aQ (.aWS tI (.aWS bD (.aWS .str (.aWS tI .bool)))) [(.Z 27),(.Z 26),(aG (.aWS aA (.aWS .str (.aWS tI .bool))) 1 (.Z 20))])) (
    .loop (.aWS tI (.aWS aK (.aWS .str (.aWS tI .bool)))) (aQ (.aWS tI (.aWS aK (.aWS .str (.aWS tI .bool)))) [(.ci .i64 0),(.nl 90 aZ),(aG (.aWS tI (.aWS bD (.aWS .str (.aWS tI .bool)))) 2 (.Z 15))]) <|
     .aWT (.aWX 3 tI) (.aWU aA tI (.p1 aA (.aWS .str (.aWS tI .bool)) (.Z 1)) (.ci .i64 6)) <|
     .aWT (.aWX 3 tI) (.aWU aA tI (.p1 aA (.aWS .str (.aWS tI .bool)) (.Z 1)) (.ci .i64 6)) <|
     .aWT (.cmp .lss .i64) (.aWU tI tI (.p1 tI (.aWS aK (.aWS .str (.aWS tI .bool))) (.Z 20)) (.Z 22)) <|
     .ite (.Z 23) (
      .aWT .not (aG (.aWS tI (.aWS aK (.aWS .str (.aWS tI .bool)))) 4 (.Z 20)) <|
      .ite (.Z 24) (
       .call 0 (.aWU (.aWS .str (.aWS tI .bool)) tI (aG (.aWS tI (.aWS aK (.aWS .str (.aWS tI .bool)))) 2 (.Z 20)) (.ci .i64 3)) <|
       .call 1 (aG (.aWS aA (.aWS .str (.aWS tI .bool))) 1 (.Z 25)) <|
       .aWT (.aWX 3 tI) (.aWU aA tI (.p1 aA (.aWS .str (.aWS tI .bool)) (.Z 25)) (.ci .i64 0)) <|
       .aWT (.aWX 3 tI) (.aWU aA tI (.p1 aA (.aWS .str (.aWS tI .bool)) (.Z 25)) (.ci .i64 0)) <|
       .aWT (.aWX 3 tI) (.aWU aA tI (.p1 aA (.aWS .str (.aWS tI .bool)) (.Z 25)) (.ci .i64 1)) <|
       .aWT (.aWX 3 tI) (.aWU aA tI (.p1 aA (.aWS .str (.aWS tI .bool)) (.Z 25)) (.ci .i64 1)) <|
       .aWT (.aWX 3 tI) (.aWU aA tI (.p1 aA (.aWS .str (.aWS tI .bool)) (.Z 25)) (.ci .i64 2)) <|
       .aWT (.aWX 3 tI) (.aWU aA tI (.p1 aA (.aWS .str (.aWS tI .bool)) (.Z 25)) (.ci .i64 2)) <|
       .aWT (.lit 90 aZ 1) (aQ aZ [(.Z 28),(.Z 30),(.Z 32),(.p1 aA (.aWS .str (.aWS tI .bool)) (.Z 26))]) <|
       .aWT (.aWZ 90 aZ 48) (.aWU aK aK (aO (.aWS tI (.aWS aK (.aWS .str (.aWS tI .bool)))) 1 (.Z 20)) (.Z 33)) <|
       .aWT (.ar .add .i64) (.aWU tI tI (.p1 tI (.aWS aK (.aWS .str (.aWS tI .bool))) (.Z 20)) (.ci .i64 1)) <|
       .aWV 0 (aQ (.aWS tI (.aWS aK (.aWS .str (.aWS tI .bool)))) [(.Z 35),(.Z 34),(aG (.aWS aA (.aWS .str (.aWS tI .bool))) 1 (.Z 26))])) (
       .loop (.aWS tI (.aWS (.slice 94 aD) (.aWS .str (.aWS tI .bool)))) (aQ (.aWS tI (.aWS (.slice 94 aD) (.aWS .str (.aWS tI .bool)))) [(.ci .i64 0),(.nl 94 aD),(aG (.aWS tI (.aWS aK (.aWS .str (.aWS tI .bool)))) 2 (.Z 20))]) <|
        .aWT (.aWX 3 tI) (.aWU aA tI (.p1 aA (.aWS .str (.aWS tI .bool)) (.Z 1)) (.ci .i64 7)) <|
        .aWT (.aWX 3 tI) (.aWU aA tI (.p1 aA (.aWS .str (.aWS tI .bool)) (.Z 1)) (.ci .i64 7)) <|
        .aWT (.cmp .lss .i64) (.aWU tI tI (.p1 tI (.aWS (.slice 94 aD) (.aWS .str (.aWS tI .bool))) (.Z 25)) (.Z 27)) <|
        .ite (.Z 28) (
         .aWT .not (aG (.aWS tI (.aWS (.slice 94 aD) (.aWS .str (.aWS tI .bool)))) 4 (.Z 25)) <|
         .ite (.Z 29) (
          .call 0 (.aWU (.aWS .str (.aWS tI .bool)) tI (aG (.aWS tI (.aWS (.slice 94 aD) (.aWS .str (.aWS tI .bool)))) 2 (.Z 25)) (.ci .i64 1)) <|
          .call 2 (aG (.aWS aA (.aWS .str (.aWS tI .bool))) 1 (.Z 30)) <|
          .aWT (.aWX 3 tI) (.aWU aA tI (.p1 aA (.aWS .str (.aWS tI .bool)) (.Z 30)) (.ci .i64 0)) <|
          .aWT (.aWX 3 tI) (.aWU aA tI (.p1 aA (.aWS .str (.aWS tI .bool)) (.Z 30)) (.ci .i64 0)) <|
          .aWT (.lit 94 aD 1) (.aWU tI aF (.Z 33) (.p1 aF (.aWS .str (.aWS tI .bool)) (.Z 31))) <|
          .aWT (.aWZ 94 aD 32) (.aWU (.slice 94 aD) (.slice 94 aD) (aO (.aWS tI (.aWS (.slice 94 aD) (.aWS .str (.aWS tI .bool)))) 1 (.Z 25)) (.Z 34)) <|
          .aWT (.ar .add .i64) (.aWU tI tI (.p1 tI (.aWS (.slice 94 aD) (.aWS .str (.aWS tI .bool))) (.Z 25)) (.ci .i64 1)) <|
          .aWV 0 (aQ (.aWS tI (.aWS (.slice 94 aD) (.aWS .str (.aWS tI .bool)))) [(.Z 36),(.Z 35),(aG (.aWS aF (.aWS .str (.aWS tI .bool))) 1 (.Z 31))])) (
          .call 2 (aG (.aWS tI (.aWS (.slice 94 aD) (.aWS .str (.aWS tI .bool)))) 2 (.Z 25)) <|
          .call 1 (aG (.aWS aF (.aWS .str (.aWS tI .bool))) 1 (.Z 30)) <|
          .call 1 (aG (.aWS aA (.aWS .str (.aWS tI .bool))) 1 (.Z 31)) <|
          .call 1 (aG (.aWS aA (.aWS .str (.aWS tI .bool))) 1 (.Z 32)) <|
          .call 1 (aG (.aWS aA (.aWS .str (.aWS tI .bool))) 1 (.Z 33)) <|
          .call 2 (aG (.aWS aA (.aWS .str (.aWS tI .bool))) 1 (.Z 34)) <|
          .ret (.aWU aB (.aWS .str (.aWS tI .bool)) (aQ aB [(.Z 3),(aO (.aWS tI (.aWS bD (.aWS .str (.aWS tI .bool)))) 1 (.Z 15)),(aO (.aWS tI (.aWS aK (.aWS .str (.aWS tI .bool)))) 1 (.Z 20)),(.Z 6),(.Z 9),(aO (.aWS tI (.aWS (.slice 94 aD) (.aWS .str (.aWS tI .bool)))) 1 (.Z 25)),(.p1 aF (.aWS .str (.aWS tI .bool)) (.Z 30)),(.p1 aA (.aWS .str (.aWS tI .bool)) (.Z 31)),(.p1 aA (.aWS .str (.aWS tI .bool)) (.Z 32)),(.p1 aA (.aWS .str (.aWS tI .bool)) (.Z 33)),(.p1 aA (.aWS .str (.aWS tI .bool)) (.Z 34)),(.p1 aF (.aWS .str (.aWS tI .bool)) (.Z 35)),(.Z 11),(.Z 14)]) (aG (.aWS aF (.aWS .str (.aWS tI .bool))) 1 (.Z 35))))) (
         .call 2 (aG (.aWS tI (.aWS (.slice 94 aD) (.aWS .str (.aWS tI .bool)))) 2 (.Z 25)) <|
         .call 1 (aG (.aWS aF (.aWS .str (.aWS tI .bool))) 1 (.Z 29)) <|
         .call 1 (aG (.aWS aA (.aWS .str (.aWS tI .bool))) 1 (.Z 30)) <|
         .call 1 (aG (.aWS aA (.aWS .str (.aWS tI .bool))) 1 (.Z 31)) <|
         .call 1 (aG (.aWS aA (.aWS .str (.aWS tI .bool))) 1 (.Z 32)) <|
         .call 2 (aG (.aWS aA (.aWS .str (.aWS tI .bool))) 1 (.Z 33)) <|
         .ret (.aWU aB (.aWS .str (.aWS tI .bool)) (aQ aB [(.Z 3),(aO (.aWS tI (.aWS bD (.aWS .str (.aWS tI .bool)))) 1 (.Z 15)),(aO (.aWS tI (.aWS aK (.aWS .str (.aWS tI .bool)))) 1 (.Z 20)),(.Z 6),(.Z 9),(aO (.aWS tI (.aWS (.slice 94 aD) (.aWS .str (.aWS tI .bool)))) 1 (.Z 25)),(.p1 aF (.aWS .str (.aWS tI .bool)) (.Z 29)),(.p1 aA (.aWS .str (.aWS tI .bool)) (.Z 30)),(.p1 aA (.aWS .str (.aWS tI .bool)) (.Z 31)),(.p1 aA (.aWS .str (.aWS tI .bool)) (.Z 32)),(.p1 aA (.aWS .str (.aWS tI .bool)) (.Z 33)),(.p1 aF (.aWS .str (.aWS tI .bool)) (.Z 34)),(.Z 11),(.Z 14)]) (aG (.aWS aF (.aWS .str (.aWS tI .bool))) 1 (.Z 34)))))) (
      .loop (.aWS tI (.aWS (.slice 94 aD) (.aWS .str (.aWS tI .bool)))) (aQ (.aWS tI (.aWS (.slice 94 aD) (.aWS .str (.aWS tI .bool)))) [(.ci .i64 0),(.nl 94 aD),(aG (.aWS tI (.aWS aK (.aWS .str (.aWS tI .bool)))) 2 (.Z 20))]) <|
       .aWT (.aWX 3 tI) (.aWU aA tI (.p1 aA (.aWS .str (.aWS tI .bool)) (.Z 1)) (.ci .i64 7)) <|
       .aWT (.aWX 3 tI) (.aWU aA tI (.p1 aA (.aWS .str (.aWS tI .bool)) (.Z 1)) (.ci .i64 7)) <|
       .aWT (.cmp .lss .i64) (.aWU tI tI (.p1 tI (.aWS (.slice 94 aD) (.aWS .str (.aWS tI .bool))) (.Z 24)) (.Z 26)) <|
       .ite (.Z 27) (
        .aWT .not (aG (.aWS tI (.aWS (.slice 94 aD) (.aWS .str (.aWS tI .bool)))) 4 (.Z 24)) <|
        .ite (.Z 28) (
         .call 0 (.aWU (.aWS .str (.aWS tI .bool)) tI (aG (.aWS tI (.aWS (.slice 94 aD) (.aWS .str (.aWS tI .bool)))) 2 (.Z 24)) (.ci .i64 1)) <|
         .call 2 (aG (.aWS aA (.aWS .str (.aWS tI .bool))) 1 (.Z 29)) <|
         .aWT (.aWX 3 tI) (.aWU aA tI (.p1 aA (.aWS .str (.aWS tI .bool)) (.Z 29)) (.ci .i64 0)) <|
         .aWT (.aWX 3 tI) (.aWU aA tI (.p1 aA (.aWS .str (.aWS tI .bool)) (.Z 29)) (.ci .i64 0)) <|
         .aWT (.lit 94 aD 1) (.aWU tI aF (.Z 32) (.p1 aF (.aWS .str (.aWS tI .bool)) (.Z 30))) <|
         .aWT (.aWZ 94 aD 32) (.aWU (.slice 94 aD) (.slice 94 aD) (aO (.aWS tI (.aWS (.slice 94 aD) (.aWS .str (.aWS tI .bool)))) 1 (.Z 24)) (.Z 33)) <|
         .aWT (.ar .add .i64) (.aWU tI tI (.p1 tI (.aWS (.slice 94 aD) (.aWS .str (.aWS tI .bool))) (.Z 24)) (.ci .i64 1)) <|
         .aWV 0 (aQ (.aWS tI (.aWS (.slice 94 aD) (.aWS .str (.aWS tI .bool)))) [(.Z 35),(.Z 34),(aG (.aWS aF (.aWS .str (.aWS tI .bool))) 1 (.Z 30))])) (
         .call 2 (aG (.aWS tI (.aWS (.slice 94 aD) (.aWS .str (.aWS tI .bool)))) 2 (.Z 24)) <|
         .call 1 (aG (.aWS aF (.aWS .str (.aWS tI .bool))) 1 (.Z 29)) <|
         .call 1 (aG (.aWS aA (.aWS .str (.aWS tI .bool))) 1 (.Z 30)) <|
         .call 1 (aG (.aWS aA (.aWS .str (.aWS tI .bool))) 1 (.Z 31)) <|
         .call 1 (aG (.aWS aA (.aWS .str (.aWS tI .bool))) 1 (.Z 32)) <|
         .call 2 (aG (.aWS aA (.aWS .str (.aWS tI .bool))) 1 (.Z 33)) <|
         .ret (.aWU aB (.aWS .str (.aWS tI .bool)) (aQ aB [(.Z 3),(aO (.aWS tI (.aWS bD (.aWS .str (.aWS tI .bool)))) 1 (.Z 15)),(aO (.aWS tI (.aWS aK (.aWS .str (.aWS tI .bool)))) 1 (.Z 20)),(.Z 6),(.Z 9),(aO (.aWS tI (.aWS (.slice 94 aD) (.aWS .str (.aWS tI .bool)))) 1 (.Z 24)),(.p1 aF (.aWS .str (.aWS tI .bool)) (.Z 29)),(.p1 aA (.aWS .str (.aWS tI .bool)) (.Z 30)),(.p1 aA (.aWS .str (.aWS tI .bool)) (.Z 31)),(.p1 aA (.aWS .str (.aWS tI .bool)) (.Z 32)),(.p1 aA (.aWS .str (.aWS tI .bool)) (.Z 33)),(.p1 aF (.aWS .str (.aWS tI .bool)) (.Z 34)),(.Z 11),(.Z 14)]) (aG (.aWS aF (.aWS .str (.aWS tI .bool))) 1 (.Z 34))))) (
        .call 2 (aG (.aWS tI (.aWS (.slice 94 aD) (.aWS .str (.aWS tI .bool)))) 2 (.Z 24)) <|
        .call 1 (aG (.aWS aF (.aWS .str (.aWS tI .bool))) 1 (.Z 28)) <|
        .call 1 (aG (.aWS aA (.aWS .str (.aWS tI .bool))) 1 (.Z 29)) <|
        .call 1 (aG (.aWS aA (.aWS .str (.aWS tI .bool))) 1 (.Z 30)) <|
        .call 1 (aG (.aWS aA (.aWS .str (.aWS tI .bool))) 1 (.Z 31)) <|
        .call 2 (aG (.aWS aA (.aWS .str (.aWS tI .bool))) 1 (.Z 32)) <|
        .ret (.aWU aB (.aWS .str (.aWS tI .bool)) (aQ aB [(.Z 3),(aO (.aWS tI (.aWS bD (.aWS .str (.aWS tI .bool)))) 1 (.Z 15)),(aO (.aWS tI (.aWS aK (.aWS .str (.aWS tI .bool)))) 1 (.Z 20)),(.Z 6),(.Z 9),(aO (.aWS tI (.aWS (.slice 94 aD) (.aWS .str (.aWS tI .bool)))) 1 (.Z 24)),(.p1 aF (.aWS .str (.aWS tI .bool)) (.Z 28)),(.p1 aA (.aWS .str (.aWS tI .bool)) (.Z 29)),(.p1 aA (.aWS .str (.aWS tI .bool)) (.Z 30)),(.p1 aA (.aWS .str (.aWS tI .bool)) (.Z 31)),(.p1 aA (.aWS .str (.aWS tI .bool)) (.Z 32)),(.p1 aF (.aWS .str (.aWS tI .bool)) (.Z 33)),(.Z 11),(.Z 14)]) (aG (.aWS aF (.aWS .str (.aWS tI .bool))) 1 (.Z 33))))))) (
   .loop (.aWS tI (.aWS aK (.aWS .str (.aWS tI .bool)))) (aQ (.aWS tI (.aWS aK (.aWS .str (.aWS tI .bool)))) [(.ci .i64 0),(.nl 90 aZ),(aG (.aWS tI (.aWS bD (.aWS .str (.aWS tI .bool)))) 2 (.Z 15))]) <|
    .aWT (.aWX 3 tI) (.aWU aA tI (.p1 aA (.aWS .str (.aWS tI .bool)) (.Z 1)) (.ci .i64 6)) <|
    .aWT (.aWX 3 tI) (.aWU aA tI (.p1 aA (.aWS .str (.aWS tI .bool)) (.Z 1)) (.ci .i64 6)) <|
    .aWT (.cmp .lss .i64) (.aWU tI tI (.p1 tI (.aWS aK (.aWS .str (.aWS tI .bool))) (.Z 19)) (.Z 21)) <|
    .ite (.Z 22) (
     .aWT .not (aG (.aWS tI (.aWS aK (.aWS .str (.aWS tI .bool)))) 4 (.Z 19)) <|
     .ite (.Z 23) (
      .call 0 (.aWU (.aWS .str (.aWS tI .bool)) tI (aG (.aWS tI (.aWS aK (.aWS .str (.aWS tI .bool)))) 2 (.Z 19)) (.ci .i64 3)) <|
      .call 1 (aG (.aWS aA (.aWS .str (.aWS tI .bool))) 1 (.Z 24)) <|
      .aWT (.aWX 3 tI) (.aWU aA tI (.p1 aA (.aWS .str (.aWS tI .bool)) (.Z 24)) (.ci .i64 0)) <|
      .aWT (.aWX 3 tI) (.aWU aA tI (.p1 aA (.aWS .str (.aWS tI .bool)) (.Z 24)) (.ci .i64 0)) <|
      .aWT (.aWX 3 tI) (.aWU aA tI (.p1 aA (.aWS .str (.aWS tI .bool)) (.Z 24)) (.ci .i64 1)) <|
      .aWT (.aWX 3 tI) (.aWU aA tI (.p1 aA (.aWS .str (.aWS tI .bool)) (.Z 24)) (.ci .i64 1)) <|
      .aWT (.aWX 3 tI) (.aWU aA tI (.p1 aA (.aWS .str (.aWS tI .bool)) (.Z 24)) (.ci .i64 2)) <|
      .aWT (.aWX 3 tI) (.aWU aA tI (.p1 aA (.aWS .str (.aWS tI .bool)) (.Z 24)) (.ci .i64 2)) <|
      .aWT (.lit 90 aZ 1) (aQ aZ [(.Z 27),(.Z 29),(.Z 31),(.p1 aA (.aWS .str (.aWS tI .bool)) (.Z 25))]) <|
      .aWT (.aWZ 90 aZ 48) (.aWU aK aK (aO (.aWS tI (.aWS aK (.aWS .str (.aWS tI .bool)))) 1 (.Z 19)) (.Z 32)) <|
      .aWT (.ar .add .i64) (.aWU tI tI (.p1 tI (.aWS aK (.aWS .str (.aWS tI .bool))) (.Z 19)) (.ci .i64 1)) <|
      .aWV 0 (aQ (.aWS tI (.aWS aK (.aWS .str (.aWS tI .bool)))) [(.Z 34),(.Z 33),(aG (.aWS aA (.aWS .str (.aWS tI .bool))) 1 (.Z 25))])) (
      .loop (.aWS tI (.aWS (.slice 94 aD) (.aWS .str (.aWS tI .bool)))) (aQ (.aWS tI (.aWS (.slice 94 aD) (.aWS .str (.aWS tI .bool)))) [(.ci .i64 0),(.nl 94 aD),(aG (.aWS tI (.aWS aK (.aWS .str (.aWS tI .bool)))) 2 (.Z 19))]) <|
       .aWT (.aWX 3 tI) (.aWU aA tI (.p1 aA (.aWS .str (.aWS tI .bool)) (.Z 1)) (.ci .i64 7)) <|
       .aWT (.aWX 3 tI) (.aWU aA tI (.p1 aA (.aWS .str (.aWS tI .bool)) (.Z 1)) (.ci .i64 7)) <|
       .aWT (.cmp .lss .i64) (.aWU tI tI (.p1 tI (.aWS (.slice 94 aD) (.aWS .str (.aWS tI .bool))) (.Z 24)) (.Z 26)) <|
       .ite (.Z 27) (
        .aWT .not (aG (.aWS tI (.aWS (.slice 94 aD) (.aWS .str (.aWS tI .bool)))) 4 (.Z 24)) <|
        .ite (.Z 28) (
         .call 0 (.aWU (.aWS .str (.aWS tI .bool)) tI (aG (.aWS tI (.aWS (.slice 94 aD) (.aWS .str (.aWS tI .bool)))) 2 (.Z 24)) (.ci .i64 1)) <|
         .call 2 (aG (.aWS aA (.aWS .str (.aWS tI .bool))) 1 (.Z 29)) <|
         .aWT (.aWX 3 tI) (.aWU aA tI (.p1 aA (.aWS .str (.aWS tI .bool)) (.Z 29)) (.ci .i64 0)) <|
         .aWT (.aWX 3 tI) (.aWU aA tI (.p1 aA (.aWS .str (.aWS tI .bool)) (.Z 29)) (.ci .i64 0)) <|
         .aWT (.lit 94 aD 1) (.aWU tI aF (.Z 32) (.p1 aF (.aWS .str (.aWS tI .bool)) (.Z 30))) <|
         .aWT (.aWZ 94 aD 32) (.aWU (.slice 94 aD) (.slice 94 aD) (aO (.aWS tI (.aWS (.slice 94 aD) (.aWS .str (.aWS tI .bool)))) 1 (.Z 24)) (.Z 33)) <|
         .aWT (.ar .add .i64) (.aWU tI tI (.p1 tI (.aWS (.slice 94 aD) (.aWS .str (.aWS tI .bool))) (.Z 24)) (.ci .i64 1)) <|
         .aWV 0 (aQ (.aWS tI (.aWS (.slice 94 aD) (.aWS .str (.aWS tI .bool)))) [(.Z 35),(.Z 34),(aG (.aWS aF (.aWS .str (.aWS tI .bool))) 1 (.Z 30))])) (
         .call 2 (aG (.aWS tI (.aWS (.slice 94 aD) (.aWS .str (.aWS tI .bool)))) 2 (.Z 24)) <|
         .call 1 (aG (.aWS aF (.aWS .str (.aWS tI .bool))) 1 (.Z 29)) <|
         .call 1 (aG (.aWS aA (.aWS .str (.aWS tI .bool))) 1 (.Z 30)) <|
         .call 1 (aG (.aWS aA (.aWS .str (.aWS tI .bool))) 1 (.Z 31)) <|
         .call 1 (aG (.aWS aA (.aWS .str (.aWS tI .bool))) 1 (.Z 32)) <|
         .call 2 (aG (.aWS aA (.aWS .str (.aWS tI .bool))) 1 (.Z 33)) <|
         .ret (.aWU aB (.aWS .str (.aWS tI .bool)) (aQ aB [(.Z 3),(aO (.aWS tI (.aWS bD (.aWS .str (.aWS tI .bool)))) 1 (.Z 15)),(aO (.aWS tI (.aWS aK (.aWS .str (.aWS tI .bool)))) 1 (.Z 19)),(.Z 6),(.Z 9),(aO (.aWS tI (.aWS (.slice 94 aD) (.aWS .str (.aWS tI .bool)))) 1 (.Z 24)),(.p1 aF (.aWS .str (.aWS tI .bool)) (.Z 29)),(.p1 aA (.aWS .str (.aWS tI .bool)) (.Z 30)),(.p1 aA (.aWS .str (.aWS tI .bool)) (.Z 31)),(.p1 aA (.aWS .str (.aWS tI .bool)) (.Z 32)),(.p1 aA (.aWS .str (.aWS tI .bool)) (.Z 33)),(.p1 aF (.aWS .str (.aWS tI .bool)) (.Z 34)),(.Z 11),(.Z 14)]) (aG (.aWS aF (.aWS .str (.aWS tI .bool))) 1 (.Z 34))))) (
        .call 2 (aG (.aWS tI (.aWS (.slice 94 aD) (.aWS .str (.aWS tI .bool)))) 2 (.Z 24)) <|
        .call 1 (aG (.aWS aF (.aWS .str (.aWS tI .bool))) 1 (.Z 28)) <|
        .call 1 (aG (.aWS aA (.aWS .str (.aWS tI .bool))) 1 (.Z 29)) <|
        .call 1 (aG (.aWS aA (.aWS .str (.aWS tI .bool))) 1 (.Z 30)) <|
        .call 1 (aG (.aWS aA (.aWS .str (.aWS tI .bool))) 1 (.Z 31)) <|
        .call 2 (aG (.aWS aA (.aWS .str (.aWS tI .bool))) 1 (.Z 32)) <|
        .ret (.aWU aB (.aWS .str (.aWS tI .bool)) (aQ aB [(.Z 3),(aO (.aWS tI (.aWS bD (.aWS .str (.aWS tI .bool)))) 1 (.Z 15)),(aO (.aWS tI (.aWS aK (.aWS .str (.aWS tI .bool)))) 1 (.Z 19)),(.Z 6),(.Z 9),(aO (.aWS tI (.aWS (.slice 94 aD) (.aWS .str (.aWS tI .bool)))) 1 (.Z 24)),(.p1 aF (.aWS .str (.aWS tI .bool)) (.Z 28)),(.p1 aA (.aWS .str (.aWS tI .bool)) (.Z 29)),(.p1 aA (.aWS .str (.aWS tI .bool)) (.Z 30)),(.p1 aA (.aWS .str (.aWS tI .bool)) (.Z 31)),(.p1 aA (.aWS .str (.aWS tI .bool)) (.Z 32)),(.p1 aF (.aWS .str (.aWS tI .bool)) (.Z 33)),(.Z 11),(.Z 14)]) (aG (.aWS aF (.aWS .str (.aWS tI .bool))) 1 (.Z 33)))))) (
     .loop (.aWS tI (.aWS (.slice 94 aD) (.aWS .str (.aWS tI .bool)))) (aQ (.aWS tI (.aWS (.slice 94 aD) (.aWS .str (.aWS tI .bool)))) [(.ci .i64 0),(.nl 94 aD),(aG (.aWS tI (.aWS aK (.aWS .str (.aWS tI .bool)))) 2 (.Z 19))]) <|
      .aWT (.aWX 3 tI) (.aWU aA tI (.p1 aA (.aWS .str (.aWS tI .bool)) (.Z 1)) (.ci .i64 7)) <|
      .aWT (.aWX 3 tI) (.aWU aA tI (.p1 aA (.aWS .str (.aWS tI .bool)) (.Z 1)) (.ci .i64 7)) <|
      .aWT (.cmp .lss .i64) (.aWU tI tI (.p1 tI (.aWS (.slice 94 aD) (.aWS .str (.aWS tI .bool))) (.Z 23)) (.Z 25)) <|
      .ite (.Z 26) (
       .aWT .not (aG (.aWS tI (.aWS (.slice 94 aD) (.aWS .str (.aWS tI .bool)))) 4 (.Z 23)) <|
       .ite (.Z 27) (
        .call 0 (.aWU (.aWS .str (.aWS tI .bool)) tI (aG (.aWS tI (.aWS (.slice 94 aD) (.aWS .str (.aWS tI .bool)))) 2 (.Z 23)) (.ci .i64 1)) <|
        .call 2 (aG (.aWS aA (.aWS .str (.aWS tI .bool))) 1 (.Z 28)) <|
        .aWT (.aWX 3 tI) (.aWU aA tI (.p1 aA (.aWS .str (.aWS tI .bool)) (.Z 28)) (.ci .i64 0)) <|
        .aWT (.aWX 3 tI) (.aWU aA tI (.p1 aA (.aWS .str (.aWS tI .bool)) (.Z 28)) (.ci .i64 0)) <|
        .aWT (.lit 94 aD 1) (.aWU tI aF (.Z 31) (.p1 aF (.aWS .str (.aWS tI .bool)) (.Z 29))) <|
        .aWT (.aWZ 94 aD 32) (.aWU (.slice 94 aD) (.slice 94 aD) (aO (.aWS tI (.aWS (.slice 94 aD) (.aWS .str (.aWS tI .bool)))) 1 (.Z 23)) (.Z 32)) <|
        .aWT (.ar .add .i64) (.aWU tI tI (.p1 tI (.aWS (.slice 94 aD) (.aWS .str (.aWS tI .bool))) (.Z 23)) (.ci .i64 1)) <|
        .aWV 0 (aQ (.aWS tI (.aWS (.slice 94 aD) (.aWS .str (.aWS tI .bool)))) [(.Z 34),(.Z 33),(aG (.aWS aF (.aWS .str (.aWS tI .bool))) 1 (.Z 29))])) (
        .call 2 (aG (.aWS tI (.aWS (.slice 94 aD) (.aWS .str (.aWS tI .bool)))) 2 (.Z 23)) <|
        .call 1 (aG (.aWS aF (.aWS .str (.aWS tI .bool))) 1 (.Z 28)) <|
        .call 1 (aG (.aWS aA (.aWS .str (.aWS tI .bool))) 1 (.Z 29)) <|
        .call 1 (aG (.aWS aA (.aWS .str (.aWS tI .bool))) 1 (.Z 30)) <|
        .call 1 (aG (.aWS aA (.aWS .str (.aWS tI .bool))) 1 (.Z 31)) <|
        .call 2 (aG (.aWS aA (.aWS .str (.aWS tI .bool))) 1 (.Z 32)) <|
        .ret (.aWU aB (.aWS .str (.aWS tI .bool)) (aQ aB [(.Z 3),(aO (.aWS tI (.aWS bD (.aWS .str (.aWS tI .bool)))) 1 (.Z 15)),(aO (.aWS tI (.aWS aK (.aWS .str (.aWS tI .bool)))) 1 (.Z 19)),(.Z 6),(.Z 9),(aO (.aWS tI (.aWS (.slice 94 aD) (.aWS .str (.aWS tI .bool)))) 1 (.Z 23)),(.p1 aF (.aWS .str (.aWS tI .bool)) (.Z 28)),(.p1 aA (.aWS .str (.aWS tI .bool)) (.Z 29)),(.p1 aA (.aWS .str (.aWS tI .bool)) (.Z 30)),(.p1 aA (.aWS .str (.aWS tI .bool)) (.Z 31)),(.p1 aA (.aWS .str (.aWS tI .bool)) (.Z 32)),(.p1 aF (.aWS .str (.aWS tI .bool)) (.Z 33)),(.Z 11),(.Z 14)]) (aG (.aWS aF (.aWS .str (.aWS tI .bool))) 1 (.Z 33))))) (
       .call 2 (aG (.aWS tI (.aWS (.slice 94 aD) (.aWS .str (.aWS tI .bool)))) 2 (.Z 23)) <|
       .call 1 (aG (.aWS aF (.aWS .str (.aWS tI .bool))) 1 (.Z 27)) <|
       .call 1 (aG (.aWS aA (.aWS .str (.aWS tI .bool))) 1 (.Z 28)) <|
       .call 1 (aG (.aWS aA (.aWS .str (.aWS tI .bool))) 1 (.Z 29)) <|
       .call 1 (aG (.aWS aA (.aWS .str (.aWS tI .bool))) 1 (.Z 30)) <|
       .call 2 (aG (.aWS aA (.aWS .str (.aWS tI .bool))) 1 (.Z 31)) <|
       .ret (.aWU aB (.aWS .str (.aWS tI .bool)) (aQ aB [(.Z 3),(aO (.aWS tI (.aWS bD (.aWS .str (.aWS tI .bool)))) 1 (.Z 15)),(aO (.aWS tI (.aWS aK (.aWS .str (.aWS tI .bool)))) 1 (.Z 19)),(.Z 6),(.Z 9),(aO (.aWS tI (.aWS (.slice 94 aD) (.aWS .str (.aWS tI .bool)))) 1 (.Z 23)),(.p1 aF (.aWS .str (.aWS tI .bool)) (.Z 27)),(.p1 aA (.aWS .str (.aWS tI .bool)) (.Z 28)),(.p1 aA (.aWS .str (.aWS tI .bool)) (.Z 29)),(.p1 aA (.aWS .str (.aWS tI .bool)) (.Z 30)),(.p1 aA (.aWS .str (.aWS tI .bool)) (.Z 31)),(.p1 aF (.aWS .str (.aWS tI .bool)) (.Z 32)),(.Z 11),(.Z 14)]) (aG (.aWS aF (.aWS .str (.aWS tI .bool))) 1 (.Z 32))))))
theorem zN:cW Tryz.prog [cN,bS,iH] gI false 3000 ⟨[(2985,1015,fG 37 23++fG 21 19++[.dr 17,.dr 16,.dr 22,.dr 18]++fG 15 13++[.tm 5 0,.sl 23,.bx 1 0,.bx 1 1,.bx 1 2]),(2975,5020,fG 49 38++[.dr 5,.tm 7 0,.sl 24,.bx 1 0,.bx 1 1,.bx 1 2]),(2965,21025,fG 77 66++[.dr 7,.tm 10 0,.sl 25,.bx 1 0,.bx 1 1,.bx 1 2]),(2965,9024,fG 77 66++[.dr 7,.tm 10 0,.sl 25,.bx 1 0,.bx 1 1,.bx 1 2]),(2975,2019,fG 49 38++[.dr 5,.tm 7 0,.sl 24,.bx 1 0,.bx 1 1,.bx 1 2]),(2965,10024,fG 77 66++[.dr 7,.tm 10 0,.sl 25,.bx 1 0,.bx 1 1,.bx 1 2]),(2965,4023,fG 77 66++[.dr 7,.tm 10 0,.sl 25,.bx 1 0,.bx 1 1,.bx 1 2])],[(2963,29027,[],[33]),(2953,117032,[],[33]),(2953,57031,[],[33]),(2963,14026,[],[33]),(2953,58031,[],[33]),(2953,28030,[],[33])]⟩ = .ok lR:=by kernel_rfl
set_option maxHeartbeats 4000000 in
theorem aAN (x:(ByteArray) × (Int × Bool)) (hx:okD (.aWS .str (.aWS tI .bool)) x) (hp:(fun x=>lM x) x):lR.wp [cN,bS,iH] [⟨(.aWS .str (.aWS tI .bool)),x⟩] [] (fun v=>v.as (.aWS aB (.aWS .str (.aWS tI .bool)))=(fun x=>eH x) x):=by
 have hp:lM x:=hp
 delta lR cN bS iH;refine jN ?_
 have h8:=lU (r:=x) (show 0≤(8:Int) by decide)
 have hP:=jF 8 hp
 have n5:=rA (r:=x) (n:=8) (i:=5)
 have n6:=rA (r:=x) (n:=8) (i:=6)
 have n7:=rA (r:=x) (n:=8) (i:=7)
 have hv0:eH x=K1 (bP x 8).1 [] (dG aAJ ((bP x 8).1.getD 5 0).toNat (bP x 8).2):=rfl
 simp only[dzx,Int.reduceToNat]
 generalize (bP x 8).1=H at *
 generalize (bP x 8).2=r0 at *
 (repeat' first|intro _|(with_reducible apply And.intro))
 all_goals first|omega|exact hp|skip
 have z5:H.getD 5 (aV tI)=H.getD 5 0:=rfl
 have z6:H.getD 6 (aV tI)=H.getD 6 0:=rfl
 have z7:H.getD 7 (aV tI)=H.getD 7 0:=rfl
 rw[z5,z6,z7]
 refine ⟨fun t=>∃ k:Nat,t.1=(k:Int)∧(t.2.1:List jR).length=k∧(k:Int)≤max 0 (H.getD 5 0)∧lM t.2.2∧eH x=K1 H t.2.1 (dG aAJ ((H.getD 5 0).toNat - k) t.2.2),fun t=>(H.getD 5 0 - (t.1:Int)).toNat,⟨0,rfl,rfl,by omega,hP.1,hv0⟩,fun t _ hI=>?_⟩
 obtain ⟨i,a1,r1⟩:Int × (List jR × fA):=t
 obtain ⟨k1,rfl,hl,hk,hPr1,hvr1⟩:=hI
 dsimp only at hl hk hPr1 hvr1 ⊢
 refine ⟨by omega,fun _=>⟨by omega,fun _=>⟨fun hlt=>⟨fun hb=>?_,fun hb=>?_⟩,fun hge=>?_⟩⟩⟩
 ·obtain ⟨m,hm⟩:∃ m,(H.getD 5 0).toNat - k1=m+1:=⟨(H.getD 5 0).toNat - k1 - 1,by omega⟩
  rw[hm,iT aAJ m hb] at hvr1
  have hs1:=lU (r:=r1) (show 0≤(2:Int) by decide)
  have hp1:=jF 2 hPr1
  (repeat' first|intro _|(with_reducible apply And.intro))
  all_goals first|omega|exact hPr1|exact hp1.1|(unfold maxLen;omega)|skip
  refine ⟨k1+1,rfl,by (first|omega|(simp only[List.length_append,List.length_cons,List.length_nil];omega)),by omega,(aRV hPr1).1,?_⟩
  rw[show (H.getD 5 0).toNat - (k1+1)=m by omega,hvr1]
  show K1 H a1 ((aAJ r1).1 :: _,_)=K1 H (a1++[(aAJ r1).1]) _
  unfold K1;simp only[List.append_assoc,List.singleton_append];rfl
 all_goals
  have hwr1:eH x=K2 H a1 [] (dG opF (H.getD 6 0).toNat r1):=by
   first|rw[iJ aAJ _ hb] at hvr1|rw[show (H.getD 5 0).toNat - k1=0 by omega] at hvr1
   rw[hvr1];unfold K1;simp only[List.append_nil,dG]
  clear hvr1
  refine ⟨fun t=>∃ k:Nat,t.1=(k:Int)∧(t.2.1:List jT).length=k∧(k:Int)≤max 0 (H.getD 6 0)∧lM t.2.2∧eH x=K2 H a1 t.2.1 (dG opF ((H.getD 6 0).toNat - k) t.2.2),fun t=>(H.getD 6 0 - (t.1:Int)).toNat,⟨0,rfl,rfl,by omega,hPr1,hwr1⟩,fun t _ hI=>?_⟩
  obtain ⟨i,a2,r2⟩:Int × (List jT × fA):=t
  obtain ⟨k2,rfl,hl,hk,hPr2,hvr2⟩:=hI
  dsimp only at hl hk hPr2 hvr2 ⊢
  refine ⟨by omega,fun _=>⟨by omega,fun _=>⟨fun hlt=>⟨fun hb=>?_,fun hb=>?_⟩,fun hge=>?_⟩⟩⟩
  ·obtain ⟨m,hm⟩:∃ m,(H.getD 6 0).toNat - k2=m+1:=⟨(H.getD 6 0).toNat - k2 - 1,by omega⟩
   rw[hm,iT opF m hb] at hvr2
   have hs1:=lU (r:=r2) (show 0≤(3:Int) by decide)
   have hp1:=jF 3 hPr2
   (repeat' first|intro _|(with_reducible apply And.intro))
   all_goals first|omega|exact hPr2|exact hp1.1|(unfold maxLen;omega)|skip
   refine ⟨k2+1,rfl,by (first|omega|(simp only[List.length_append,List.length_cons,List.length_nil];omega)),by omega,(aV7 hPr2).1,?_⟩
   rw[show (H.getD 6 0).toNat - (k2+1)=m by omega,hvr2]
   show K2 H a1 a2 ((opF r2).1 :: _,_)=K2 H a1 (a2++[(opF r2).1]) _
   unfold K2;simp only[List.append_assoc,List.singleton_append];rfl
  all_goals
   have hwr2:eH x=K3 H a1 a2 [] (dG aA2 (H.getD 7 0).toNat r2):=by
    first|rw[iJ opF _ hb] at hvr2|rw[show (H.getD 6 0).toNat - k2=0 by omega] at hvr2
    rw[hvr2];unfold K2;simp only[List.append_nil,dG]
   clear hvr2
   refine ⟨fun t=>∃ k:Nat,t.1=(k:Int)∧(t.2.1:List fO).length=k∧(k:Int)≤max 0 (H.getD 7 0)∧lM t.2.2∧eH x=K3 H a1 a2 t.2.1 (dG aA2 ((H.getD 7 0).toNat - k) t.2.2),fun t=>(H.getD 7 0 - (t.1:Int)).toNat,⟨0,rfl,rfl,by omega,hPr2,hwr2⟩,fun t _ hI=>?_⟩
   obtain ⟨i,a3,r3⟩:Int × (List fO × fA):=t
   obtain ⟨k3,rfl,hl,hk,hPr3,hvr3⟩:=hI
   dsimp only at hl hk hPr3 hvr3 ⊢
   refine ⟨by omega,fun _=>⟨by omega,fun _=>⟨fun hlt=>⟨fun hb=>?_,fun hb=>?_⟩,fun hge=>?_⟩⟩⟩
   ·obtain ⟨m,hm⟩:∃ m,(H.getD 7 0).toNat - k3=m+1:=⟨(H.getD 7 0).toNat - k3 - 1,by omega⟩
    rw[hm,iT aA2 m hb] at hvr3
    have hs1:=lU (r:=r3) (show 0≤(1:Int) by decide)
    have hp1:=jF 1 hPr3
    (repeat' first|intro _|(with_reducible apply And.intro))
    all_goals first|omega|exact hPr3|exact hp1.1|(unfold maxLen;omega)|skip
    refine ⟨k3+1,rfl,by (first|omega|(simp only[List.length_append,List.length_cons,List.length_nil];omega)),by omega,(aT7 hPr3).1,?_⟩
    rw[show (H.getD 7 0).toNat - (k3+1)=m by omega,hvr3]
    show K3 H a1 a2 a3 ((aA2 r3).1 :: _,_)=K3 H a1 a2 (a3++[(aA2 r3).1]) _
    unfold K3;simp only[List.append_assoc,List.singleton_append];rfl
   all_goals
    have hwr3:eH x=aTR H a1 a2 a3 r3:=by
     first|rw[iJ aA2 _ hb] at hvr3|rw[show (H.getD 7 0).toNat - k3=0 by omega] at hvr3
     rw[hvr3];unfold K3;simp only[List.append_nil,dG]
    clear hvr3
    have p1:=aBT hPr3
    have p2:=jJ p1.1
    have p3:=jJ p2.1
    have p4:=jJ p3.1
    have p5:=jJ p4.1
    (repeat' first|intro _|(with_reducible apply And.intro))
    all_goals first|exact hPr3|exact p1.1|exact p2.1|exact p3.1|exact p4.1|exact p5.1|(rw[hwr3];rfl)
set_option maxHeartbeats 4000000 in
theorem aA3:Con.Holds Tryz.prog gI:=aX bI (aR nK (aR iY (aR aBJ aY))) zN aAN
end Go.Proofs.YtlabadaccldkaaaGreat
