/- Read6: lemmas. No conditions. -/
import Derived.Test.YtdeobhdbmehpgaaGreatParse5
namespace Go.Proofs.YtdeobhdbmehpgaaGreat
set_option maxRecDepth 100000
open Go.ChangeShapes Go.WideShapes Go.ChangeAt Go.RowKit Go.Deep
set_option linter.unusedVariables false
set_option linter.unusedSimpArgs false
theorem aMF:(k:Nat)→(r:kG)→∀ v∈(jM k r).1,-1000000000000≤v∧v≤1000000000000
 | 0,r,v,h=>by cases h
 | k+1,r,v,h=>by
  cases hb:r.2.2 with
  | true=>rw[lQ _ hb] at h;cases h
  | false =>
   rw[aBX _ hb] at h
   rcases List.mem_cons.1 h with rfl|h
   ·have:=aR1 r (-1000000000000) 1000000000000;omega
   ·exact aMF k _ v h
theorem aHI {r:kG} {n:Int} {i:Nat}:-1000000000000≤(dL r n).1.getD i 0∧(dL r n).1.getD i 0≤1000000000000:=by
 by_cases h:i<(dL r n).1.length
 ·rw[bE h]
  have hm:=List.getElem_mem h
  generalize (dL r n).1[i]=v at hm
  unfold dL at hm
  split at hm
  ·exact aMF _ _ _ hm
  ·rw[List.eq_of_mem_replicate hm];omega
 ·rw[List.getD_eq_getElem?_getD,List.getElem?_eq_none (by omega)];exact ⟨by decide,by decide⟩
theorem aAO {α:Type} {f:kG→α × kG} (hf:∀ r,rQ r→rQ (f r).2∧(f r).2.1=r.1):(k:Nat)→{r:kG}→rQ r→rQ (gE f k r).2∧(gE f k r).2.1=r.1
 | 0,r,h=>⟨h,rfl⟩
 | k+1,r,h=>by
  cases hb:r.2.2 with
  | true=>rw[rX _ _ hb];exact ⟨h,rfl⟩
  | false =>
   rw[sC _ _ hb]
   have h1:=hf r h
   have h2:=aAO hf k h1.1
   exact ⟨h2.1,h2.2.trans h1.2⟩
theorem aF2 {r:kG} (h:rQ r):rQ (lJ r).2∧(lJ r).2.1=r.1:=by
 have h1:=aCA h 0 20
 have h2:=aAO (f:=gT) (fun r h=>nQ h) (gR r 0 20).1.toNat h1.1
 exact ⟨h2.1,h2.2.trans h1.2⟩
theorem bAK {r:kG} (h:rQ r):rQ (aGA r).2∧(aGA r).2.1=r.1:=qG 2 h
theorem bCM {r:kG} (h:rQ r):rQ (opF r).2∧(opF r).2.1=r.1:=by
 have h1:=qG 3 h
 have h2:=nQ h1.1
 exact ⟨h2.1,h2.2.trans h1.2⟩
theorem aXL {r:kG} (h:rQ r):rQ (aGO r).2∧(aGO r).2.1=r.1:=by
 have h1:=qG 1 h
 have h2:=aF2 h1.1
 exact ⟨h2.1,h2.2.trans h1.2⟩
noncomputable def gY:Con:=⟨67,(.bEL (.bEL .str (.bEL tI .bool)) tI),(.bEL aA (.bEL .str (.bEL tI .bool))),[.box 61 ⟨true,(.bEL .str (.bEL tI .bool)),[]⟩,.val ⟨false,tI,[]⟩],[⟨false,aA,[2]⟩],false,none,
 ((fun x=>rQ x.1∧0≤x.2∧x.2≤100):(((ByteArray) × (Int × Bool)) × Int)→Prop),
 ((fun x=>dL x.1 x.2):(((ByteArray) × (Int × Bool)) × Int)→(aW × ((ByteArray) × (Int × Bool))))⟩
def nL:T:=.call 0 (.p1 (.bEL .str (.bEL tI .bool)) tI (.Z 0)) <|
 .bEM (.bEP 3 tI) (.p1 aA (.bEL .str (.bEL tI .bool)) (.Z 1)) <|
 .bEM (.cmp .neq .i64) (.bEN tI tI (.Z 2) (aN (.bEL (.bEL .str (.bEL tI .bool)) tI) 1 (.Z 0))) <|
 .ite (.Z 3) (
  .bEM (.rep 3 tI 8) (aN (.bEL (.bEL .str (.bEL tI .bool)) tI) 1 (.Z 0)) <|
  .ret (aY (.bEL aA (.bEL .str (.bEL tI .bool))) [(.Z 4),(aI (.bEL aA (.bEL .str (.bEL tI .bool))) 1 (.Z 1)),(aI (.bEL aA (.bEL .str (.bEL tI .bool))) 2 (.Z 1)),(.cb true)])) (
  .ret (.Z 1))
theorem aEF:bJ Tryz.prog [cB] gY false 3000 ⟨[],[]⟩ = .ok nL:=by kernel_rfl
theorem aE7 (x:((ByteArray) × (Int × Bool)) × Int) (hx:okD (.bEL (.bEL .str (.bEL tI .bool)) tI) x) (hp:(fun x=>rQ x.1∧0≤x.2∧x.2≤100) x):nL.wp [cB] [⟨(.bEL (.bEL .str (.bEL tI .bool)) tI),x⟩] [] (fun v=>v.as (.bEL aA (.bEL .str (.bEL tI .bool)))=(fun x=>dL x.1 x.2) x):=by
 obtain ⟨r,n⟩:=x
 obtain ⟨h1,h2,h3⟩:rQ r∧0≤n∧n≤100:=hp
 delta nL cB;refine eE ?_
 refine fJ ?_
 refine ⟨h1,fun _ _=>⟨fun h=>?_,fun h=>?_⟩⟩
 ·(repeat' first|intro _|(with_reducible apply And.intro))
  all_goals first|omega|skip
  unfold dL;rw[if_neg h];rfl
 ·unfold dL;rw[if_pos h]
theorem aEH:Con.Holds Tryz.prog gY:=aQ aR (aG kW aO) aEF aE7
noncomputable def gZ:Con:=⟨68,(.bEL .str (.bEL tI .bool)),(.bEL aE (.bEL .str (.bEL tI .bool))),[.box 61 ⟨true,(.bEL .str (.bEL tI .bool)),[]⟩],[⟨false,aE,[2]⟩],false,none,
 ((fun x=>rQ x):((ByteArray) × (Int × Bool))→Prop),
 ((fun x=>lJ x):((ByteArray) × (Int × Bool))→(bX × ((ByteArray) × (Int × Bool))))⟩
def nI:T:=.call 0 (aY (.bEL (.bEL .str (.bEL tI .bool)) aD) [(.Z 0),(.ci .i64 0),(.ci .i64 20)]) <|.loop (.bEL tI (.bEL .str (.bEL tI (.bEL .bool aE)))) (aY (.bEL tI (.bEL .str (.bEL tI (.bEL .bool aE)))) [(.ci .i64 0),(aI (.bEL tI (.bEL .str (.bEL tI .bool))) 1 (.Z 1)),(aI (.bEL tI (.bEL .str (.bEL tI .bool))) 2 (.Z 1)),(aN (.bEL tI (.bEL .str (.bEL tI .bool))) 3 (.Z 1)),(.nl 112 aA)]) <|
 .bEM (.cmp .lss .i64) (.bEN tI tI (.p1 tI (.bEL .str (.bEL tI (.bEL .bool aE))) (.Z 2)) (.p1 tI (.bEL .str (.bEL tI .bool)) (.Z 1))) <|
 .ite (.Z 3) (
  .bEM .not (aI (.bEL tI (.bEL .str (.bEL tI (.bEL .bool aE)))) 3 (.Z 2)) <|
  .ite (.Z 4) (
   .call 1 (aY (.bEL .str (.bEL tI .bool)) [(aI (.bEL tI (.bEL .str (.bEL tI (.bEL .bool aE)))) 1 (.Z 2)),(aI (.bEL tI (.bEL .str (.bEL tI (.bEL .bool aE)))) 2 (.Z 2)),(aI (.bEL tI (.bEL .str (.bEL tI (.bEL .bool aE)))) 3 (.Z 2))]) <|
   .bEM (.lit 112 aA 1) (.p1 aA (.bEL .str (.bEL tI .bool)) (.Z 5)) <|
   .bEM (.bES 112 aA 24) (.bEN aE aE (aN (.bEL tI (.bEL .str (.bEL tI (.bEL .bool aE)))) 4 (.Z 2)) (.Z 6)) <|
   .bEM (.ar .add .i64) (.bEN tI tI (.p1 tI (.bEL .str (.bEL tI (.bEL .bool aE))) (.Z 2)) (.ci .i64 1)) <|
   .bEO 0 (aY (.bEL tI (.bEL .str (.bEL tI (.bEL .bool aE)))) [(.Z 8),(aI (.bEL aA (.bEL .str (.bEL tI .bool))) 1 (.Z 5)),(aI (.bEL aA (.bEL .str (.bEL tI .bool))) 2 (.Z 5)),(aN (.bEL aA (.bEL .str (.bEL tI .bool))) 3 (.Z 5)),(.Z 7)])) (
   .ret (aY (.bEL aE (.bEL .str (.bEL tI .bool))) [(aN (.bEL tI (.bEL .str (.bEL tI (.bEL .bool aE)))) 4 (.Z 2)),(aI (.bEL tI (.bEL .str (.bEL tI (.bEL .bool aE)))) 1 (.Z 2)),(aI (.bEL tI (.bEL .str (.bEL tI (.bEL .bool aE)))) 2 (.Z 2)),(aI (.bEL tI (.bEL .str (.bEL tI (.bEL .bool aE)))) 3 (.Z 2))]))) (
  .ret (aY (.bEL aE (.bEL .str (.bEL tI .bool))) [(aN (.bEL tI (.bEL .str (.bEL tI (.bEL .bool aE)))) 4 (.Z 2)),(aI (.bEL tI (.bEL .str (.bEL tI (.bEL .bool aE)))) 1 (.Z 2)),(aI (.bEL tI (.bEL .str (.bEL tI (.bEL .bool aE)))) 2 (.Z 2)),(aI (.bEL tI (.bEL .str (.bEL tI (.bEL .bool aE)))) 3 (.Z 2))]))
theorem aEI:bJ Tryz.prog [cW,cB] gZ false 3000 ⟨[(2989,1002,jT 8 6++[.tm 5 0,.on 3,.bx 1 0,.bx 1 1,.bx 1 2,.sl 2])],[(2981,7005,[23],[])]⟩ = .ok nI:=by kernel_rfl
theorem aEQ (x:(ByteArray) × (Int × Bool)) (hx:okD (.bEL .str (.bEL tI .bool)) x) (hp:(fun x=>rQ x) x):nI.wp [cW,cB] [⟨(.bEL .str (.bEL tI .bool)),x⟩] [] (fun v=>v.as (.bEL aE (.bEL .str (.bEL tI .bool)))=(fun x=>lJ x) x):=by
 have hp:rQ x:=hp
 delta nI cW cB;refine eE ?_
 have h1:=aCA hp 0 20
 have hb:=aR1 x 0 20
 refine ⟨hp,fun _=>?_⟩
 refine ⟨fun t=>∃ k:Nat,t.1=(k:Int)∧(k:Int)≤(gR x 0 20).1∧List.length t.2.2.2.2≤k∧rQ (t.2.1,t.2.2.1,t.2.2.2.1)∧lJ x=(t.2.2.2.2++(gE gT ((gR x 0 20).1.toNat - k) (t.2.1,t.2.2.1,t.2.2.2.1)).1,(gE gT ((gR x 0 20).1.toNat - k) (t.2.1,t.2.2.1,t.2.2.2.1)).2),fun t=>((gR x 0 20).1 - (t.1:Int)).toNat,⟨0,rfl,by omega,Nat.le_refl _,h1.1,rfl⟩,fun t _ hI=>?_⟩
 obtain ⟨i,s,p,b,acc⟩:Int × (ByteArray × (Int × (Bool × bX))):=t
 obtain ⟨k,rfl,hk,hl,hP,hv⟩:=hI
 dsimp only at hk hl hP hv ⊢
 generalize hn:(gR x 0 20).1=n at hb hk hv ⊢
 constructor
 ·intro hlt
  rw[decide_eq_true_eq] at hlt
  constructor
  ·intro hb2
   obtain rfl:b=false:=by simpa using hb2
   have hP2:=nQ hP
   obtain ⟨m,hm⟩:∃ m,n.toNat - k=m+1:=⟨n.toNat - k - 1,by omega⟩
   rw[hm,sC gT m rfl] at hv
   (refine fJ ?_;try with_reducible exact True.intro)
   (repeat' first|intro _|(with_reducible apply And.intro))
   all_goals first|omega|exact hP|(unfold maxLen;omega)|skip
   refine ⟨k+1,rfl,by omega,Nat.succ_le_succ hl,hP2.1,?_⟩
   rw[show n.toNat - (k+1)=m by omega,hv]
   simp
  ·intro hb2
   obtain rfl:b=true:=by simpa using hb2
   rw[rX _ _ rfl] at hv
   rw[hv];simp
 ·intro hge
  rw[decide_eq_false_iff_not] at hge
  rw[show n.toNat - k=0 by omega] at hv
  rw[hv];simp[gE]
theorem aEG:Con.Holds Tryz.prog gZ:=aQ aR (aG qQ (aG kW aO)) aEI aEQ
noncomputable def gK:Con:=⟨38,(.bEL .str (.bEL tI .bool)),(.bEL aB (.bEL .str (.bEL tI .bool))),[.box 61 ⟨true,(.bEL .str (.bEL tI .bool)),[]⟩],[⟨true,aB,[0,1,1,0,0,1,1,1,1,1,1,1,0,0]⟩],false,none,
 ((fun x=>rQ x):((ByteArray) × (Int × Bool))→Prop),
 ((fun x=>fE x):((ByteArray) × (Int × Bool))→(aM × ((ByteArray) × (Int × Bool))))⟩
def lT:T:=.call 0 (.bEN (.bEL .str (.bEL tI .bool)) tI (.Z 0) (.ci .i64 8)) <|
 .bEM (.bEQ 3 tI) (.bEN aA tI (.p1 aA (.bEL .str (.bEL tI .bool)) (.Z 1)) (.ci .i64 0)) <|
 .bEM (.bEQ 3 tI) (.bEN aA tI (.p1 aA (.bEL .str (.bEL tI .bool)) (.Z 1)) (.ci .i64 0)) <|
 .bEM (.bEQ 3 tI) (.bEN aA tI (.p1 aA (.bEL .str (.bEL tI .bool)) (.Z 1)) (.ci .i64 1)) <|
 .bEM (.bEQ 3 tI) (.bEN aA tI (.p1 aA (.bEL .str (.bEL tI .bool)) (.Z 1)) (.ci .i64 1)) <|
 .bEM (.cmp .eql .i64) (.bEN tI tI (.Z 5) (.ci .i64 1)) <|
 .bEM (.bEQ 3 tI) (.bEN aA tI (.p1 aA (.bEL .str (.bEL tI .bool)) (.Z 1)) (.ci .i64 2)) <|
 .bEM (.bEQ 3 tI) (.bEN aA tI (.p1 aA (.bEL .str (.bEL tI .bool)) (.Z 1)) (.ci .i64 2)) <|
 .bEM (.cmp .eql .i64) (.bEN tI tI (.Z 8) (.ci .i64 1)) <|
 .bEM (.bEQ 3 tI) (.bEN aA tI (.p1 aA (.bEL .str (.bEL tI .bool)) (.Z 1)) (.ci .i64 3)) <|
 .bEM (.bEQ 3 tI) (.bEN aA tI (.p1 aA (.bEL .str (.bEL tI .bool)) (.Z 1)) (.ci .i64 3)) <|
 .bEM (.bEQ 3 tI) (.bEN aA tI (.p1 aA (.bEL .str (.bEL tI .bool)) (.Z 1)) (.ci .i64 4)) <|
 .bEM (.bEQ 3 tI) (.bEN aA tI (.p1 aA (.bEL .str (.bEL tI .bool)) (.Z 1)) (.ci .i64 4)) <|
 .bEM (.cmp .eql .i64) (.bEN tI tI (.Z 13) (.ci .i64 1)) <|
 .loop (.bEL tI (.bEL aL (.bEL .str (.bEL tI .bool)))) (aY (.bEL tI (.bEL aL (.bEL .str (.bEL tI .bool)))) [(.ci .i64 0),(.nl 76 aD),(aN (.bEL aA (.bEL .str (.bEL tI .bool))) 1 (.Z 1))]) <|
  .bEM (.bEQ 3 tI) (.bEN aA tI (.p1 aA (.bEL .str (.bEL tI .bool)) (.Z 1)) (.ci .i64 5)) <|
  .bEM (.bEQ 3 tI) (.bEN aA tI (.p1 aA (.bEL .str (.bEL tI .bool)) (.Z 1)) (.ci .i64 5)) <|
  .bEM (.cmp .lss .i64) (.bEN tI tI (.p1 tI (.bEL aL (.bEL .str (.bEL tI .bool))) (.Z 15)) (.Z 17)) <|
  .ite (.Z 18) (
   .bEM .not (aN (.bEL tI (.bEL aL (.bEL .str (.bEL tI .bool)))) 4 (.Z 15)) <|
   .ite (.Z 19) (
    .call 0 (.bEN (.bEL .str (.bEL tI .bool)) tI (aN (.bEL tI (.bEL aL (.bEL .str (.bEL tI .bool)))) 2 (.Z 15)) (.ci .i64 2)) <|
    .bEM (.bEQ 3 tI) (.bEN aA tI (.p1 aA (.bEL .str (.bEL tI .bool)) (.Z 20)) (.ci .i64 0)) <|
    .bEM (.bEQ 3 tI) (.bEN aA tI (.p1 aA (.bEL .str (.bEL tI .bool)) (.Z 20)) (.ci .i64 0)) <|
    .bEM (.bEQ 3 tI) (.bEN aA tI (.p1 aA (.bEL .str (.bEL tI .bool)) (.Z 20)) (.ci .i64 1)) <|
    .bEM (.bEQ 3 tI) (.bEN aA tI (.p1 aA (.bEL .str (.bEL tI .bool)) (.Z 20)) (.ci .i64 1)) <|
    .bEM (.lit 76 aD 1) (.bEN tI tI (.Z 22) (.Z 24)) <|
    .bEM (.bES 76 aD 16) (.bEN aL aL (aI (.bEL tI (.bEL aL (.bEL .str (.bEL tI .bool)))) 1 (.Z 15)) (.Z 25)) <|
    .bEM (.ar .add .i64) (.bEN tI tI (.p1 tI (.bEL aL (.bEL .str (.bEL tI .bool))) (.Z 15)) (.ci .i64 1)) <|
    .bEO 0 (aY (.bEL tI (.bEL aL (.bEL .str (.bEL tI .bool)))) [(.Z 27),(.Z 26),(aN (.bEL aA (.bEL .str (.bEL tI .bool))) 1 (.Z 20))])) (
    .loop (.bEL tI (.bEL aF (.bEL .str (.bEL tI .bool)))) (aY (.bEL tI (.bEL aF (.bEL .str (.bEL tI .bool)))) [(.ci .i64 0),(.nl 78 bC),(aN (.bEL tI (.bEL aL (.bEL .str (.bEL tI .bool)))) 2 (.Z 15))]) <|
     .bEM (.bEQ 3 tI) (.bEN aA tI (.p1 aA (.bEL .str (.bEL tI .bool)) (.Z 1)) (.ci .i64 6)) <|
     .bEM (.bEQ 3 tI) (.bEN aA tI (.p1 aA (.bEL .str (.bEL tI .bool)) (.Z 1)) (.ci .i64 6)) <|
     .bEM (.cmp .lss .i64) (.bEN tI tI (.p1 tI (.bEL aF (.bEL .str (.bEL tI .bool))) (.Z 20)) (.Z 22)) <|
     .ite (.Z 23) (
      .bEM .not (aN (.bEL tI (.bEL aF (.bEL .str (.bEL tI .bool)))) 4 (.Z 20)) <|
      .ite (.Z 24) (
       .call 0 (.bEN (.bEL .str (.bEL tI .bool)) tI (aN (.bEL tI (.bEL aF (.bEL .str (.bEL tI .bool)))) 2 (.Z 20)) (.ci .i64 3)) <|
       .call 1 (aN (.bEL aA (.bEL .str (.bEL tI .bool))) 1 (.Z 25)) <|
       .bEM (.bEQ 3 tI) (.bEN aA tI (.p1 aA (.bEL .str (.bEL tI .bool)) (.Z 25)) (.ci .i64 0)) <|
       .bEM (.bEQ 3 tI) (.bEN aA tI (.p1 aA (.bEL .str (.bEL tI .bool)) (.Z 25)) (.ci .i64 0)) <|
       .bEM (.bEQ 3 tI) (.bEN aA tI (.p1 aA (.bEL .str (.bEL tI .bool)) (.Z 25)) (.ci .i64 1)) <|
       .bEM (.bEQ 3 tI) (.bEN aA tI (.p1 aA (.bEL .str (.bEL tI .bool)) (.Z 25)) (.ci .i64 1)) <|
       .bEM (.bEQ 3 tI) (.bEN aA tI (.p1 aA (.bEL .str (.bEL tI .bool)) (.Z 25)) (.ci .i64 2)) <|
       .bEM (.bEQ 3 tI) (.bEN aA tI (.p1 aA (.bEL .str (.bEL tI .bool)) (.Z 25)) (.ci .i64 2)) <|
       .bEM (.lit 78 bC 1) (aY bC [(.Z 28),(.Z 30),(.Z 32),(.p1 aA (.bEL .str (.bEL tI .bool)) (.Z 26))]) <|
       .bEM (.bES 78 bC 48) (.bEN aF aF (aI (.bEL tI (.bEL aF (.bEL .str (.bEL tI .bool)))) 1 (.Z 20)) (.Z 33)) <|
       .bEM (.ar .add .i64) (.bEN tI tI (.p1 tI (.bEL aF (.bEL .str (.bEL tI .bool))) (.Z 20)) (.ci .i64 1)) <|
       .bEO 0 (aY (.bEL tI (.bEL aF (.bEL .str (.bEL tI .bool)))) [(.Z 35),(.Z 34),(aN (.bEL aA (.bEL .str (.bEL tI .bool))) 1 (.Z 26))])) (
       .loop (.bEL tI (.bEL (.slice 80 aC) (.bEL .str (.bEL tI .bool)))) (aY (.bEL tI (.bEL (.slice 80 aC) (.bEL .str (.bEL tI .bool)))) [(.ci .i64 0),(.nl 80 aC),(aN (.bEL tI (.bEL aF (.bEL .str (.bEL tI .bool)))) 2 (.Z 20))]) <|
        .bEM (.bEQ 3 tI) (.bEN aA tI (.p1 aA (.bEL .str (.bEL tI .bool)) (.Z 1)) (.ci .i64 7)) <|
        .bEM (.bEQ 3 tI) (.bEN aA tI (.p1 aA (.bEL .str (.bEL tI .bool)) (.Z 1)) (.ci .i64 7)) <|
        .bEM (.cmp .lss .i64) (.bEN tI tI (.p1 tI (.bEL (.slice 80 aC) (.bEL .str (.bEL tI .bool))) (.Z 25)) (.Z 27)) <|
        .ite (.Z 28) (
         .bEM .not (aN (.bEL tI (.bEL (.slice 80 aC) (.bEL .str (.bEL tI .bool)))) 4 (.Z 25)) <|
         .ite (.Z 29) (
          .call 0 (.bEN (.bEL .str (.bEL tI .bool)) tI (aN (.bEL tI (.bEL (.slice 80 aC) (.bEL .str (.bEL tI .bool)))) 2 (.Z 25)) (.ci .i64 1)) <|
          .call 2 (aN (.bEL aA (.bEL .str (.bEL tI .bool))) 1 (.Z 30)) <|
          .bEM (.bEQ 3 tI) (.bEN aA tI (.p1 aA (.bEL .str (.bEL tI .bool)) (.Z 30)) (.ci .i64 0)) <|
          .bEM (.bEQ 3 tI) (.bEN aA tI (.p1 aA (.bEL .str (.bEL tI .bool)) (.Z 30)) (.ci .i64 0)) <|
          .bEM (.lit 80 aC 1) (.bEN tI aE (.Z 33) (.p1 aE (.bEL .str (.bEL tI .bool)) (.Z 31))) <|
          .bEM (.bES 80 aC 32) (.bEN (.slice 80 aC) (.slice 80 aC) (aI (.bEL tI (.bEL (.slice 80 aC) (.bEL .str (.bEL tI .bool)))) 1 (.Z 25)) (.Z 34)) <|
          .bEM (.ar .add .i64) (.bEN tI tI (.p1 tI (.bEL (.slice 80 aC) (.bEL .str (.bEL tI .bool))) (.Z 25)) (.ci .i64 1)) <|
          .bEO 0 (aY (.bEL tI (.bEL (.slice 80 aC) (.bEL .str (.bEL tI .bool)))) [(.Z 36),(.Z 35),(aN (.bEL aE (.bEL .str (.bEL tI .bool))) 1 (.Z 31))])) (
          .call 2 (aN (.bEL tI (.bEL (.slice 80 aC) (.bEL .str (.bEL tI .bool)))) 2 (.Z 25)) <|
          .call 1 (aN (.bEL aE (.bEL .str (.bEL tI .bool))) 1 (.Z 30)) <|
          .call 1 (aN (.bEL aA (.bEL .str (.bEL tI .bool))) 1 (.Z 31)) <|
          .call 1 (aN (.bEL aA (.bEL .str (.bEL tI .bool))) 1 (.Z 32)) <|
          .call 1 (aN (.bEL aA (.bEL .str (.bEL tI .bool))) 1 (.Z 33)) <|
          .call 2 (aN (.bEL aA (.bEL .str (.bEL tI .bool))) 1 (.Z 34)) <|
          .ret (.bEN aB (.bEL .str (.bEL tI .bool)) (aY aB [(.Z 3),(aI (.bEL tI (.bEL aL (.bEL .str (.bEL tI .bool)))) 1 (.Z 15)),(aI (.bEL tI (.bEL aF (.bEL .str (.bEL tI .bool)))) 1 (.Z 20)),(.Z 6),(.Z 9),(aI (.bEL tI (.bEL (.slice 80 aC) (.bEL .str (.bEL tI .bool)))) 1 (.Z 25)),(.p1 aE (.bEL .str (.bEL tI .bool)) (.Z 30)),(.p1 aA (.bEL .str (.bEL tI .bool)) (.Z 31)),(.p1 aA (.bEL .str (.bEL tI .bool)) (.Z 32)),(.p1 aA (.bEL .str (.bEL tI .bool)) (.Z 33)),(.p1 aA (.bEL .str (.bEL tI .bool)) (.Z 34)),(.p1 aE (.bEL .str (.bEL tI .bool)) (.Z 35)),(.Z 11),(.Z 14)]) (aN (.bEL aE (.bEL .str (.bEL tI .bool))) 1 (.Z 35))))) (
         .call 2 (aN (.bEL tI (.bEL (.slice 80 aC) (.bEL .str (.bEL tI .bool)))) 2 (.Z 25)) <|
         .call 1 (aN (.bEL aE (.bEL .str (.bEL tI .bool))) 1 (.Z 29)) <|
         .call 1 (aN (.bEL aA (.bEL .str (.bEL tI .bool))) 1 (.Z 30)) <|
         .call 1 (aN (.bEL aA (.bEL .str (.bEL tI .bool))) 1 (.Z 31)) <|
         .call 1 (aN (.bEL aA (.bEL .str (.bEL tI .bool))) 1 (.Z 32)) <|
         .call 2 (aN (.bEL aA (.bEL .str (.bEL tI .bool))) 1 (.Z 33)) <|
         .ret (.bEN aB (.bEL .str (.bEL tI .bool)) (aY aB [(.Z 3),(aI (.bEL tI (.bEL aL (.bEL .str (.bEL tI .bool)))) 1 (.Z 15)),(aI (.bEL tI (.bEL aF (.bEL .str (.bEL tI .bool)))) 1 (.Z 20)),(.Z 6),(.Z 9),(aI (.bEL tI (.bEL (.slice 80 aC) (.bEL .str (.bEL tI .bool)))) 1 (.Z 25)),(.p1 aE (.bEL .str (.bEL tI .bool)) (.Z 29)),(.p1 aA (.bEL .str (.bEL tI .bool)) (.Z 30)),(.p1 aA (.bEL .str (.bEL tI .bool)) (.Z 31)),(.p1 aA (.bEL .str (.bEL tI .bool)) (.Z 32)),(.p1 aA (.bEL .str (.bEL tI .bool)) (.Z 33)),(.p1 aE (.bEL .str (.bEL tI .bool)) (.Z 34)),(.Z 11),(.Z 14)]) (aN (.bEL aE (.bEL .str (.bEL tI .bool))) 1 (.Z 34)))))) (
      .loop (.bEL tI (.bEL (.slice 80 aC) (.bEL .str (.bEL tI .bool)))) (aY (.bEL tI (.bEL (.slice 80 aC) (.bEL .str (.bEL tI .bool)))) [(.ci .i64 0),(.nl 80 aC),(aN (.bEL tI (.bEL aF (.bEL .str (.bEL tI .bool)))) 2 (.Z 20))]) <|
       .bEM (.bEQ 3 tI) (.bEN aA tI (.p1 aA (.bEL .str (.bEL tI .bool)) (.Z 1)) (.ci .i64 7)) <|
       .bEM (.bEQ 3 tI) (.bEN aA tI (.p1 aA (.bEL .str (.bEL tI .bool)) (.Z 1)) (.ci .i64 7)) <|
       .bEM (.cmp .lss .i64) (.bEN tI tI (.p1 tI (.bEL (.slice 80 aC) (.bEL .str (.bEL tI .bool))) (.Z 24)) (.Z 26)) <|
       .ite (.Z 27) (
        .bEM .not (aN (.bEL tI (.bEL (.slice 80 aC) (.bEL .str (.bEL tI .bool)))) 4 (.Z 24)) <|
        .ite (.Z 28) (
         .call 0 (.bEN (.bEL .str (.bEL tI .bool)) tI (aN (.bEL tI (.bEL (.slice 80 aC) (.bEL .str (.bEL tI .bool)))) 2 (.Z 24)) (.ci .i64 1)) <|
         .call 2 (aN (.bEL aA (.bEL .str (.bEL tI .bool))) 1 (.Z 29)) <|
         .bEM (.bEQ 3 tI) (.bEN aA tI (.p1 aA (.bEL .str (.bEL tI .bool)) (.Z 29)) (.ci .i64 0)) <|
         .bEM (.bEQ 3 tI) (.bEN aA tI (.p1 aA (.bEL .str (.bEL tI .bool)) (.Z 29)) (.ci .i64 0)) <|
         .bEM (.lit 80 aC 1) (.bEN tI aE (.Z 32) (.p1 aE (.bEL .str (.bEL tI .bool)) (.Z 30))) <|
         .bEM (.bES 80 aC 32) (.bEN (.slice 80 aC) (.slice 80 aC) (aI (.bEL tI (.bEL (.slice 80 aC) (.bEL .str (.bEL tI .bool)))) 1 (.Z 24)) (.Z 33)) <|
         .bEM (.ar .add .i64) (.bEN tI tI (.p1 tI (.bEL (.slice 80 aC) (.bEL .str (.bEL tI .bool))) (.Z 24)) (.ci .i64 1)) <|
         .bEO 0 (aY (.bEL tI (.bEL (.slice 80 aC) (.bEL .str (.bEL tI .bool)))) [(.Z 35),(.Z 34),(aN (.bEL aE (.bEL .str (.bEL tI .bool))) 1 (.Z 30))])) (
         .call 2 (aN (.bEL tI (.bEL (.slice 80 aC) (.bEL .str (.bEL tI .bool)))) 2 (.Z 24)) <|
         .call 1 (aN (.bEL aE (.bEL .str (.bEL tI .bool))) 1 (.Z 29)) <|
         .call 1 (aN (.bEL aA (.bEL .str (.bEL tI .bool))) 1 (.Z 30)) <|
         .call 1 (aN (.bEL aA (.bEL .str (.bEL tI .bool))) 1 (.Z 31)) <|
         .call 1 (aN (.bEL aA (.bEL .str (.bEL tI .bool))) 1 (.Z 32)) <|
         .call 2 (aN (.bEL aA (.bEL .str (.bEL tI .bool))) 1 (.Z 33)) <|
         .ret (.bEN aB (.bEL .str (.bEL tI .bool)) (aY aB [(.Z 3),(aI (.bEL tI (.bEL aL (.bEL .str (.bEL tI .bool)))) 1 (.Z 15)),(aI (.bEL tI (.bEL aF (.bEL .str (.bEL tI .bool)))) 1 (.Z 20)),(.Z 6),(.Z 9),(aI (.bEL tI (.bEL (.slice 80 aC) (.bEL .str (.bEL tI .bool)))) 1 (.Z 24)),(.p1 aE (.bEL .str (.bEL tI .bool)) (.Z 29)),(.p1 aA (.bEL .str (.bEL tI .bool)) (.Z 30)),(.p1 aA (.bEL .str (.bEL tI .bool)) (.Z 31)),(.p1 aA (.bEL .str (.bEL tI .bool)) (.Z 32)),(.p1 aA (.bEL .str (.bEL tI .bool)) (.Z 33)),(.p1 aE (.bEL .str (.bEL tI .bool)) (.Z 34)),(.Z 11),(.Z 14)]) (aN (.bEL aE (.bEL .str (.bEL tI .bool))) 1 (.Z 34))))) (
        .call 2 (aN (.bEL tI (.bEL (.slice 80 aC) (.bEL .str (.bEL tI .bool)))) 2 (.Z 24)) <|
        .call 1 (aN (.bEL aE (.bEL .str (.bEL tI .bool))) 1 (.Z 28)) <|
        .call 1 (aN (.bEL aA (.bEL .str (.bEL tI .bool))) 1 (.Z 29)) <|
        .call 1 (aN (.bEL aA (.bEL .str (.bEL tI .bool))) 1 (.Z 30)) <|
        .call 1 (aN (.bEL aA (.bEL .str (.bEL tI .bool))) 1 (.Z 31)) <|
        .call 2 (aN (.bEL aA (.bEL .str (.bEL tI .bool))) 1 (.Z 32)) <|
        .ret (.bEN aB (.bEL .str (.bEL tI .bool)) (aY aB [(.Z 3),(aI (.bEL tI (.bEL aL (.bEL .str (.bEL tI .bool)))) 1 (.Z 15)),(aI (.bEL tI (.bEL aF (.bEL .str (.bEL tI .bool)))) 1 (.Z 20)),(.Z 6),(.Z 9),(aI (.bEL tI (.bEL (.slice 80 aC) (.bEL .str (.bEL tI .bool)))) 1 (.Z 24)),(.p1 aE (.bEL .str (.bEL tI .bool)) (.Z 28)),(.p1 aA (.bEL .str (.bEL tI .bool)) (.Z 29)),(.p1 aA (.bEL .str (.bEL tI .bool)) (.Z 30)),(.p1 aA (.bEL .str (.bEL tI .bool)) (.Z 31)),(.p1 aA (.bEL .str (.bEL tI .bool)) (.Z 32)),(.p1 aE (.bEL .str (.bEL tI .bool)) (.Z 33)),(.Z 11),(.Z 14)]) (aN (.bEL aE (.bEL .str (.bEL tI .bool))) 1 (.Z 33))))))) (
   .loop (.bEL tI (.bEL aF (.bEL .str (.bEL tI .bool)))) (aY (.bEL tI (.bEL aF (.bEL .str (.bEL tI .bool)))) [(.ci .i64 0),(.nl 78 bC),(aN (.bEL tI (.bEL aL (.bEL .str (.bEL tI .bool)))) 2 (.Z 15))]) <|
    .bEM (.bEQ 3 tI) (.bEN aA tI (.p1 aA (.bEL .str (.bEL tI .bool)) (.Z 1)) (.ci .i64 6)) <|
    .bEM (.bEQ 3 tI) (.bEN aA tI (.p1 aA (.bEL .str (.bEL tI .bool)) (.Z 1)) (.ci .i64 6)) <|
    .bEM (.cmp .lss .i64) (.bEN tI tI (.p1 tI (.bEL aF (.bEL .str (.bEL tI .bool))) (.Z 19)) (.Z 21)) <|
    .ite (.Z 22) (
     .bEM .not (aN (.bEL tI (.bEL aF (.bEL .str (.bEL tI .bool)))) 4 (.Z 19)) <|
     .ite (.Z 23) (
      .call 0 (.bEN (.bEL .str (.bEL tI .bool)) tI (aN (.bEL tI (.bEL aF (.bEL .str (.bEL tI .bool)))) 2 (.Z 19)) (.ci .i64 3)) <|
      .call 1 (aN (.bEL aA (.bEL .str (.bEL tI .bool))) 1 (.Z 24)) <|
      .bEM (.bEQ 3 tI) (.bEN aA tI (.p1 aA (.bEL .str (.bEL tI .bool)) (.Z 24)) (.ci .i64 0)) <|
      .bEM (.bEQ 3 tI) (.bEN aA tI (.p1 aA (.bEL .str (.bEL tI .bool)) (.Z 24)) (.ci .i64 0)) <|
      .bEM (.bEQ 3 tI) (.bEN aA tI (.p1 aA (.bEL .str (.bEL tI .bool)) (.Z 24)) (.ci .i64 1)) <|
      .bEM (.bEQ 3 tI) (.bEN aA tI (.p1 aA (.bEL .str (.bEL tI .bool)) (.Z 24)) (.ci .i64 1)) <|
      .bEM (.bEQ 3 tI) (.bEN aA tI (.p1 aA (.bEL .str (.bEL tI .bool)) (.Z 24)) (.ci .i64 2)) <|
      .bEM (.bEQ 3 tI) (.bEN aA tI (.p1 aA (.bEL .str (.bEL tI .bool)) (.Z 24)) (.ci .i64 2)) <|
      .bEM (.lit 78 bC 1) (aY bC [(.Z 27),(.Z 29),(.Z 31),(.p1 aA (.bEL .str (.bEL tI .bool)) (.Z 25))]) <|
      .bEM (.bES 78 bC 48) (.bEN aF aF (aI (.bEL tI (.bEL aF (.bEL .str (.bEL tI .bool)))) 1 (.Z 19)) (.Z 32)) <|
      .bEM (.ar .add .i64) (.bEN tI tI (.p1 tI (.bEL aF (.bEL .str (.bEL tI .bool))) (.Z 19)) (.ci .i64 1)) <|
      .bEO 0 (aY (.bEL tI (.bEL aF (.bEL .str (.bEL tI .bool)))) [(.Z 34),(.Z 33),(aN (.bEL aA (.bEL .str (.bEL tI .bool))) 1 (.Z 25))])) (
      .loop (.bEL tI (.bEL (.slice 80 aC) (.bEL .str (.bEL tI .bool)))) (aY (.bEL tI (.bEL (.slice 80 aC) (.bEL .str (.bEL tI .bool)))) [(.ci .i64 0),(.nl 80 aC),(aN (.bEL tI (.bEL aF (.bEL .str (.bEL tI .bool)))) 2 (.Z 19))]) <|
       .bEM (.bEQ 3 tI) (.bEN aA tI (.p1 aA (.bEL .str (.bEL tI .bool)) (.Z 1)) (.ci .i64 7)) <|
       .bEM (.bEQ 3 tI) (.bEN aA tI (.p1 aA (.bEL .str (.bEL tI .bool)) (.Z 1)) (.ci .i64 7)) <|
       .bEM (.cmp .lss .i64) (.bEN tI tI (.p1 tI (.bEL (.slice 80 aC) (.bEL .str (.bEL tI .bool))) (.Z 24)) (.Z 26)) <|
       .ite (.Z 27) (
        .bEM .not (aN (.bEL tI (.bEL (.slice 80 aC) (.bEL .str (.bEL tI .bool)))) 4 (.Z 24)) <|
        .ite (.Z 28) (
         .call 0 (.bEN (.bEL .str (.bEL tI .bool)) tI (aN (.bEL tI (.bEL (.slice 80 aC) (.bEL .str (.bEL tI .bool)))) 2 (.Z 24)) (.ci .i64 1)) <|
         .call 2 (aN (.bEL aA (.bEL .str (.bEL tI .bool))) 1 (.Z 29)) <|
         .bEM (.bEQ 3 tI) (.bEN aA tI (.p1 aA (.bEL .str (.bEL tI .bool)) (.Z 29)) (.ci .i64 0)) <|
         .bEM (.bEQ 3 tI) (.bEN aA tI (.p1 aA (.bEL .str (.bEL tI .bool)) (.Z 29)) (.ci .i64 0)) <|
         .bEM (.lit 80 aC 1) (.bEN tI aE (.Z 32) (.p1 aE (.bEL .str (.bEL tI .bool)) (.Z 30))) <|
         .bEM (.bES 80 aC 32) (.bEN (.slice 80 aC) (.slice 80 aC) (aI (.bEL tI (.bEL (.slice 80 aC) (.bEL .str (.bEL tI .bool)))) 1 (.Z 24)) (.Z 33)) <|
         .bEM (.ar .add .i64) (.bEN tI tI (.p1 tI (.bEL (.slice 80 aC) (.bEL .str (.bEL tI .bool))) (.Z 24)) (.ci .i64 1)) <|
         .bEO 0 (aY (.bEL tI (.bEL (.slice 80 aC) (.bEL .str (.bEL tI .bool)))) [(.Z 35),(.Z 34),(aN (.bEL aE (.bEL .str (.bEL tI .bool))) 1 (.Z 30))])) (
         .call 2 (aN (.bEL tI (.bEL (.slice 80 aC) (.bEL .str (.bEL tI .bool)))) 2 (.Z 24)) <|
         .call 1 (aN (.bEL aE (.bEL .str (.bEL tI .bool))) 1 (.Z 29)) <|
         .call 1 (aN (.bEL aA (.bEL .str (.bEL tI .bool))) 1 (.Z 30)) <|
         .call 1 (aN (.bEL aA (.bEL .str (.bEL tI .bool))) 1 (.Z 31)) <|
         .call 1 (aN (.bEL aA (.bEL .str (.bEL tI .bool))) 1 (.Z 32)) <|
         .call 2 (aN (.bEL aA (.bEL .str (.bEL tI .bool))) 1 (.Z 33)) <|
         .ret (.bEN aB (.bEL .str (.bEL tI .bool)) (aY aB [(.Z 3),(aI (.bEL tI (.bEL aL (.bEL .str (.bEL tI .bool)))) 1 (.Z 15)),(aI (.bEL tI (.bEL aF (.bEL .str (.bEL tI .bool)))) 1 (.Z 19)),(.Z 6),(.Z 9),(aI (.bEL tI (.bEL (.slice 80 aC) (.bEL .str (.bEL tI .bool)))) 1 (.Z 24)),(.p1 aE (.bEL .str (.bEL tI .bool)) (.Z 29)),(.p1 aA (.bEL .str (.bEL tI .bool)) (.Z 30)),(.p1 aA (.bEL .str (.bEL tI .bool)) (.Z 31)),(.p1 aA (.bEL .str (.bEL tI .bool)) (.Z 32)),(.p1 aA (.bEL .str (.bEL tI .bool)) (.Z 33)),(.p1 aE (.bEL .str (.bEL tI .bool)) (.Z 34)),(.Z 11),(.Z 14)]) (aN (.bEL aE (.bEL .str (.bEL tI .bool))) 1 (.Z 34))))) (
        .call 2 (aN (.bEL tI (.bEL (.slice 80 aC) (.bEL .str (.bEL tI .bool)))) 2 (.Z 24)) <|
        .call 1 (aN (.bEL aE (.bEL .str (.bEL tI .bool))) 1 (.Z 28)) <|
        .call 1 (aN (.bEL aA (.bEL .str (.bEL tI .bool))) 1 (.Z 29)) <|
        .call 1 (aN (.bEL aA (.bEL .str (.bEL tI .bool))) 1 (.Z 30)) <|
        .call 1 (aN (.bEL aA (.bEL .str (.bEL tI .bool))) 1 (.Z 31)) <|
        .call 2 (aN (.bEL aA (.bEL .str (.bEL tI .bool))) 1 (.Z 32)) <|
        .ret (.bEN aB (.bEL .str (.bEL tI .bool)) (aY aB [(.Z 3),(aI (.bEL tI (.bEL aL (.bEL .str (.bEL tI .bool)))) 1 (.Z 15)),(aI (.bEL tI (.bEL aF (.bEL .str (.bEL tI .bool)))) 1 (.Z 19)),(.Z 6),(.Z 9),(aI (.bEL tI (.bEL (.slice 80 aC) (.bEL .str (.bEL tI .bool)))) 1 (.Z 24)),(.p1 aE (.bEL .str (.bEL tI .bool)) (.Z 28)),(.p1 aA (.bEL .str (.bEL tI .bool)) (.Z 29)),(.p1 aA (.bEL .str (.bEL tI .bool)) (.Z 30)),(.p1 aA (.bEL .str (.bEL tI .bool)) (.Z 31)),(.p1 aA (.bEL .str (.bEL tI .bool)) (.Z 32)),(.p1 aE (.bEL .str (.bEL tI .bool)) (.Z 33)),(.Z 11),(.Z 14)]) (aN (.bEL aE (.bEL .str (.bEL tI .bool))) 1 (.Z 33)))))) (
     .loop (.bEL tI (.bEL (.slice 80 aC) (.bEL .str (.bEL tI .bool)))) (aY (.bEL tI (.bEL (.slice 80 aC) (.bEL .str (.bEL tI .bool)))) [(.ci .i64 0),(.nl 80 aC),(aN (.bEL tI (.bEL aF (.bEL .str (.bEL tI .bool)))) 2 (.Z 19))]) <|
      .bEM (.bEQ 3 tI) (.bEN aA tI (.p1 aA (.bEL .str (.bEL tI .bool)) (.Z 1)) (.ci .i64 7)) <|
      .bEM (.bEQ 3 tI) (.bEN aA tI (.p1 aA (.bEL .str (.bEL tI .bool)) (.Z 1)) (.ci .i64 7)) <|
      .bEM (.cmp .lss .i64) (.bEN tI tI (.p1 tI (.bEL (.slice 80 aC) (.bEL .str (.bEL tI .bool))) (.Z 23)) (.Z 25)) <|
      .ite (.Z 26) (
       .bEM .not (aN (.bEL tI (.bEL (.slice 80 aC) (.bEL .str (.bEL tI .bool)))) 4 (.Z 23)) <|
       .ite (.Z 27) (
        .call 0 (.bEN (.bEL .str (.bEL tI .bool)) tI (aN (.bEL tI (.bEL (.slice 80 aC) (.bEL .str (.bEL tI .bool)))) 2 (.Z 23)) (.ci .i64 1)) <|
        .call 2 (aN (.bEL aA (.bEL .str (.bEL tI .bool))) 1 (.Z 28)) <|
        .bEM (.bEQ 3 tI) (.bEN aA tI (.p1 aA (.bEL .str (.bEL tI .bool)) (.Z 28)) (.ci .i64 0)) <|
        .bEM (.bEQ 3 tI) (.bEN aA tI (.p1 aA (.bEL .str (.bEL tI .bool)) (.Z 28)) (.ci .i64 0)) <|
        .bEM (.lit 80 aC 1) (.bEN tI aE (.Z 31) (.p1 aE (.bEL .str (.bEL tI .bool)) (.Z 29))) <|
        .bEM (.bES 80 aC 32) (.bEN (.slice 80 aC) (.slice 80 aC) (aI (.bEL tI (.bEL (.slice 80 aC) (.bEL .str (.bEL tI .bool)))) 1 (.Z 23)) (.Z 32)) <|
        .bEM (.ar .add .i64) (.bEN tI tI (.p1 tI (.bEL (.slice 80 aC) (.bEL .str (.bEL tI .bool))) (.Z 23)) (.ci .i64 1)) <|
        .bEO 0 (aY (.bEL tI (.bEL (.slice 80 aC) (.bEL .str (.bEL tI .bool)))) [(.Z 34),(.Z 33),(aN (.bEL aE (.bEL .str (.bEL tI .bool))) 1 (.Z 29))])) (
        .call 2 (aN (.bEL tI (.bEL (.slice 80 aC) (.bEL .str (.bEL tI .bool)))) 2 (.Z 23)) <|
        .call 1 (aN (.bEL aE (.bEL .str (.bEL tI .bool))) 1 (.Z 28)) <|
        .call 1 (aN (.bEL aA (.bEL .str (.bEL tI .bool))) 1 (.Z 29)) <|
        .call 1 (aN (.bEL aA (.bEL .str (.bEL tI .bool))) 1 (.Z 30)) <|
        .call 1 (aN (.bEL aA (.bEL .str (.bEL tI .bool))) 1 (.Z 31)) <|
        .call 2 (aN (.bEL aA (.bEL .str (.bEL tI .bool))) 1 (.Z 32)) <|
        .ret (.bEN aB (.bEL .str (.bEL tI .bool)) (aY aB [(.Z 3),(aI (.bEL tI (.bEL aL (.bEL .str (.bEL tI .bool)))) 1 (.Z 15)),(aI (.bEL tI (.bEL aF (.bEL .str (.bEL tI .bool)))) 1 (.Z 19)),(.Z 6),(.Z 9),(aI (.bEL tI (.bEL (.slice 80 aC) (.bEL .str (.bEL tI .bool)))) 1 (.Z 23)),(.p1 aE (.bEL .str (.bEL tI .bool)) (.Z 28)),(.p1 aA (.bEL .str (.bEL tI .bool)) (.Z 29)),(.p1 aA (.bEL .str (.bEL tI .bool)) (.Z 30)),(.p1 aA (.bEL .str (.bEL tI .bool)) (.Z 31)),(.p1 aA (.bEL .str (.bEL tI .bool)) (.Z 32)),(.p1 aE (.bEL .str (.bEL tI .bool)) (.Z 33)),(.Z 11),(.Z 14)]) (aN (.bEL aE (.bEL .str (.bEL tI .bool))) 1 (.Z 33))))) (
       .call 2 (aN (.bEL tI (.bEL (.slice 80 aC) (.bEL .str (.bEL tI .bool)))) 2 (.Z 23)) <|
       .call 1 (aN (.bEL aE (.bEL .str (.bEL tI .bool))) 1 (.Z 27)) <|
       .call 1 (aN (.bEL aA (.bEL .str (.bEL tI .bool))) 1 (.Z 28)) <|
       .call 1 (aN (.bEL aA (.bEL .str (.bEL tI .bool))) 1 (.Z 29)) <|
       .call 1 (aN (.bEL aA (.bEL .str (.bEL tI .bool))) 1 (.Z 30)) <|
       .call 2 (aN (.bEL aA (.bEL .str (.bEL tI .bool))) 1 (.Z 31)) <|
       .ret (.bEN aB (.bEL .str (.bEL tI .bool)) (aY aB [(.Z 3),(aI (.bEL tI (.bEL aL (.bEL .str (.bEL tI .bool)))) 1 (.Z 15)),(aI (.bEL tI (.bEL aF (.bEL .str (.bEL tI .bool)))) 1 (.Z 19)),(.Z 6),(.Z 9),(aI (.bEL tI (.bEL (.slice 80 aC) (.bEL .str (.bEL tI .bool)))) 1 (.Z 23)),(.p1 aE (.bEL .str (.bEL tI .bool)) (.Z 27)),(.p1 aA (.bEL .str (.bEL tI .bool)) (.Z 28)),(.p1 aA (.bEL .str (.bEL tI .bool)) (.Z 29)),(.p1 aA (.bEL .str (.bEL tI .bool)) (.Z 30)),(.p1 aA (.bEL .str (.bEL tI .bool)) (.Z 31)),(.p1 aE (.bEL .str (.bEL tI .bool)) (.Z 32)),(.Z 11),(.Z 14)]) (aN (.bEL aE (.bEL .str (.bEL tI .bool))) 1 (.Z 32))))))
theorem aD8:bJ Tryz.prog [gY,cB,gZ] gK false 3000 ⟨[(2985,1015,jT 37 23++jT 21 19++[.dr 17,.dr 16,.dr 22,.dr 18]++jT 15 13++[.tm 5 0,.sl 23,.bx 1 0,.bx 1 1,.bx 1 2]),(2975,5020,jT 49 38++[.dr 5,.tm 7 0,.sl 24,.bx 1 0,.bx 1 1,.bx 1 2]),(2965,21025,jT 77 66++[.dr 7,.tm 10 0,.sl 25,.bx 1 0,.bx 1 1,.bx 1 2]),(2965,9024,jT 77 66++[.dr 7,.tm 10 0,.sl 25,.bx 1 0,.bx 1 1,.bx 1 2]),(2975,2019,jT 49 38++[.dr 5,.tm 7 0,.sl 24,.bx 1 0,.bx 1 1,.bx 1 2]),(2965,10024,jT 77 66++[.dr 7,.tm 10 0,.sl 25,.bx 1 0,.bx 1 1,.bx 1 2]),(2965,4023,jT 77 66++[.dr 7,.tm 10 0,.sl 25,.bx 1 0,.bx 1 1,.bx 1 2])],[(2963,29027,[],[33]),(2953,117032,[],[33]),(2953,57031,[],[33]),(2963,14026,[],[33]),(2953,58031,[],[33]),(2953,28030,[],[33])]⟩ = .ok lT:=by kernel_rfl
set_option maxHeartbeats 4000000 in
theorem aDC (x:(ByteArray) × (Int × Bool)) (hx:okD (.bEL .str (.bEL tI .bool)) x) (hp:(fun x=>rQ x) x):lT.wp [gY,cB,gZ] [⟨(.bEL .str (.bEL tI .bool)),x⟩] [] (fun v=>v.as (.bEL aB (.bEL .str (.bEL tI .bool)))=(fun x=>fE x) x):=by
 have hp:rQ x:=hp
 delta lT gY cB gZ;refine eE ?_
 have h8:=yH (r:=x) (show 0≤(8:Int) by decide)
 have hP:=qG 8 hp
 have n5:=aHI (r:=x) (n:=8) (i:=5)
 have n6:=aHI (r:=x) (n:=8) (i:=6)
 have n7:=aHI (r:=x) (n:=8) (i:=7)
 have hv0:fE x=K1 (dL x 8).1 [] (gE aGA ((dL x 8).1.getD 5 0).toNat (dL x 8).2):=rfl
 simp only[sS,Int.reduceToNat]
 generalize (dL x 8).1=H at *
 generalize (dL x 8).2=r0 at *
 (repeat' first|intro _|(with_reducible apply And.intro))
 all_goals first|omega|exact hp|skip
 have z5:H.getD 5 (bG tI)=H.getD 5 0:=rfl
 have z6:H.getD 6 (bG tI)=H.getD 6 0:=rfl
 have z7:H.getD 7 (bG tI)=H.getD 7 0:=rfl
 rw[z5,z6,z7]
 refine ⟨fun t=>∃ k:Nat,t.1=(k:Int)∧(t.2.1:List eY).length=k∧(k:Int)≤max 0 (H.getD 5 0)∧rQ t.2.2∧fE x=K1 H t.2.1 (gE aGA ((H.getD 5 0).toNat - k) t.2.2),fun t=>(H.getD 5 0 - (t.1:Int)).toNat,⟨0,rfl,rfl,by omega,hP.1,hv0⟩,fun t _ hI=>?_⟩
 obtain ⟨i,a1,r1⟩:Int × (List eY × kG):=t
 obtain ⟨k1,rfl,hl,hk,hPr1,hvr1⟩:=hI
 dsimp only at hl hk hPr1 hvr1 ⊢
 refine ⟨by omega,fun _=>⟨by omega,fun _=>⟨fun hlt=>⟨fun hb=>?_,fun hb=>?_⟩,fun hge=>?_⟩⟩⟩
 ·obtain ⟨m,hm⟩:∃ m,(H.getD 5 0).toNat - k1=m+1:=⟨(H.getD 5 0).toNat - k1 - 1,by omega⟩
  rw[hm,sC aGA m hb] at hvr1
  have hs1:=yH (r:=r1) (show 0≤(2:Int) by decide)
  have hp1:=qG 2 hPr1
  (repeat' first|intro _|(with_reducible apply And.intro))
  all_goals first|omega|exact hPr1|exact hp1.1|(unfold maxLen;omega)|skip
  refine ⟨k1+1,rfl,by (first|omega|(simp only[List.length_append,List.length_cons,List.length_nil];omega)),by omega,(bAK hPr1).1,?_⟩
  rw[show (H.getD 5 0).toNat - (k1+1)=m by omega,hvr1]
  show K1 H a1 ((aGA r1).1 :: _,_)=K1 H (a1++[(aGA r1).1]) _
  unfold K1;simp only[List.append_assoc,List.singleton_append];rfl
 all_goals
  have hwr1:fE x=K2 H a1 [] (gE opF (H.getD 6 0).toNat r1):=by
   first|rw[rX aGA _ hb] at hvr1|rw[show (H.getD 5 0).toNat - k1=0 by omega] at hvr1
   rw[hvr1];unfold K1;simp only[List.append_nil,gE]
  clear hvr1
  refine ⟨fun t=>∃ k:Nat,t.1=(k:Int)∧(t.2.1:List dR).length=k∧(k:Int)≤max 0 (H.getD 6 0)∧rQ t.2.2∧fE x=K2 H a1 t.2.1 (gE opF ((H.getD 6 0).toNat - k) t.2.2),fun t=>(H.getD 6 0 - (t.1:Int)).toNat,⟨0,rfl,rfl,by omega,hPr1,hwr1⟩,fun t _ hI=>?_⟩
  obtain ⟨i,a2,r2⟩:Int × (List dR × kG):=t
  obtain ⟨k2,rfl,hl,hk,hPr2,hvr2⟩:=hI
  dsimp only at hl hk hPr2 hvr2 ⊢
  refine ⟨by omega,fun _=>⟨by omega,fun _=>⟨fun hlt=>⟨fun hb=>?_,fun hb=>?_⟩,fun hge=>?_⟩⟩⟩
  ·obtain ⟨m,hm⟩:∃ m,(H.getD 6 0).toNat - k2=m+1:=⟨(H.getD 6 0).toNat - k2 - 1,by omega⟩
   rw[hm,sC opF m hb] at hvr2
   have hs1:=yH (r:=r2) (show 0≤(3:Int) by decide)
   have hp1:=qG 3 hPr2
   (repeat' first|intro _|(with_reducible apply And.intro))
   all_goals first|omega|exact hPr2|exact hp1.1|(unfold maxLen;omega)|skip
   refine ⟨k2+1,rfl,by (first|omega|(simp only[List.length_append,List.length_cons,List.length_nil];omega)),by omega,(bCM hPr2).1,?_⟩
   rw[show (H.getD 6 0).toNat - (k2+1)=m by omega,hvr2]
   show K2 H a1 a2 ((opF r2).1 :: _,_)=K2 H a1 (a2++[(opF r2).1]) _
   unfold K2;simp only[List.append_assoc,List.singleton_append];rfl
  all_goals
   have hwr2:fE x=K3 H a1 a2 [] (gE aGO (H.getD 7 0).toNat r2):=by
    first|rw[rX opF _ hb] at hvr2|rw[show (H.getD 6 0).toNat - k2=0 by omega] at hvr2
    rw[hvr2];unfold K2;simp only[List.append_nil,gE]
   clear hvr2
   refine ⟨fun t=>∃ k:Nat,t.1=(k:Int)∧(t.2.1:List dQ).length=k∧(k:Int)≤max 0 (H.getD 7 0)∧rQ t.2.2∧fE x=K3 H a1 a2 t.2.1 (gE aGO ((H.getD 7 0).toNat - k) t.2.2),fun t=>(H.getD 7 0 - (t.1:Int)).toNat,⟨0,rfl,rfl,by omega,hPr2,hwr2⟩,fun t _ hI=>?_⟩
   obtain ⟨i,a3,r3⟩:Int × (List dQ × kG):=t
   obtain ⟨k3,rfl,hl,hk,hPr3,hvr3⟩:=hI
   dsimp only at hl hk hPr3 hvr3 ⊢
   refine ⟨by omega,fun _=>⟨by omega,fun _=>⟨fun hlt=>⟨fun hb=>?_,fun hb=>?_⟩,fun hge=>?_⟩⟩⟩
   ·obtain ⟨m,hm⟩:∃ m,(H.getD 7 0).toNat - k3=m+1:=⟨(H.getD 7 0).toNat - k3 - 1,by omega⟩
    rw[hm,sC aGO m hb] at hvr3
    have hs1:=yH (r:=r3) (show 0≤(1:Int) by decide)
    have hp1:=qG 1 hPr3
    (repeat' first|intro _|(with_reducible apply And.intro))
    all_goals first|omega|exact hPr3|exact hp1.1|(unfold maxLen;omega)|skip
    refine ⟨k3+1,rfl,by (first|omega|(simp only[List.length_append,List.length_cons,List.length_nil];omega)),by omega,(aXL hPr3).1,?_⟩
    rw[show (H.getD 7 0).toNat - (k3+1)=m by omega,hvr3]
    show K3 H a1 a2 a3 ((aGO r3).1 :: _,_)=K3 H a1 a2 (a3++[(aGO r3).1]) _
    unfold K3;simp only[List.append_assoc,List.singleton_append];rfl
   all_goals
    have hwr3:fE x=bDV H a1 a2 a3 r3:=by
     first|rw[rX aGO _ hb] at hvr3|rw[show (H.getD 7 0).toNat - k3=0 by omega] at hvr3
     rw[hvr3];unfold K3;simp only[List.append_nil,gE]
    clear hvr3
    have p1:=aF2 hPr3
    have p2:=nQ p1.1
    have p3:=nQ p2.1
    have p4:=nQ p3.1
    have p5:=nQ p4.1
    (repeat' first|intro _|(with_reducible apply And.intro))
    all_goals first|exact hPr3|exact p1.1|exact p2.1|exact p3.1|exact p4.1|exact p5.1|(rw[hwr3];rfl)
set_option maxHeartbeats 4000000 in
theorem aCU:Con.Holds Tryz.prog gK:=aQ aR (aG aEH (aG kW (aG aEG aO))) aD8 aDC
end Go.Proofs.YtdeobhdbmehpgaaGreat
