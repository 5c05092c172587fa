/- LawVt: trees, and what they say. -/
import Derived.Test.YtdeobhdbmehpgaaGreatRead9
import Derived.Test.YtdeobhdbmehpgaaGreatShow4
import Derived.Test.YtdeobhdbmehpgaaGreatDrawSt
import Derived.Test.YtdeobhdbmehpgaaGreatDrawTx
namespace Go.Proofs.YtdeobhdbmehpgaaGreat
noncomputable section
set_option maxRecDepth 100000
open Go.ChangeShapes Go.WideShapes Go.ChangeAt Go.RowKit Go.Deep
set_option linter.unusedVariables false
set_option linter.unusedSimpArgs false
theorem hasT_byte {s t:ByteArray} {p:Nat} (h1:p+t.size≤s.size) (h2:∀ i:Nat,i<t.size→cD s ((p+i:Nat):Int)=cD t (i:Int)):nE s p t:=by
 refine ⟨h1,fun i hi=>?_⟩
 have hs:s.data.size=s.size:=rfl
 have ht:t.data.size=t.size:=rfl
 have h:=h2 i hi
 unfold cD at h
 rw[Int.toNat_natCast,Int.toNat_natCast,Array.getElem?_eq_getElem (show p+i<s.data.size by omega),Array.getElem?_eq_getElem (show i<t.data.size by omega)] at h
 rw[Array.getElem?_eq_getElem (show p+i<s.data.size by omega),Array.getElem?_eq_getElem (show i<t.data.size by omega)]
 congr 1
 apply UInt8.toNat_inj.1
 simp only[Option.getD_some] at h
 omega
theorem fix_conv {s:ByteArray} {p:Nat} (h:p+7≤s.size):nE s p (pS (rdN (s.extract p s.size) 7)):=by
 have hb:=aMU (s.extract p s.size) (show 7≤7 by decide)
 have b:∀ k:Nat,k<7→cD (s.extract p s.size) (k:Int)=cD s ((p+k:Nat):Int):=fun k hk=>aDZ (by omega)
 have c:∀ k:Nat,0≤cD (s.extract p s.size) (k:Int)∧cD (s.extract p s.size) (k:Int)≤255:=fun k=>aH1 _ _
 generalize hm:rdN (s.extract p s.size) 7=m at hb ⊢
 refine hasT_byte (by rw[aA8 hb];exact h) fun i hi=>?_
 rw[aA8 hb] at hi
 rw[aOU hb hi,← b i hi]
 have c0:=c 0;have c1:=c 1;have c2:=c 2;have c3:=c 3;have c4:=c 4;have c5:=c 5;have c6:=c 6
 clear b c hb h
 simp only[rdN] at hm
 have hi':i=0∨i=1∨i=2∨i=3∨i=4∨i=5∨i=6:=by omega
 rcases hi' with rfl|rfl|rfl|rfl|rfl|rfl|rfl <;> simp only[Go.Proofs.YtdeobhdbmehpgaaGreat.hi,Nat.sub_zero,Nat.reduceSub] <;> omega
theorem num_conv {s:ByteArray} {p:Nat} {n:Int} (h:jI s p=some n):nE s p (eQ n)∧(eQ n).size=8∧p+8≤s.size:=by
 have hp:=aHB h
 have e1:((p:Int)+1).toNat=p+1:=by omega
 have hf:=fix_conv (s:=s) (p:=p+1) (by omega)
 have hb:=aMU (s.extract (p+1) s.size) (show 7≤7 by decide)
 unfold jI at h
 rw[if_pos hp,e1] at h
 generalize rdN (s.extract (p+1) s.size) 7=m at h hf hb
 have one:∀ c:UInt8,cD s (p:Int)=(c.toNat:Int)→nE s p (⟨#[c]⟩:ByteArray):=fun c hc=>hasT_byte (by show p+1≤s.size;omega) fun i hi=>by
  have hi1:i<1:=hi
  obtain rfl:i=0:=by omega
  rw[Nat.add_zero,hc];rfl
 split at h
 ·rename_i hc;cases h
  have e:eQ n=(⟨#[43]⟩:ByteArray)++pS n:=by unfold eQ;rw[if_neg (by omega)]
  rw[e]
  refine ⟨dB.2 ⟨one 43 hc,hf⟩,?_,by omega⟩
  rw[dE,aA8 hb];rfl
 ·split at h
  ·rename_i hc;cases h
   have e:eQ (-m)=(⟨#[45]⟩:ByteArray)++pS m:=by unfold eQ;rw[if_pos (by omega),Int.neg_neg]
   rw[e]
   refine ⟨dB.2 ⟨one 45 hc.1,hf⟩,?_,by omega⟩
   rw[dE,aA8 hb];rfl
  ·cases h
theorem nums_conv {s:ByteArray}:(k:Nat)→(p:Nat)→p≤s.size→(q:List Int × Int)→yM s k p=some q→q.1.all iE=true∧q.1.length=k∧nE s p (gS ⟨#[]⟩ (q.1.map eQ))∧q.2=((p+(gS ⟨#[]⟩ (q.1.map eQ)).size:Nat):Int)
 | 0,p,hp,q,h=>by
  unfold yM at h;cases h
  exact ⟨rfl,rfl,⟨hp,fun i hi=>absurd hi (Nat.not_lt_zero _)⟩,rfl⟩
 | k+1,p,hp,q,h=>by
  rw[yM] at h
  split at h
  ·rename_i n hn
   obtain ⟨h1,h2,h3⟩:=num_conv hn
   split at h
   ·rename_i hs
    rw[Option.map_eq_some_iff] at h
    obtain ⟨q',h4,rfl⟩:=h
    rw[show (p:Int)+8=((p+8:Nat):Int) by omega] at h4
    obtain ⟨i1,i2,i3,i4⟩:=nums_conv k (p+8) h3 q' h4
    refine ⟨by rw[List.all_cons,hs,i1];rfl,by rw[List.length_cons,i2],?_,?_⟩
    ·rw[List.map_cons,lM];exact dB.2 ⟨h1,by rw[h2];exact i3⟩
    ·show q'.2=_
     rw[i4,List.map_cons,lM,dE,h2,Nat.add_assoc]
   ·cases h
  ·cases h
theorem vec_conv {s:ByteArray} {p:Nat} {q:List Int × Int} (h:aM3 s p=some q):mN q.1=true∧nE s p (cP q.1)∧q.2=((p+(cP q.1).size:Nat):Int)∧8≤(cP q.1).size:=by
 unfold aM3 at h
 split at h
 ·rename_i n hn
  obtain ⟨h1,h2,h3⟩:=num_conv hn
  split at h
  ·rename_i hr
   rw[show (p:Int)+8=((p+8:Nat):Int) by omega] at h
   obtain ⟨i1,i2,i3,i4⟩:=nums_conv n.toNat (p+8) h3 q h
   have hl:(q.1.length:Int)=n:=by omega
   have hv:mN q.1=true:=by unfold mN;rw[Bool.and_eq_true,decide_eq_true_eq];exact ⟨by omega,i1⟩
   rw[aTL hv,hl,dE,h2]
   exact ⟨hv,dB.2 ⟨h1,by rw[h2];exact i3⟩,by rw[i4,Nat.add_assoc],by omega⟩
  ·cases h
 ·cases h
theorem readV_conv {s:ByteArray} (h:(wS s).2.2=true):1≤(wS s).2.1∧(wS s).2.1≤(s.size:Int)∧cP (wS s).1=s.extract 0 (wS s).2.1.toNat:=by
 unfold wS at h ⊢
 cases hq:aM3 s 0 with
 | none=>rw[hq] at h;cases h
 | some q =>
  obtain ⟨h1,h2,h3,h4⟩:=vec_conv (p:=0) hq
  dsimp only
  have h5:=h2.1
  rw[Nat.zero_add] at h3
  have h6:=aMC h2
  rw[Nat.zero_add] at h6
  rw[h3,Int.toNat_natCast]
  exact ⟨by omega,by omega,h6.symm⟩
theorem hasT_front (s t:ByteArray):nE (s++t) 0 s:=by
 refine (dB (a:=s) (b:=t)).1 ⟨by omega,fun i hi=>by rw[Nat.zero_add]⟩ |>.1
theorem readV_show {v:List Int} (t:ByteArray) (h:¬ cP v=⟨#[]⟩):wS (cP v++t)=(v,((cP v).size:Int),true):=by
 have hv:mN v=true:=by
  unfold cP at h
  unfold mN
  split at h
  ·rename_i hh;rw[Bool.and_eq_true,decide_eq_true_eq];exact hh
  ·exact absurd rfl h
 have:=aJ3 (p:=0) hv (hasT_front (cP v) t)
 unfold wS
 rw[show ((0:Nat):Int)=0 from rfl] at this
 rw[this,Nat.zero_add]
theorem rdSt_show {x:aM} (t:ByteArray) (h:¬ gF x=⟨#[]⟩):aPW (gF x++t)=(x,((gF x).size:Int),true):=by
 obtain ⟨h1,h2⟩:=aQU h
 have h3:=hasT_front (gF x) t
 rw[h2] at h3
 have h4:=aOY h1 h3
 rw[Nat.zero_add] at h4
 have h5:=aMC h3
 rw[Nat.zero_add] at h5
 unfold aPW
 rw[h2,h4]
 rw[if_neg]
 ·rfl
 ·rintro (h6|h6)
  ·cases h6
  ·refine h6 ?_
   show gF x=ByteArray.extract _ 0 ((((gS ⟨#[]⟩ (fW x)).size:Nat):Int)).toNat
   rw[Int.toNat_natCast,h5,h2]
def k_s_DrawShowVec:Con:=⟨6,(.slice 5 (.int .u8)),aA,[.val ⟨false,(.slice 5 (.int .u8)),[]⟩],[⟨false,aA,[2]⟩],false,none,
 ((fun x=>x.length≤1048576):(List Int)→Prop),
 ((fun _=>bG aA):(List Int)→(List Int))⟩
def t_s_DrawShowVec:T:=.call 0 (.Z 0) <|.call 1 (.Z 1) <|.call 2 (.bEN (.bEL (.slice 5 (.int .u8)) aD) tI (aN (.bEL aA (.bEL (.slice 5 (.int .u8)) aD)) 1 (.Z 2)) (.ci .i64 8)) <|.ite (.p1 .bool (.bEL (.slice 5 (.int .u8)) aD) (.Z 3)) (
 .bEM (.lit 3 tI 4) (aY (.bEL tI (.bEL tI aD)) [(.ci .i64 1000000000000),(.ci .i64 1000000000001),(.ci .i64 (-1000000000001)),(.ci .i64 0)]) <|
 .call 3 (.bEN (.bEL (.slice 5 (.int .u8)) aD) aA (aN (.bEL .bool (.bEL (.slice 5 (.int .u8)) aD)) 1 (.Z 3)) (.Z 4)) <|
 .bEM (.lit 3 tI 1) (.p1 tI (.bEL (.slice 5 (.int .u8)) aD) (.Z 5)) <|
 .bEM (.bES 3 tI 8) (.bEN aA aA (.p1 aA (.bEL (.slice 5 (.int .u8)) aD) (.Z 2)) (.Z 6)) <|
 .ret (.Z 7)) (
 .ret (.p1 aA (.bEL (.slice 5 (.int .u8)) aD) (.Z 2)))
theorem e_s_DrawShowVec (f:(List Int)→(List Int)):bJ Tryz.prog [cT,hK,fU,bZ] { k_s_DrawShowVec with fn:=f } false 3000 ⟨[],[(2989,3004,[13],[])]⟩ = .ok t_s_DrawShowVec:=by kernel_rfl
theorem v_s_DrawShowVec (x:List Int) (hx:okD (.slice 5 (.int .u8)) x) (hp:(fun x=>x.length≤1048576) x):t_s_DrawShowVec.wp [cT,hK,fU,bZ] [⟨(.slice 5 (.int .u8)),x⟩] [] (fun v=>(fun x r=>r.length≤8:(List Int)→(List Int)→Prop) x (v.as aA)):=by
 have hp':List.length x≤1048576:=hp
 delta t_s_DrawShowVec cT hK fU bZ;refine eE ?_
 refine fJ ?_
 refine ⟨hp',fun hc=>⟨Int.le_refl _,fun _=>?_⟩⟩
 have q1:=aJR (aAB x) hc (Int.le_refl _)
 generalize oG (aAB x)=r at q1 ⊢;obtain ⟨v1,c1⟩:=r;obtain ⟨kq1,uq1⟩:=q1;replace kq1:okD iF c1:=kq1.2;dsimp only at uq1 ⊢
 have q2:=pH (c1,8) ⟨kq1,okI (by omega) (by omega)⟩ uq1.2
 generalize gQ (c1,8)=r at q2 ⊢;obtain ⟨b2,c2⟩:=r;obtain ⟨kq2,uq2⟩:=q2;replace kq2:okD iF c2:=kq2.2;dsimp only at uq2 ⊢
 (repeat' first|intro _|(with_reducible apply And.intro))
 all_goals first|omega|(unfold maxLen;omega)|exact uq1.2|exact uq2|(rename_i hh;cases hh;done)|skip
theorem d_s_DrawShowVec:∃ f:(List Int)→(List Int),(∀ x,okD (.slice 5 (.int .u8)) x→(fun x=>x.length≤1048576) x→(fun x r=>r.length≤8:(List Int)→(List Int)→Prop) x (f x))∧Con.Holds Tryz.prog { k_s_DrawShowVec with fn:=f }:=iR (C:=k_s_DrawShowVec) aR (aG aCG (aG yD (aG uE (aG hN aO)))) e_s_DrawShowVec (fun x r=>r.length≤8:(List Int)→(List Int)→Prop) v_s_DrawShowVec
def f_s_DrawShowVec:(List Int)→(List Int):=Classical.choose d_s_DrawShowVec
def c_s_DrawShowVec:Con:=⟨6,(.slice 5 (.int .u8)),aA,[.val ⟨false,(.slice 5 (.int .u8)),[]⟩],[⟨false,aA,[2]⟩],false,none,
 ((fun x=>x.length≤1048576):(List Int)→Prop),
 ((f_s_DrawShowVec):(List Int)→(List Int))⟩
theorem p_s_DrawShowVec:∀ x,okD (.slice 5 (.int .u8)) x→(fun x=>x.length≤1048576) x→(fun x r=>r.length≤8:(List Int)→(List Int)→Prop) x (f_s_DrawShowVec x):=(Classical.choose_spec d_s_DrawShowVec).1
theorem h_s_DrawShowVec:Con.Holds Tryz.prog c_s_DrawShowVec:=(Classical.choose_spec d_s_DrawShowVec).2
theorem q_s_DrawShowVec (x:List Int) (hx:okD (.slice 5 (.int .u8)) x) (hp:(fun x=>x.length≤1048576) x):okD aA (f_s_DrawShowVec x)∧(fun x r=>r.length≤8:(List Int)→(List Int)→Prop) x (f_s_DrawShowVec x):=⟨h_s_DrawShowVec.ok x hp hx,p_s_DrawShowVec x hx hp⟩
def k_s_DrawReadVec:Con:=⟨11,(.slice 5 (.int .u8)),.str,[.val ⟨false,(.slice 5 (.int .u8)),[]⟩],[⟨false,.str,[0]⟩],false,none,
 ((fun x=>x.length≤1048576):(List Int)→Prop),
 ((fun _=>bG .str):(List Int)→(ByteArray))⟩
def t_s_DrawReadVec:T:=.call 0 (.Z 0) <|.call 1 (.Z 1) <|.call 2 (.p1 aA (.bEL (.slice 5 (.int .u8)) aD) (.Z 2)) <|.call 3 (.bEN (.bEL (.slice 5 (.int .u8)) aD) tI (aN (.bEL aA (.bEL (.slice 5 (.int .u8)) aD)) 1 (.Z 2)) (.ci .i64 3)) <|
 .bEM .sadd (.bEN .str .str (.Z 3) (.p1 .str (.bEL (.slice 5 (.int .u8)) aD) (.Z 4))) <|
 .call 4 (.bEN (.bEL (.slice 5 (.int .u8)) aD) tI (aN (.bEL .str (.bEL (.slice 5 (.int .u8)) aD)) 1 (.Z 4)) (.ci .i64 4)) <|
 .bEM (.cmp .eql .i64) (.bEN tI tI (.p1 tI (.bEL (.slice 5 (.int .u8)) aD) (.Z 6)) (.ci .i64 0)) <|
 .ite (.Z 7) (
  .call 5 (.bEN (.bEL (.slice 5 (.int .u8)) aD) .str (aN (.bEL tI (.bEL (.slice 5 (.int .u8)) aD)) 1 (.Z 6)) (.Z 5)) <|
  .ret (.p1 .str (.bEL (.slice 5 (.int .u8)) aD) (.Z 8))) (
  .bEM (.cmp .eql .i64) (.bEN tI tI (.p1 tI (.bEL (.slice 5 (.int .u8)) aD) (.Z 6)) (.ci .i64 1)) <|
  .ite (.Z 8) (
   .bEM .slen (.Z 5) <|
   .bEM (.ar .add .i64) (.bEN tI tI (.Z 9) (.ci .i64 1)) <|
   .call 4 (.bEN (.bEL (.slice 5 (.int .u8)) aD) tI (aN (.bEL tI (.bEL (.slice 5 (.int .u8)) aD)) 1 (.Z 6)) (.Z 10)) <|
   .bEM .ssub (aY (.bEL .str aD) [(.Z 5),(.ci .i64 0),(.p1 tI (.bEL (.slice 5 (.int .u8)) aD) (.Z 11))]) <|
   .ret (.Z 12)) (
   .ret (.Z 5)))
theorem e_s_DrawReadVec (f:(List Int)→(ByteArray)):bJ Tryz.prog [cT,hK,cG,jX,aV,qL] { k_s_DrawReadVec with fn:=f } false 3000 ⟨[],[]⟩ = .ok t_s_DrawReadVec:=by kernel_rfl
theorem v_s_DrawReadVec (x:List Int) (hx:okD (.slice 5 (.int .u8)) x) (hp:(fun x=>x.length≤1048576) x):t_s_DrawReadVec.wp [cT,hK,cG,jX,aV,qL] [⟨(.slice 5 (.int .u8)),x⟩] [] (fun v=>(fun x r=>True:(List Int)→(ByteArray)→Prop) x (v.as .str)):=by
 have hp':List.length x≤1048576:=hp
 delta t_s_DrawReadVec cT hK cG jX aV qL;refine eE ?_
 refine fJ ?_
 refine ⟨hp',fun hc=>⟨Int.le_refl _,fun _=>?_⟩⟩
 have q1:=aJR (aAB x) hc (Int.le_refl _)
 generalize oG (aAB x)=r at q1 ⊢;obtain ⟨v1,c1⟩:=r;obtain ⟨kq1,uq1⟩:=q1;replace kq1:okD iF c1:=kq1.2;dsimp only at uq1 ⊢
 have hc1:=uq1.2
 have z1:=bI v1
 generalize cP v1=s1 at z1 ⊢
 have q2:=aGP (c1,3) ⟨kq1,okI (by omega) (by omega)⟩ ⟨hc1,by show (0:Int)≤3;omega,by show (3:Int)≤1000;omega⟩
 refine fun _=>⟨⟨hc1,by omega,by omega⟩,fun _=>?_⟩
 generalize pA (c1,3)=r at q2 ⊢;obtain ⟨t2,c2⟩:=r;obtain ⟨kq2,uq2⟩:=q2;replace kq2:okD iF c2:=kq2.2;dsimp only at uq2 ⊢
 have hc2:=uq2.2
 have z2:(s1++t2).size≤3000:=by rw[dE];omega
 have z3:s1.size+t2.size≤3000:=by omega
 refine ⟨by unfold maxLen;omega,fun _=>⟨hc2,fun _=>?_⟩⟩
 generalize (s1++t2)=t at z2 ⊢
 have q3:=bN (c2,4) ⟨kq2,okI (by omega) (by omega)⟩ hc2
 generalize bK (c2,4)=r at q3 ⊢;obtain ⟨n3,c3⟩:=r;obtain ⟨kq3,uq3⟩:=q3;replace kq3:okD iF c3:=kq3.2;dsimp only at uq3 ⊢
 have hc3:=uq3.2.2.2
 have q5:=(bN (c3,(t.size:Int)+1) ⟨kq3,okI (by omega) (by omega)⟩ hc3).2
 dsimp only at q5
 (repeat' first|intro _|(with_reducible apply And.intro))
 all_goals first|omega|(unfold maxLen;omega)|(with_reducible exact hc3)|trivial|skip
theorem d_s_DrawReadVec:∃ f:(List Int)→(ByteArray),(∀ x,okD (.slice 5 (.int .u8)) x→(fun x=>x.length≤1048576) x→(fun x r=>True:(List Int)→(ByteArray)→Prop) x (f x))∧Con.Holds Tryz.prog { k_s_DrawReadVec with fn:=f }:=iR (C:=k_s_DrawReadVec) aR (aG aCG (aG yD (aG mT (aG aAL (aG dM (aG aPX aO)))))) e_s_DrawReadVec (fun x r=>True:(List Int)→(ByteArray)→Prop) v_s_DrawReadVec
def f_s_DrawReadVec:(List Int)→(ByteArray):=Classical.choose d_s_DrawReadVec
def c_s_DrawReadVec:Con:=⟨11,(.slice 5 (.int .u8)),.str,[.val ⟨false,(.slice 5 (.int .u8)),[]⟩],[⟨false,.str,[0]⟩],false,none,
 ((fun x=>x.length≤1048576):(List Int)→Prop),
 ((f_s_DrawReadVec):(List Int)→(ByteArray))⟩
theorem h_s_DrawReadVec:Con.Holds Tryz.prog c_s_DrawReadVec:=(Classical.choose_spec d_s_DrawReadVec).2
def c_w_FnVecTexts:Con:=⟨3,(.slice 5 (.int .u8)),.bool,[.val ⟨false,(.slice 5 (.int .u8)),[]⟩],[⟨false,.bool,[0]⟩],false,none,
 ((fun _=>True):(List Int)→Prop),
 ((fun _=>true):(List Int)→(Bool))⟩
def t_w_FnVecTexts:T:=.call 0 (.Z 0) <|.ite (.Z 1) (.ret (.cb true)) (.call 1 (.Z 0) <|.call 2 (.Z 2) <|
 .bEM .sadd (.bEN .str .str (.Z 3) (.cs ⟨#[116,97,105,108]⟩)) <|
 .call 3 (.Z 4) <|
 .call 4 (.Z 2) <|
 .bEM (.seq true) (.bEN .str .str (.Z 3) (.Z 6)) <|
 .ite (.Z 7) (
  .ret (.cb false)) (
  .bEM (.seq true) (.bEN .str .str (.Z 3) (.cs ⟨#[]⟩)) <|
  .ite (.Z 8) (
   .bEM .not (aN (.bEL aA (.bEL tI .bool)) 2 (.Z 5)) <|
   .ite (.Z 9) (
    .ret (.cb false)) (
    .bEM .slen (.Z 3) <|
    .bEM (.cmp .neq .i64) (.bEN tI tI (aI (.bEL aA (.bEL tI .bool)) 1 (.Z 5)) (.Z 10)) <|
    .ite (.Z 11) (
     .ret (.cb false)) (
     .call 5 (.bEN aA aA (.p1 aA (.bEL tI .bool) (.Z 5)) (.Z 2)) <|
     .bEM .not (.Z 12) <|
     .ite (.Z 13) (
      .ret (.cb false)) (
      .call 6 (.Z 0) <|
      .call 3 (.Z 14) <|
      .ite (aN (.bEL aA (.bEL tI .bool)) 2 (.Z 15)) (
       .bEM (.cmp .lss .i64) (.bEN tI tI (aI (.bEL aA (.bEL tI .bool)) 1 (.Z 15)) (.ci .i64 1)) <|
       .ite (.Z 16) (
        .ret (.cb false)) (
        .bEM .slen (.Z 14) <|
        .bEM (.cmp .gtr .i64) (.bEN tI tI (aI (.bEL aA (.bEL tI .bool)) 1 (.Z 15)) (.Z 17)) <|
        .ite (.Z 18) (
         .ret (.cb false)) (
         .bEM .ssub (aY (.bEL .str aD) [(.Z 14),(.ci .i64 0),(aI (.bEL aA (.bEL tI .bool)) 1 (.Z 15))]) <|
         .call 2 (.p1 aA (.bEL tI .bool) (.Z 15)) <|
         .bEM (.seq true) (.bEN .str .str (.Z 20) (.Z 19)) <|
         .ite (.Z 21) (
          .ret (.cb false)) (
          .call 7 (.Z 0) <|
          .call 8 (.Z 22) <|
          .bEM .sadd (.bEN .str .str (.Z 23) (.cs ⟨#[116,97,105,108]⟩)) <|
          .call 9 (.Z 24) <|
          .call 10 (.Z 22) <|
          .bEM (.seq false) (.bEN .str .str (.Z 23) (.Z 26)) <|
          .ite (.Z 27) (
           .bEM (.seq false) (.bEN .str .str (.Z 23) (.cs ⟨#[]⟩)) <|
           .ite (.Z 28) (
            .ret (.cb true)) (
            .ite (aN (.bEL aB (.bEL tI .bool)) 2 (.Z 25)) (
             .bEM .slen (.Z 23) <|
             .bEM (.cmp .eql .i64) (.bEN tI tI (aI (.bEL aB (.bEL tI .bool)) 1 (.Z 25)) (.Z 29)) <|
             .ite (.Z 30) (
              .call 8 (.p1 aB (.bEL tI .bool) (.Z 25)) <|
              .bEM (.seq false) (.bEN .str .str (.Z 31) (.Z 23)) <|
              .ret (.Z 32)) (
              .ret (.cb false))) (
             .ret (.cb false)))) (
           .ret (.cb false)))))) (
       .call 7 (.Z 0) <|
       .call 8 (.Z 16) <|
       .bEM .sadd (.bEN .str .str (.Z 17) (.cs ⟨#[116,97,105,108]⟩)) <|
       .call 9 (.Z 18) <|
       .call 10 (.Z 16) <|
       .bEM (.seq false) (.bEN .str .str (.Z 17) (.Z 20)) <|
       .ite (.Z 21) (
        .bEM (.seq false) (.bEN .str .str (.Z 17) (.cs ⟨#[]⟩)) <|
        .ite (.Z 22) (
         .ret (.cb true)) (
         .ite (aN (.bEL aB (.bEL tI .bool)) 2 (.Z 19)) (
          .bEM .slen (.Z 17) <|
          .bEM (.cmp .eql .i64) (.bEN tI tI (aI (.bEL aB (.bEL tI .bool)) 1 (.Z 19)) (.Z 23)) <|
          .ite (.Z 24) (
           .call 8 (.p1 aB (.bEL tI .bool) (.Z 19)) <|
           .bEM (.seq false) (.bEN .str .str (.Z 25) (.Z 17)) <|
           .ret (.Z 26)) (
           .ret (.cb false))) (
          .ret (.cb false)))) (
        .ret (.cb false))))))) (
   .call 6 (.Z 0) <|
   .call 3 (.Z 9) <|
   .ite (aN (.bEL aA (.bEL tI .bool)) 2 (.Z 10)) (
    .bEM (.cmp .lss .i64) (.bEN tI tI (aI (.bEL aA (.bEL tI .bool)) 1 (.Z 10)) (.ci .i64 1)) <|
    .ite (.Z 11) (
     .ret (.cb false)) (
     .bEM .slen (.Z 9) <|
     .bEM (.cmp .gtr .i64) (.bEN tI tI (aI (.bEL aA (.bEL tI .bool)) 1 (.Z 10)) (.Z 12)) <|
     .ite (.Z 13) (
      .ret (.cb false)) (
      .bEM .ssub (aY (.bEL .str aD) [(.Z 9),(.ci .i64 0),(aI (.bEL aA (.bEL tI .bool)) 1 (.Z 10))]) <|
      .call 2 (.p1 aA (.bEL tI .bool) (.Z 10)) <|
      .bEM (.seq true) (.bEN .str .str (.Z 15) (.Z 14)) <|
      .ite (.Z 16) (
       .ret (.cb false)) (
       .call 7 (.Z 0) <|
       .call 8 (.Z 17) <|
       .bEM .sadd (.bEN .str .str (.Z 18) (.cs ⟨#[116,97,105,108]⟩)) <|
       .call 9 (.Z 19) <|
       .call 10 (.Z 17) <|
       .bEM (.seq false) (.bEN .str .str (.Z 18) (.Z 21)) <|
       .ite (.Z 22) (
        .bEM (.seq false) (.bEN .str .str (.Z 18) (.cs ⟨#[]⟩)) <|
        .ite (.Z 23) (
         .ret (.cb true)) (
         .ite (aN (.bEL aB (.bEL tI .bool)) 2 (.Z 20)) (
          .bEM .slen (.Z 18) <|
          .bEM (.cmp .eql .i64) (.bEN tI tI (aI (.bEL aB (.bEL tI .bool)) 1 (.Z 20)) (.Z 24)) <|
          .ite (.Z 25) (
           .call 8 (.p1 aB (.bEL tI .bool) (.Z 20)) <|
           .bEM (.seq false) (.bEN .str .str (.Z 26) (.Z 18)) <|
           .ret (.Z 27)) (
           .ret (.cb false))) (
          .ret (.cb false)))) (
        .ret (.cb false)))))) (
    .call 7 (.Z 0) <|
    .call 8 (.Z 11) <|
    .bEM .sadd (.bEN .str .str (.Z 12) (.cs ⟨#[116,97,105,108]⟩)) <|
    .call 9 (.Z 13) <|
    .call 10 (.Z 11) <|
    .bEM (.seq false) (.bEN .str .str (.Z 12) (.Z 15)) <|
    .ite (.Z 16) (
     .bEM (.seq false) (.bEN .str .str (.Z 12) (.cs ⟨#[]⟩)) <|
     .ite (.Z 17) (
      .ret (.cb true)) (
      .ite (aN (.bEL aB (.bEL tI .bool)) 2 (.Z 14)) (
       .bEM .slen (.Z 12) <|
       .bEM (.cmp .eql .i64) (.bEN tI tI (aI (.bEL aB (.bEL tI .bool)) 1 (.Z 14)) (.Z 18)) <|
       .ite (.Z 19) (
        .call 8 (.p1 aB (.bEL tI .bool) (.Z 14)) <|
        .bEM (.seq false) (.bEN .str .str (.Z 20) (.Z 12)) <|
        .ret (.Z 21)) (
        .ret (.cb false))) (
       .ret (.cb false)))) (
     .ret (.cb false))))))
theorem e_w_FnVecTexts:bJ Tryz.prog [aBJ,c_s_DrawShowVec,eI,mS,cG,kK,c_s_DrawReadVec,iD,fC,jJ,jN] c_w_FnVecTexts false 3000 ⟨[],[]⟩ = .ok t_w_FnVecTexts:=by kernel_rfl
theorem v_w_FnVecTexts (x:List Int) (hx:okD (.slice 5 (.int .u8)) x) (hp:(fun _=>True) x):t_w_FnVecTexts.wp [aBJ,c_s_DrawShowVec,eI,mS,cG,kK,c_s_DrawReadVec,iD,fC,jJ,jN] [⟨(.slice 5 (.int .u8)),x⟩] [] (fun v=>v.as .bool=(fun _=>true) x):=by
 delta t_w_FnVecTexts aBJ c_s_DrawShowVec eI mS cG kK c_s_DrawReadVec iD fC jJ jN;refine eE ?_
 refine fJ ?_
 refine ⟨fun _=>trivial,fun hb=>⟨by omega,fun _=>?_⟩⟩
 have hx':List.length x≤1048576:=by omega
 have a1:=(q_s_DrawShowVec x hx hx').2
 generalize f_s_DrawShowVec x=v at a1 ⊢
 have z1:=bI v
 have z4:(⟨#[116,97,105,108]⟩:ByteArray).size=4:=rfl
 have r1:=readV_show (v:=v) ⟨#[116,97,105,108]⟩
 refine fun _=>⟨by rw[z4];unfold maxLen;omega,fun _ _ _=>⟨fun h=>absurd trivial h,fun _=>?_⟩⟩
 have r2:=fun h=>readV_conv (s:=f_s_DrawReadVec x) h
 refine Or.elim (Classical.em (cP v=⟨#[]⟩)) (fun hE=>?_) (fun hE=>?_)
 all_goals first|(rw[r1 hE];refine ⟨fun _=>⟨fun h=>(by cases h),fun _ _=>⟨fun h=>absurd rfl h,fun _=>⟨rfl,fun h=>(by cases h),fun _=>?_⟩⟩⟩,fun h=>absurd h hE⟩)|refine ⟨fun h=>absurd hE h,fun _=>?_⟩
 all_goals (generalize f_s_DrawReadVec x=t at r2 ⊢;refine ⟨hx',fun _ _=>⟨fun hf=>?_,fun hf=>?_⟩⟩)
 all_goals first|(have hc:=r2 hf;refine ⟨fun h=>absurd h (by omega),fun _ _=>⟨fun h=>absurd h (by omega),fun _=>⟨⟨by omega,by omega,by omega⟩,fun _ _=>⟨fun h=>absurd hc.2.2 h,fun _=>?_⟩⟩⟩⟩)|skip
 all_goals generalize qF x=st
 all_goals (have z5:=aP7 st;have r3:=rdSt_show (x:=st) ⟨#[116,97,105,108]⟩)
 all_goals refine ⟨hx',fun _ _=>⟨by rw[z4];unfold maxLen;omega,fun _ _ _=>⟨fun _=>⟨fun _=>trivial,fun hs=>?_⟩,fun h=>absurd trivial h⟩⟩⟩
 all_goals (rw[r3 hs];exact ⟨fun _ _=>⟨fun _ _ h=>h rfl,fun h=>absurd rfl h⟩,fun h=>(by cases h)⟩)
theorem h_w_FnVecTexts:Con.Holds Tryz.prog c_w_FnVecTexts:=aQ aR (aG bBK (aG h_s_DrawShowVec (aG xE (aG aPL (aG mT (aG aLS (aG h_s_DrawReadVec (aG aBC (aG yV (aG aHT (aG aHR aO))))))))))) e_w_FnVecTexts v_w_FnVecTexts
end
end Go.Proofs.YtdeobhdbmehpgaaGreat
