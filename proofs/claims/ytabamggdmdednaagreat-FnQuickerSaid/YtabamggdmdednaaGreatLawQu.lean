/- LawQu: trees, and what they say. -/
import Derived.Test.YtabamggdmdednaaGreatDrawCf
import Derived.Test.YtabamggdmdednaaGreatCoreO
namespace Go.Proofs.YtabamggdmdednaaGreat
open Go.ChangeShapes Go.WideShapes Go.ChangeAt Go.RowKit Go.Deep
set_option linter.unusedVariables false
set_option linter.unusedSimpArgs false
theorem sumB9 {B:Nat}:{l:List Nat}→(∀ x∈l,x≤B)→l.sum≤l.length * B
 | [],_=>by simp
 | x :: l,h=>by
  have h1:=sumB9 (fun y hy=>h y (List.mem_cons_of_mem _ hy)) (l:=l)
  have h2:=h x (by simp)
  rw[List.sum_cons,List.length_cons,Nat.succ_mul];omega
theorem cf_sz {c:bG} {l:bO} (h:aBN 9 4 6 c l):bM aC c≤2000000∧bM aG l≤2000000:=by
 obtain ⟨h1,h2,h3,h4,h5,h6,h7,h8⟩:=h
 constructor
 ·have e:bM aC c=(List.length c.1+((c.1:List dI).map (bM bF)).sum)+(bM aB c.2.1+(0+((List.length c.2.2.2.1+((c.2.2.2.1:List Bool).map (bM .bool)).sum)+(bM aB c.2.2.2.2.1+bM aB c.2.2.2.2.2)))):=rfl
  have g1:=sumB9 (B:=40) (l:=(c.1:List dI).map (bM bF)) (fun x hx=>by
   obtain ⟨o,ho,rfl⟩:=List.mem_map.1 hx
   have e2:bM bF o=0+(0+(0+bM aB o.2.2.2)):=rfl
   have:=h2 o ho
   rw[e2,gO];omega)
  rw[List.length_map] at g1
  have g2:=sumB9 (B:=0) (l:=(c.2.2.2.1:List Bool).map (bM .bool)) (fun x hx=>by
   obtain ⟨o,ho,rfl⟩:=List.mem_map.1 hx
   exact Nat.le_refl _)
  rw[List.length_map] at g2
  rw[e,gO,gO,gO];omega
 ·have e:bM aG l=List.length l+((l:List bT).map (bM aO)).sum:=rfl
  have g1:=sumB9 (B:=14) (l:=(l:List bT).map (bM aO)) (fun x hx=>by
   obtain ⟨o,ho,rfl⟩:=List.mem_map.1 hx
   have e2:bM aO o=bM aB o.1+bM aB o.2:=rfl
   have:=h8 o ho
   rw[e2,gO,gO];omega)
  rw[List.length_map] at g1
  rw[e];omega
noncomputable def eR:Con:=⟨3,(.slice 5 (.int .u8)),.bool,[.val ⟨false,(.slice 5 (.int .u8)),[]⟩],[⟨false,.bool,[0]⟩],false,none,
 ((fun _=>True):(List Int)→Prop),
 ((fun _=>true):(List Int)→(Bool))⟩
def t_w_FnQuicker:T:=.call 0 (.Z 0) <|.ite (.Z 1) (.ret (.cb true)) (.call 1 (.Z 0) <|.call 2 (.Z 2) <|.call 3 (.bRY aC aG (bB aC [(.p1 aE (.bRW aB (.bRW tI (.bRW bV aO))) (.p1 aC aG (.Z 2))),(aK aC 1 (.p1 aC aG (.Z 2))),(.ci .i64 1),(aP aC 3 (.p1 aC aG (.Z 2)))]) (aP (.bRW aC aG) 1 (.Z 2))) <|.call 3 (.bRY aC aG (bB aC [(.p1 aE (.bRW aB (.bRW tI (.bRW bV aO))) (.p1 aC aG (.Z 2))),(aK aC 1 (.p1 aC aG (.Z 2))),(.ci .i64 2),(aP aC 3 (.p1 aC aG (.Z 2)))]) (aP (.bRW aC aG) 1 (.Z 2))) <|.call 4 (.Z 2) <|
 .bRX (.cmp .neq .i64) (.bRY tI tI (.Z 3) (.Z 6)) <|
 .ite (.Z 7) (
  .ret (.cb false)) (
  .bRX (.cmp .eql .i64) (.bRY tI tI (.Z 3) (.ci .i64 0)) <|
  .ite (.Z 8) (
   .bRX .not (aP (.bRW tI (.bRW aB (.bRW aB .bool))) 3 (.Z 4)) <|
   .ite (.Z 9) (
    .bRX .not (aP (.bRW tI (.bRW aB (.bRW aB .bool))) 3 (.Z 5)) <|
    .ret (.Z 10)) (
    .ret (.cb false))) (
   .bRX (.cmp .eql .i64) (.bRY tI tI (.Z 3) (.ci .i64 1)) <|
   .ite (.Z 9) (
    .ite (aP (.bRW tI (.bRW aB (.bRW aB .bool))) 3 (.Z 4)) (
     .bRX .not (aP (.bRW tI (.bRW aB (.bRW aB .bool))) 3 (.Z 5)) <|
     .ite (.Z 10) (
      .ret (.cb true)) (
      .bRX (.cmp .leq .i64) (.bRY tI tI (.p1 tI (.bRW aB (.bRW aB .bool)) (.Z 4)) (.p1 tI (.bRW aB (.bRW aB .bool)) (.Z 5))) <|
      .ite (.Z 11) (
       .ret (.cb true)) (
       .bRX (.cmp .eql .i64) (.bRY tI tI (.Z 3) (.ci .i64 2)) <|
       .ite (.Z 12) (
        .ite (aP (.bRW tI (.bRW aB (.bRW aB .bool))) 3 (.Z 5)) (
         .bRX .not (aP (.bRW tI (.bRW aB (.bRW aB .bool))) 3 (.Z 4)) <|
         .ite (.Z 13) (
          .ret (.cb true)) (
          .bRX (.cmp .lss .i64) (.bRY tI tI (.p1 tI (.bRW aB (.bRW aB .bool)) (.Z 5)) (.p1 tI (.bRW aB (.bRW aB .bool)) (.Z 4))) <|
          .ret (.Z 14))) (
         .ret (.cb false))) (
        .ret (.cb false))))) (
     .bRX (.cmp .eql .i64) (.bRY tI tI (.Z 3) (.ci .i64 2)) <|
     .ite (.Z 10) (
      .ite (aP (.bRW tI (.bRW aB (.bRW aB .bool))) 3 (.Z 5)) (
       .bRX .not (aP (.bRW tI (.bRW aB (.bRW aB .bool))) 3 (.Z 4)) <|
       .ite (.Z 11) (
        .ret (.cb true)) (
        .bRX (.cmp .lss .i64) (.bRY tI tI (.p1 tI (.bRW aB (.bRW aB .bool)) (.Z 5)) (.p1 tI (.bRW aB (.bRW aB .bool)) (.Z 4))) <|
        .ret (.Z 12))) (
       .ret (.cb false))) (
      .ret (.cb false)))) (
    .bRX (.cmp .eql .i64) (.bRY tI tI (.Z 3) (.ci .i64 2)) <|
    .ite (.Z 10) (
     .ite (aP (.bRW tI (.bRW aB (.bRW aB .bool))) 3 (.Z 5)) (
      .bRX .not (aP (.bRW tI (.bRW aB (.bRW aB .bool))) 3 (.Z 4)) <|
      .ite (.Z 11) (
       .ret (.cb true)) (
       .bRX (.cmp .lss .i64) (.bRY tI tI (.p1 tI (.bRW aB (.bRW aB .bool)) (.Z 5)) (.p1 tI (.bRW aB (.bRW aB .bool)) (.Z 4))) <|
       .ret (.Z 12))) (
      .ret (.cb false))) (
     .ret (.cb false))))))
set_option maxRecDepth 100000 in
theorem e_w_FnQuicker:bI Tryz.prog [aH3,kY,mX,jA,nC] eR false 3000 ⟨[],[]⟩ = .ok t_w_FnQuicker:=by kernel_rfl
theorem v_w_FnQuicker (x:List Int) (hx:okD (.slice 5 (.int .u8)) x) (hp:(fun _=>True) x):t_w_FnQuicker.wp [aH3,kY,mX,jA,nC] [⟨(.slice 5 (.int .u8)),x⟩] [] (fun v=>v.as .bool=(fun _=>true) x):=by
 delta t_w_FnQuicker aH3 kY mX jA nC;refine cW ?_
 refine dB ?_
 refine ⟨fun _=>trivial,fun hb=>⟨by omega,fun _=>?_⟩⟩
 have q:=(aHB x hx (by show List.length x≤1048576;omega)).2
 generalize jB x=r at q ⊢
 obtain ⟨c,l⟩:=r
 have s1:=cf_sz q
 have s2:bM aC (c.1,c.2.1,1,c.2.2.2)≤2000000:=s1.1
 have s3:bM aC (c.1,c.2.1,2,c.2.2.2)≤2000000:=s1.1
 dsimp only
 unfold aEZ zN
 generalize uV (c.1,c.2.1,1,c.2.2.2) l=p
 generalize uV (c.1,c.2.1,2,c.2.2.2) l=z
 obtain ⟨t1,a1,a2,e1⟩:=p
 obtain ⟨t2,a3,a4,e2⟩:=z
 change Int at t1
 change Int at t2
 change Bool at e1
 change Bool at e2
 dsimp only
 refine ⟨s1,fun _=>⟨⟨s2,s1.2⟩,fun _=>⟨⟨s3,s1.2⟩,fun _=>⟨s1,fun _=>⟨fun h=>absurd trivial h,fun _=>?_⟩⟩⟩⟩⟩
 cases e1 <;> cases e2 <;> by_cases h:t2<t1 <;> simp[h] <;> omega
theorem h_w_FnQuicker:Con.Holds Tryz.prog eR:=aS aV (aI bO8 (aI uZ (aI aQ8 (aI aHW (aI aQF aQ))))) e_w_FnQuicker v_w_FnQuicker
end Go.Proofs.YtabamggdmdednaaGreat
