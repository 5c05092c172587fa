/- CoreF: trees, and what they say. -/
import Derived.Test.YtmfpkkbhnmkfdaaGreatCore7
namespace Go.Proofs.YtmfpkkbhnmkfdaaGreat
open Go.ChangeShapes Go.WideShapes Go.ChangeAt Go.RowKit Go.Deep
set_option linter.unusedVariables false
set_option linter.unusedSimpArgs false
noncomputable def mJ:Con:=⟨126,(.pair aA (.pair tI aI)),aA,[.val ⟨true,aA,[]⟩,.val ⟨false,tI,[]⟩,.val ⟨false,aB,[]⟩,.val ⟨false,aB,[]⟩],[⟨true,aA,[0,2,2,0,0,2,2,2,2,2,2,2,0,0]⟩],false,none,
 ((fun x=>aW aA x.1≤1000000000):(bA × (Int × cN))→Prop),
 ((fun x=>xE x.1 x.2.1 x.2.2.1 x.2.2.2):(bA × (Int × cN))→(bA))⟩
def uU:T :=
 .call 0 (.p1 aA (.pair tI aI) (.vr 0)) <|
 .call 1 (.p1 aA (.pair tI aI) (.vr 0)) <|
 .call 2 (.p1 aA (.pair tI aI) (.vr 0)) <|
 .prim .not (.vr 3) <|
 .ite (.vr 4) (
  .ret (.vr 1)) (
  .call 3 (.vr 2) <|
  .call 4 (.mk2 aB tI (aJ (.pair aA (.pair tI aI)) 2 (.vr 0)) (.vr 5)) <|
  .prim .not (.vr 6) <|
  .ite (.vr 7) (
   .ret (.vr 1)) (
   .call 5 (.mk2 (.slice 186 aC) tI (aJ aA 5 (.p1 aA (.pair tI aI) (.vr 0))) (aJ (.pair aA (.pair tI aI)) 1 (.vr 0))) <|
   .prim (.cmp .geq .i64) (.mk2 tI tI (.vr 8) (.ci .i64 0)) <|
   .ite (.vr 9) (
    .ret (.vr 1)) (
    .ite (aJ aA 3 (.p1 aA (.pair tI aI) (.vr 0))) (
     .call 6 (.vr 2) <|
     .call 4 (.mk2 aB tI (aQ (.pair aA (.pair tI aI)) 3 (.vr 0)) (.vr 10)) <|
     .prim .not (.vr 11) <|
     .ite (.vr 12) (
      .ret (.vr 1)) (
      .call 7 (.mk2 aN aB (.vr 2) (aJ (.pair aA (.pair tI aI)) 2 (.vr 0))) <|
      .prim (.llen 219 aZ) (aJ aA 2 (.p1 aA (.pair tI aI) (.vr 0))) <|
      .prim (.lidx 188 aB) (.mk2 aG tI (.p1 aG .bool (.vr 13)) (.vr 14)) <|
      .prim (.lidx 188 aB) (.mk2 aG tI (.p1 aG .bool (.vr 13)) (.vr 14)) <|
      .ite (aJ aA 4 (.p1 aA (.pair tI aI) (.vr 0))) (
       .prim (.lsub 188 aB) (bF (.pair aG aO) [(.p1 aG .bool (.vr 13)),(.ci .i64 0),(.ci .i64 1)]) <|
       .call 8 (.vr 17) <|
       .prim (.lit 186 aC 1) (.mk2 tI aG (aJ (.pair aA (.pair tI aI)) 1 (.vr 0)) (.vr 18)) <|
       .prim (.lapp 186 aC 32) (.mk2 (.slice 186 aC) (.slice 186 aC) (aJ aA 5 (.vr 1)) (.vr 19)) <|
       .ite (aQ aA 13 (.vr 1)) (
        .prim .not (aJ aA 3 (.p1 aA (.pair tI aI) (.vr 0))) <|
        .ite (.vr 21) (
         .call 9 (.vr 16) <|
         .ret (bF aA [(.p1 tI cT (.vr 1)),(aJ aA 1 (.vr 1)),(aJ aA 2 (.vr 1)),(aJ aA 3 (.vr 1)),(aJ aA 4 (.vr 1)),(.vr 20),(aJ aA 6 (.vr 1)),(.nl 3 tI),(.vr 22),(aJ aA 9 (.vr 1)),(aJ aA 10 (.vr 1)),(aJ aA 11 (.vr 1)),(aJ aA 12 (.vr 1)),(.cb true)])) (
         .call 10 (.mk2 aB aB (.vr 16) (aQ (.pair aA (.pair tI aI)) 3 (.vr 0))) <|
         .call 11 (.mk2 tI tI (aJ aA 12 (.vr 1)) (.p1 tI .bool (.vr 22))) <|
         .ret (bF aA [(.p1 tI cT (.vr 1)),(aJ aA 1 (.vr 1)),(aJ aA 2 (.vr 1)),(aJ aA 3 (.vr 1)),(aJ aA 4 (.vr 1)),(.vr 20),(aJ aA 6 (.vr 1)),(.nl 3 tI),(aJ aA 8 (.vr 1)),(aJ aA 9 (.vr 1)),(aJ aA 10 (.vr 1)),(aJ aA 11 (.vr 1)),(.p1 tI .bool (.vr 23)),(.cb true)]))) (
        .prim .not (aJ aA 3 (.p1 aA (.pair tI aI) (.vr 0))) <|
        .ite (.vr 21) (
         .call 9 (.vr 16) <|
         .ret (bF aA [(.p1 tI cT (.vr 1)),(aJ aA 1 (.vr 1)),(aJ aA 2 (.vr 1)),(aJ aA 3 (.vr 1)),(aJ aA 4 (.vr 1)),(.vr 20),(aJ aA 6 (.vr 1)),(.nl 3 tI),(.vr 22),(aJ aA 9 (.vr 1)),(aJ aA 10 (.vr 1)),(aJ aA 11 (.vr 1)),(aJ aA 12 (.vr 1)),(aQ (.pair aG .bool) 1 (.vr 13))])) (
         .call 10 (.mk2 aB aB (.vr 16) (aQ (.pair aA (.pair tI aI)) 3 (.vr 0))) <|
         .call 11 (.mk2 tI tI (aJ aA 12 (.vr 1)) (.p1 tI .bool (.vr 22))) <|
         .ite (aQ (.pair aG .bool) 1 (.vr 13)) (
          .ret (bF aA [(.p1 tI cT (.vr 1)),(aJ aA 1 (.vr 1)),(aJ aA 2 (.vr 1)),(aJ aA 3 (.vr 1)),(aJ aA 4 (.vr 1)),(.vr 20),(aJ aA 6 (.vr 1)),(.nl 3 tI),(aJ aA 8 (.vr 1)),(aJ aA 9 (.vr 1)),(aJ aA 10 (.vr 1)),(aJ aA 11 (.vr 1)),(.p1 tI .bool (.vr 23)),(.cb true)])) (
          .ite (aQ (.pair tI .bool) 1 (.vr 22)) (
           .ret (bF aA [(.p1 tI cT (.vr 1)),(aJ aA 1 (.vr 1)),(aJ aA 2 (.vr 1)),(aJ aA 3 (.vr 1)),(aJ aA 4 (.vr 1)),(.vr 20),(aJ aA 6 (.vr 1)),(.nl 3 tI),(aJ aA 8 (.vr 1)),(aJ aA 9 (.vr 1)),(aJ aA 10 (.vr 1)),(aJ aA 11 (.vr 1)),(.p1 tI .bool (.vr 23)),(.cb true)])) (
           .ret (bF aA [(.p1 tI cT (.vr 1)),(aJ aA 1 (.vr 1)),(aJ aA 2 (.vr 1)),(aJ aA 3 (.vr 1)),(aJ aA 4 (.vr 1)),(.vr 20),(aJ aA 6 (.vr 1)),(.nl 3 tI),(aJ aA 8 (.vr 1)),(aJ aA 9 (.vr 1)),(aJ aA 10 (.vr 1)),(aJ aA 11 (.vr 1)),(.vr 23)])))))) (
       .call 8 (.p1 aG .bool (.vr 13)) <|
       .prim (.lit 186 aC 1) (.mk2 tI aG (aJ (.pair aA (.pair tI aI)) 1 (.vr 0)) (.vr 17)) <|
       .prim (.lapp 186 aC 32) (.mk2 (.slice 186 aC) (.slice 186 aC) (aJ aA 5 (.vr 1)) (.vr 18)) <|
       .ite (aQ aA 13 (.vr 1)) (
        .prim .not (aJ aA 3 (.p1 aA (.pair tI aI) (.vr 0))) <|
        .ite (.vr 20) (
         .call 9 (.vr 16) <|
         .ret (bF aA [(.p1 tI cT (.vr 1)),(aJ aA 1 (.vr 1)),(aJ aA 2 (.vr 1)),(aJ aA 3 (.vr 1)),(aJ aA 4 (.vr 1)),(.vr 19),(aJ aA 6 (.vr 1)),(.nl 3 tI),(.vr 21),(aJ aA 9 (.vr 1)),(aJ aA 10 (.vr 1)),(aJ aA 11 (.vr 1)),(aJ aA 12 (.vr 1)),(.cb true)])) (
         .call 10 (.mk2 aB aB (.vr 16) (aQ (.pair aA (.pair tI aI)) 3 (.vr 0))) <|
         .call 11 (.mk2 tI tI (aJ aA 12 (.vr 1)) (.p1 tI .bool (.vr 21))) <|
         .ret (bF aA [(.p1 tI cT (.vr 1)),(aJ aA 1 (.vr 1)),(aJ aA 2 (.vr 1)),(aJ aA 3 (.vr 1)),(aJ aA 4 (.vr 1)),(.vr 19),(aJ aA 6 (.vr 1)),(.nl 3 tI),(aJ aA 8 (.vr 1)),(aJ aA 9 (.vr 1)),(aJ aA 10 (.vr 1)),(aJ aA 11 (.vr 1)),(.p1 tI .bool (.vr 22)),(.cb true)]))) (
        .prim .not (aJ aA 3 (.p1 aA (.pair tI aI) (.vr 0))) <|
        .ite (.vr 20) (
         .call 9 (.vr 16) <|
         .ret (bF aA [(.p1 tI cT (.vr 1)),(aJ aA 1 (.vr 1)),(aJ aA 2 (.vr 1)),(aJ aA 3 (.vr 1)),(aJ aA 4 (.vr 1)),(.vr 19),(aJ aA 6 (.vr 1)),(.nl 3 tI),(.vr 21),(aJ aA 9 (.vr 1)),(aJ aA 10 (.vr 1)),(aJ aA 11 (.vr 1)),(aJ aA 12 (.vr 1)),(aQ (.pair aG .bool) 1 (.vr 13))])) (
         .call 10 (.mk2 aB aB (.vr 16) (aQ (.pair aA (.pair tI aI)) 3 (.vr 0))) <|
         .call 11 (.mk2 tI tI (aJ aA 12 (.vr 1)) (.p1 tI .bool (.vr 21))) <|
         .ite (aQ (.pair aG .bool) 1 (.vr 13)) (
          .ret (bF aA [(.p1 tI cT (.vr 1)),(aJ aA 1 (.vr 1)),(aJ aA 2 (.vr 1)),(aJ aA 3 (.vr 1)),(aJ aA 4 (.vr 1)),(.vr 19),(aJ aA 6 (.vr 1)),(.nl 3 tI),(aJ aA 8 (.vr 1)),(aJ aA 9 (.vr 1)),(aJ aA 10 (.vr 1)),(aJ aA 11 (.vr 1)),(.p1 tI .bool (.vr 22)),(.cb true)])) (
          .ite (aQ (.pair tI .bool) 1 (.vr 21)) (
           .ret (bF aA [(.p1 tI cT (.vr 1)),(aJ aA 1 (.vr 1)),(aJ aA 2 (.vr 1)),(aJ aA 3 (.vr 1)),(aJ aA 4 (.vr 1)),(.vr 19),(aJ aA 6 (.vr 1)),(.nl 3 tI),(aJ aA 8 (.vr 1)),(aJ aA 9 (.vr 1)),(aJ aA 10 (.vr 1)),(aJ aA 11 (.vr 1)),(.p1 tI .bool (.vr 22)),(.cb true)])) (
           .ret (bF aA [(.p1 tI cT (.vr 1)),(aJ aA 1 (.vr 1)),(aJ aA 2 (.vr 1)),(aJ aA 3 (.vr 1)),(aJ aA 4 (.vr 1)),(.vr 19),(aJ aA 6 (.vr 1)),(.nl 3 tI),(aJ aA 8 (.vr 1)),(aJ aA 9 (.vr 1)),(aJ aA 10 (.vr 1)),(aJ aA 11 (.vr 1)),(.vr 22)])))))))) (
     .call 7 (.mk2 aN aB (.vr 2) (aJ (.pair aA (.pair tI aI)) 2 (.vr 0))) <|
     .prim (.llen 219 aZ) (aJ aA 2 (.p1 aA (.pair tI aI) (.vr 0))) <|
     .prim (.lidx 188 aB) (.mk2 aG tI (.p1 aG .bool (.vr 10)) (.vr 11)) <|
     .prim (.lidx 188 aB) (.mk2 aG tI (.p1 aG .bool (.vr 10)) (.vr 11)) <|
     .ite (aJ aA 4 (.p1 aA (.pair tI aI) (.vr 0))) (
      .prim (.lsub 188 aB) (bF (.pair aG aO) [(.p1 aG .bool (.vr 10)),(.ci .i64 0),(.ci .i64 1)]) <|
      .call 8 (.vr 14) <|
      .prim (.lit 186 aC 1) (.mk2 tI aG (aJ (.pair aA (.pair tI aI)) 1 (.vr 0)) (.vr 15)) <|
      .prim (.lapp 186 aC 32) (.mk2 (.slice 186 aC) (.slice 186 aC) (aJ aA 5 (.vr 1)) (.vr 16)) <|
      .ite (aQ aA 13 (.vr 1)) (
       .prim .not (aJ aA 3 (.p1 aA (.pair tI aI) (.vr 0))) <|
       .ite (.vr 18) (
        .call 9 (.vr 13) <|
        .ret (bF aA [(.p1 tI cT (.vr 1)),(aJ aA 1 (.vr 1)),(aJ aA 2 (.vr 1)),(aJ aA 3 (.vr 1)),(aJ aA 4 (.vr 1)),(.vr 17),(aJ aA 6 (.vr 1)),(.nl 3 tI),(.vr 19),(aJ aA 9 (.vr 1)),(aJ aA 10 (.vr 1)),(aJ aA 11 (.vr 1)),(aJ aA 12 (.vr 1)),(.cb true)])) (
        .call 10 (.mk2 aB aB (.vr 13) (aQ (.pair aA (.pair tI aI)) 3 (.vr 0))) <|
        .call 11 (.mk2 tI tI (aJ aA 12 (.vr 1)) (.p1 tI .bool (.vr 19))) <|
        .ret (bF aA [(.p1 tI cT (.vr 1)),(aJ aA 1 (.vr 1)),(aJ aA 2 (.vr 1)),(aJ aA 3 (.vr 1)),(aJ aA 4 (.vr 1)),(.vr 17),(aJ aA 6 (.vr 1)),(.nl 3 tI),(aJ aA 8 (.vr 1)),(aJ aA 9 (.vr 1)),(aJ aA 10 (.vr 1)),(aJ aA 11 (.vr 1)),(.p1 tI .bool (.vr 20)),(.cb true)]))) (
       .prim .not (aJ aA 3 (.p1 aA (.pair tI aI) (.vr 0))) <|
       .ite (.vr 18) (
        .call 9 (.vr 13) <|
        .ret (bF aA [(.p1 tI cT (.vr 1)),(aJ aA 1 (.vr 1)),(aJ aA 2 (.vr 1)),(aJ aA 3 (.vr 1)),(aJ aA 4 (.vr 1)),(.vr 17),(aJ aA 6 (.vr 1)),(.nl 3 tI),(.vr 19),(aJ aA 9 (.vr 1)),(aJ aA 10 (.vr 1)),(aJ aA 11 (.vr 1)),(aJ aA 12 (.vr 1)),(aQ (.pair aG .bool) 1 (.vr 10))])) (
        .call 10 (.mk2 aB aB (.vr 13) (aQ (.pair aA (.pair tI aI)) 3 (.vr 0))) <|
        .call 11 (.mk2 tI tI (aJ aA 12 (.vr 1)) (.p1 tI .bool (.vr 19))) <|
        .ite (aQ (.pair aG .bool) 1 (.vr 10)) (
         .ret (bF aA [(.p1 tI cT (.vr 1)),(aJ aA 1 (.vr 1)),(aJ aA 2 (.vr 1)),(aJ aA 3 (.vr 1)),(aJ aA 4 (.vr 1)),(.vr 17),(aJ aA 6 (.vr 1)),(.nl 3 tI),(aJ aA 8 (.vr 1)),(aJ aA 9 (.vr 1)),(aJ aA 10 (.vr 1)),(aJ aA 11 (.vr 1)),(.p1 tI .bool (.vr 20)),(.cb true)])) (
         .ite (aQ (.pair tI .bool) 1 (.vr 19)) (
          .ret (bF aA [(.p1 tI cT (.vr 1)),(aJ aA 1 (.vr 1)),(aJ aA 2 (.vr 1)),(aJ aA 3 (.vr 1)),(aJ aA 4 (.vr 1)),(.vr 17),(aJ aA 6 (.vr 1)),(.nl 3 tI),(aJ aA 8 (.vr 1)),(aJ aA 9 (.vr 1)),(aJ aA 10 (.vr 1)),(aJ aA 11 (.vr 1)),(.p1 tI .bool (.vr 20)),(.cb true)])) (
          .ret (bF aA [(.p1 tI cT (.vr 1)),(aJ aA 1 (.vr 1)),(aJ aA 2 (.vr 1)),(aJ aA 3 (.vr 1)),(aJ aA 4 (.vr 1)),(.vr 17),(aJ aA 6 (.vr 1)),(.nl 3 tI),(aJ aA 8 (.vr 1)),(aJ aA 9 (.vr 1)),(aJ aA 10 (.vr 1)),(aJ aA 11 (.vr 1)),(.vr 20)])))))) (
      .call 8 (.p1 aG .bool (.vr 10)) <|
      .prim (.lit 186 aC 1) (.mk2 tI aG (aJ (.pair aA (.pair tI aI)) 1 (.vr 0)) (.vr 14)) <|
      .prim (.lapp 186 aC 32) (.mk2 (.slice 186 aC) (.slice 186 aC) (aJ aA 5 (.vr 1)) (.vr 15)) <|
      .ite (aQ aA 13 (.vr 1)) (
       .prim .not (aJ aA 3 (.p1 aA (.pair tI aI) (.vr 0))) <|
       .ite (.vr 17) (
        .call 9 (.vr 13) <|
        .ret (bF aA [(.p1 tI cT (.vr 1)),(aJ aA 1 (.vr 1)),(aJ aA 2 (.vr 1)),(aJ aA 3 (.vr 1)),(aJ aA 4 (.vr 1)),(.vr 16),(aJ aA 6 (.vr 1)),(.nl 3 tI),(.vr 18),(aJ aA 9 (.vr 1)),(aJ aA 10 (.vr 1)),(aJ aA 11 (.vr 1)),(aJ aA 12 (.vr 1)),(.cb true)])) (
        .call 10 (.mk2 aB aB (.vr 13) (aQ (.pair aA (.pair tI aI)) 3 (.vr 0))) <|
        .call 11 (.mk2 tI tI (aJ aA 12 (.vr 1)) (.p1 tI .bool (.vr 18))) <|
        .ret (bF aA [(.p1 tI cT (.vr 1)),(aJ aA 1 (.vr 1)),(aJ aA 2 (.vr 1)),(aJ aA 3 (.vr 1)),(aJ aA 4 (.vr 1)),(.vr 16),(aJ aA 6 (.vr 1)),(.nl 3 tI),(aJ aA 8 (.vr 1)),(aJ aA 9 (.vr 1)),(aJ aA 10 (.vr 1)),(aJ aA 11 (.vr 1)),(.p1 tI .bool (.vr 19)),(.cb true)]))) (
       .prim .not (aJ aA 3 (.p1 aA (.pair tI aI) (.vr 0))) <|
       .ite (.vr 17) (
        .call 9 (.vr 13) <|
        .ret (bF aA [(.p1 tI cT (.vr 1)),(aJ aA 1 (.vr 1)),(aJ aA 2 (.vr 1)),(aJ aA 3 (.vr 1)),(aJ aA 4 (.vr 1)),(.vr 16),(aJ aA 6 (.vr 1)),(.nl 3 tI),(.vr 18),(aJ aA 9 (.vr 1)),(aJ aA 10 (.vr 1)),(aJ aA 11 (.vr 1)),(aJ aA 12 (.vr 1)),(aQ (.pair aG .bool) 1 (.vr 10))])) (
        .call 10 (.mk2 aB aB (.vr 13) (aQ (.pair aA (.pair tI aI)) 3 (.vr 0))) <|
        .call 11 (.mk2 tI tI (aJ aA 12 (.vr 1)) (.p1 tI .bool (.vr 18))) <|
        .ite (aQ (.pair aG .bool) 1 (.vr 10)) (
         .ret (bF aA [(.p1 tI cT (.vr 1)),(aJ aA 1 (.vr 1)),(aJ aA 2 (.vr 1)),(aJ aA 3 (.vr 1)),(aJ aA 4 (.vr 1)),(.vr 16),(aJ aA 6 (.vr 1)),(.nl 3 tI),(aJ aA 8 (.vr 1)),(aJ aA 9 (.vr 1)),(aJ aA 10 (.vr 1)),(aJ aA 11 (.vr 1)),(.p1 tI .bool (.vr 19)),(.cb true)])) (
         .ite (aQ (.pair tI .bool) 1 (.vr 18)) (
          .ret (bF aA [(.p1 tI cT (.vr 1)),(aJ aA 1 (.vr 1)),(aJ aA 2 (.vr 1)),(aJ aA 3 (.vr 1)),(aJ aA 4 (.vr 1)),(.vr 16),(aJ aA 6 (.vr 1)),(.nl 3 tI),(aJ aA 8 (.vr 1)),(aJ aA 9 (.vr 1)),(aJ aA 10 (.vr 1)),(aJ aA 11 (.vr 1)),(.p1 tI .bool (.vr 19)),(.cb true)])) (
          .ret (bF aA [(.p1 tI cT (.vr 1)),(aJ aA 1 (.vr 1)),(aJ aA 2 (.vr 1)),(aJ aA 3 (.vr 1)),(aJ aA 4 (.vr 1)),(.vr 16),(aJ aA 6 (.vr 1)),(.nl 3 tI),(aJ aA 8 (.vr 1)),(aJ aA 9 (.vr 1)),(aJ aA 10 (.vr 1)),(aJ aA 11 (.vr 1)),(.vr 19)]))))))))))
set_option maxRecDepth 100000 in
theorem aLA:bS Tryz.prog [cW,dU,dX,kD,bV,dZ,iG,jR,eP,bN,pV,eJ] mJ false 3000 ⟨[],[(2973,104017,[],[33]),(2971,104018,[73],[]),(2971,72017,[73],[]),(2973,48014,[],[33]),(2971,48015,[73],[]),(2971,32014,[73],[])]⟩ = .ok uU:=by kernel_rfl
theorem aK1 (x:bA × (Int × cN)) (hx:okD (.pair aA (.pair tI aI)) x) (hp:(fun x=>aW aA x.1≤1000000000) x):uU.wp [cW,dU,dX,kD,bV,dZ,iG,jR,eP,bN,pV,eJ] [⟨(.pair aA (.pair tI aI)),x⟩] [] (fun v=>v.as aA = (fun x=>xE x.1 x.2.1 x.2.2.1 x.2.2.2) x):=by
 obtain ⟨s,m,v,t⟩:=x
 delta uU cW dU dX kD bV dZ iG jR eP bN pV eJ;refine eS ?_;try with_reducible exact True.intro
 (refine gR ?_;try with_reducible exact True.intro)
 refine ⟨hp,fun _ _=>⟨fun h=>rQ (.inl h),fun h1 _=>⟨fun h=>rQ (.inr (.inl h)),fun h2 _=>⟨fun h=>rQ (.inr (.inr (.inl h))),fun h3=>?_⟩⟩⟩⟩
 have hm:=(eF s).1 h1
 rw [show tP s.2.2.1 v = _ from if_pos ⟨hm.1,h2⟩]
 have hl:=oY s.2.2.1 v s.2.2.1.length
 have hx6:=aC4 h2
 have hn8:=((cK _).1 hm.1).2.1
 have h6:=tA s.2.2.1 v hx6 s.2.2.1.length
 have hy6:(List.getD (jC s.2.2.1 v s.2.2.1.length).1 s.2.2.1.length (aS aB)).length≤6:=aC6 h6 _
 have hst:=(lN (t:=aA) hp).2.2.2.2.2.1.1
 replace hst:List.length s.2.2.2.2.2.1≤1000000000:=hst
 constructor
 ·intro hla _
  refine ⟨fun h=>rQ (.inr (.inr (.inr ⟨hla,h⟩))),fun h4=>?_⟩
  have hy:=aE7 h1 h2 h3 (fun _=>h4)
  (repeat' first | intro _ | (with_reducible apply And.intro))
  all_goals first | omega | exact Bool.noConfusion ((by assumption:s.2.2.2.1 = true).symm.trans (by assumption:s.2.2.2.1 = false)) | (unfold maxLen;omega) | (simp only [List.drop_zero,List.length_take];omega) | exact Nat.le_trans (h6 _ (by assumption)) (by decide) | exact Nat.le_trans (h6 _ (List.mem_of_mem_take (by assumption))) (by decide) | skip
  all_goals first | exact Bool.noConfusion ((by assumption:s.2.2.2.1 = true).symm.trans (by assumption:s.2.2.2.1 = false)) | refine (aEJ (by assumption) ?_ ?_ ?_).trans hy | refine (aEC (by assumption) ?_ ?_).trans hy
  all_goals first | rfl | (rw [← aKG (by assumption)]) | (rw [← aKS (by assumption)]) | exact aUB (by assumption) | exact aTS (by assumption) | exact aUQ (by assumption) | exact aU8 (by assumption) (by assumption) (by assumption) | exact gP (by assumption) | exact kN (by assumption) | (simp [*];done) | skip
 ·intro hla
  have hy:=aE7 (t:=t) h1 h2 h3 (fun h=>absurd h (by simp [hla]))
  (repeat' first | intro _ | (with_reducible apply And.intro))
  all_goals first | omega | exact Bool.noConfusion ((by assumption:s.2.2.2.1 = true).symm.trans (by assumption:s.2.2.2.1 = false)) | (unfold maxLen;omega) | (simp only [List.drop_zero,List.length_take];omega) | exact Nat.le_trans (h6 _ (by assumption)) (by decide) | exact Nat.le_trans (h6 _ (List.mem_of_mem_take (by assumption))) (by decide) | skip
  all_goals first | exact Bool.noConfusion ((by assumption:s.2.2.2.1 = true).symm.trans (by assumption:s.2.2.2.1 = false)) | refine (aEJ (by assumption) ?_ ?_ ?_).trans hy | refine (aEC (by assumption) ?_ ?_).trans hy
  all_goals first | rfl | (rw [← aKG (by assumption)]) | (rw [← aKS (by assumption)]) | exact aUB (by assumption) | exact aTS (by assumption) | exact aUQ (by assumption) | exact aU8 (by assumption) (by assumption) (by assumption) | exact gP (by assumption) | exact kN (by assumption) | (simp [*];done) | skip
theorem aJU:Con.Holds Tryz.prog mJ:=aT aY (aK nB (aK qT (aK rI (aK aH1 (aK jG (aK sE (aK aC9 (aK aGZ (aK tR (aK fW (aK aRK (aK uK aU)))))))))))) aLA fun x hx hp=>aK1 x hx hp
noncomputable def lX:Con:=⟨118,(.pair aA (.pair tI aI)),aA,[.val ⟨true,aA,[]⟩,.val ⟨false,tI,[]⟩,.val ⟨false,aB,[]⟩,.val ⟨false,aB,[]⟩],[⟨true,aA,[0,0,0,0,0,0,0,0,0,0,0,0,0,0]⟩],false,none,
 ((fun x=>aW aA x.1≤1000000000):(bA × (Int × cN))→Prop),
 ((fun x=>xE x.1 x.2.1 x.2.2.1 x.2.2.2):(bA × (Int × cN))→(bA))⟩
def tV:T :=
 .call 0 (.p1 aA (.pair tI aI) (.vr 0)) <|
 .call 1 (.p1 aA (.pair tI aI) (.vr 0)) <|
 .prim .not (.vr 2) <|
 .ite (.vr 3) (
  .ret (.vr 1)) (
  .call 2 (aJ (.pair aA (.pair tI aI)) 2 (.vr 0)) <|
  .prim .not (.vr 4) <|
  .ite (.vr 5) (
   .ret (.vr 1)) (
   .prim (.llen 3 tI) (aJ (.pair aA (.pair tI aI)) 2 (.vr 0)) <|
   .prim (.lidx 219 aZ) (.mk2 aN tI (aJ aA 2 (.p1 aA (.pair tI aI) (.vr 0))) (.ci .i64 0)) <|
   .prim (.cmp .neq .i64) (.mk2 tI tI (.vr 6) (aJ aZ 1 (.vr 7))) <|
   .ite (.vr 8) (
    .ret (.vr 1)) (
    .call 3 (.mk2 (.slice 186 aC) tI (aJ aA 5 (.p1 aA (.pair tI aI) (.vr 0))) (aJ (.pair aA (.pair tI aI)) 1 (.vr 0))) <|
    .prim (.cmp .geq .i64) (.mk2 tI tI (.vr 9) (.ci .i64 0)) <|
    .ite (.vr 10) (
     .ret (.vr 1)) (
     .ite (aJ aA 3 (.p1 aA (.pair tI aI) (.vr 0))) (
      .call 2 (aQ (.pair aA (.pair tI aI)) 3 (.vr 0)) <|
      .prim .not (.vr 11) <|
      .ite (.vr 12) (
       .ret (.vr 1)) (
       .prim (.llen 3 tI) (aQ (.pair aA (.pair tI aI)) 3 (.vr 0)) <|
       .prim (.llen 219 aZ) (aJ aA 2 (.p1 aA (.pair tI aI) (.vr 0))) <|
       .prim (.ar .sub .i64) (.mk2 tI tI (.vr 14) (.ci .i64 1)) <|
       .prim (.lidx 219 aZ) (.mk2 aN tI (aJ aA 2 (.p1 aA (.pair tI aI) (.vr 0))) (.vr 15)) <|
       .prim (.cmp .neq .i64) (.mk2 tI tI (.vr 13) (aJ aZ 2 (.vr 16))) <|
       .ite (.vr 17) (
        .ret (.vr 1)) (
        .call 4 (.mk2 aN aB (aJ aA 2 (.p1 aA (.pair tI aI) (.vr 0))) (aJ (.pair aA (.pair tI aI)) 2 (.vr 0))) <|
        .prim (.llen 188 aB) (.p1 aG .bool (.vr 18)) <|
        .prim (.ar .sub .i64) (.mk2 tI tI (.vr 19) (.ci .i64 1)) <|
        .prim (.lidx 188 aB) (.mk2 aG tI (.p1 aG .bool (.vr 18)) (.vr 20)) <|
        .prim (.lidx 188 aB) (.mk2 aG tI (.p1 aG .bool (.vr 18)) (.vr 20)) <|
        .ite (aQ aA 13 (.p1 aA (.pair tI aI) (.vr 0))) (
         .call 5 (.mk2 aB aB (.vr 22) (aQ (.pair aA (.pair tI aI)) 3 (.vr 0))) <|
         .call 6 (.mk2 tI tI (aJ aA 12 (.p1 aA (.pair tI aI) (.vr 0))) (.p1 tI .bool (.vr 23))) <|
         .ite (aJ aA 4 (.p1 aA (.pair tI aI) (.vr 0))) (
          .prim (.lsub 188 aB) (bF (.pair aG aO) [(.p1 aG .bool (.vr 18)),(.ci .i64 0),(.ci .i64 1)]) <|
          .prim (.lit 186 aC 1) (.mk2 tI aG (aJ (.pair aA (.pair tI aI)) 1 (.vr 0)) (.vr 25)) <|
          .prim (.lapp 186 aC 32) (.mk2 (.slice 186 aC) (.slice 186 aC) (aJ aA 5 (.vr 1)) (.vr 26)) <|
          .ret (bF aA [(.p1 tI cT (.vr 1)),(aJ aA 1 (.vr 1)),(aJ aA 2 (.vr 1)),(aJ aA 3 (.vr 1)),(aJ aA 4 (.vr 1)),(.vr 27),(aJ aA 6 (.vr 1)),(.nl 3 tI),(aJ aA 8 (.vr 1)),(aJ aA 9 (.vr 1)),(aJ aA 10 (.vr 1)),(aJ aA 11 (.vr 1)),(.p1 tI .bool (.vr 24)),(.cb true)])) (
          .prim (.lit 186 aC 1) (.mk2 tI aG (aJ (.pair aA (.pair tI aI)) 1 (.vr 0)) (.p1 aG .bool (.vr 18))) <|
          .prim (.lapp 186 aC 32) (.mk2 (.slice 186 aC) (.slice 186 aC) (aJ aA 5 (.vr 1)) (.vr 25)) <|
          .ret (bF aA [(.p1 tI cT (.vr 1)),(aJ aA 1 (.vr 1)),(aJ aA 2 (.vr 1)),(aJ aA 3 (.vr 1)),(aJ aA 4 (.vr 1)),(.vr 26),(aJ aA 6 (.vr 1)),(.nl 3 tI),(aJ aA 8 (.vr 1)),(aJ aA 9 (.vr 1)),(aJ aA 10 (.vr 1)),(aJ aA 11 (.vr 1)),(.p1 tI .bool (.vr 24)),(.cb true)]))) (
         .call 5 (.mk2 aB aB (.vr 22) (aQ (.pair aA (.pair tI aI)) 3 (.vr 0))) <|
         .call 6 (.mk2 tI tI (aJ aA 12 (.p1 aA (.pair tI aI) (.vr 0))) (.p1 tI .bool (.vr 23))) <|
         .ite (aQ (.pair aG .bool) 1 (.vr 18)) (
          .ite (aJ aA 4 (.p1 aA (.pair tI aI) (.vr 0))) (
           .prim (.lsub 188 aB) (bF (.pair aG aO) [(.p1 aG .bool (.vr 18)),(.ci .i64 0),(.ci .i64 1)]) <|
           .prim (.lit 186 aC 1) (.mk2 tI aG (aJ (.pair aA (.pair tI aI)) 1 (.vr 0)) (.vr 25)) <|
           .prim (.lapp 186 aC 32) (.mk2 (.slice 186 aC) (.slice 186 aC) (aJ aA 5 (.vr 1)) (.vr 26)) <|
           .ret (bF aA [(.p1 tI cT (.vr 1)),(aJ aA 1 (.vr 1)),(aJ aA 2 (.vr 1)),(aJ aA 3 (.vr 1)),(aJ aA 4 (.vr 1)),(.vr 27),(aJ aA 6 (.vr 1)),(.nl 3 tI),(aJ aA 8 (.vr 1)),(aJ aA 9 (.vr 1)),(aJ aA 10 (.vr 1)),(aJ aA 11 (.vr 1)),(.p1 tI .bool (.vr 24)),(.cb true)])) (
           .prim (.lit 186 aC 1) (.mk2 tI aG (aJ (.pair aA (.pair tI aI)) 1 (.vr 0)) (.p1 aG .bool (.vr 18))) <|
           .prim (.lapp 186 aC 32) (.mk2 (.slice 186 aC) (.slice 186 aC) (aJ aA 5 (.vr 1)) (.vr 25)) <|
           .ret (bF aA [(.p1 tI cT (.vr 1)),(aJ aA 1 (.vr 1)),(aJ aA 2 (.vr 1)),(aJ aA 3 (.vr 1)),(aJ aA 4 (.vr 1)),(.vr 26),(aJ aA 6 (.vr 1)),(.nl 3 tI),(aJ aA 8 (.vr 1)),(aJ aA 9 (.vr 1)),(aJ aA 10 (.vr 1)),(aJ aA 11 (.vr 1)),(.p1 tI .bool (.vr 24)),(.cb true)]))) (
          .ite (aQ (.pair tI .bool) 1 (.vr 23)) (
           .ite (aJ aA 4 (.p1 aA (.pair tI aI) (.vr 0))) (
            .prim (.lsub 188 aB) (bF (.pair aG aO) [(.p1 aG .bool (.vr 18)),(.ci .i64 0),(.ci .i64 1)]) <|
            .prim (.lit 186 aC 1) (.mk2 tI aG (aJ (.pair aA (.pair tI aI)) 1 (.vr 0)) (.vr 25)) <|
            .prim (.lapp 186 aC 32) (.mk2 (.slice 186 aC) (.slice 186 aC) (aJ aA 5 (.vr 1)) (.vr 26)) <|
            .ret (bF aA [(.p1 tI cT (.vr 1)),(aJ aA 1 (.vr 1)),(aJ aA 2 (.vr 1)),(aJ aA 3 (.vr 1)),(aJ aA 4 (.vr 1)),(.vr 27),(aJ aA 6 (.vr 1)),(.nl 3 tI),(aJ aA 8 (.vr 1)),(aJ aA 9 (.vr 1)),(aJ aA 10 (.vr 1)),(aJ aA 11 (.vr 1)),(.p1 tI .bool (.vr 24)),(.cb true)])) (
            .prim (.lit 186 aC 1) (.mk2 tI aG (aJ (.pair aA (.pair tI aI)) 1 (.vr 0)) (.p1 aG .bool (.vr 18))) <|
            .prim (.lapp 186 aC 32) (.mk2 (.slice 186 aC) (.slice 186 aC) (aJ aA 5 (.vr 1)) (.vr 25)) <|
            .ret (bF aA [(.p1 tI cT (.vr 1)),(aJ aA 1 (.vr 1)),(aJ aA 2 (.vr 1)),(aJ aA 3 (.vr 1)),(aJ aA 4 (.vr 1)),(.vr 26),(aJ aA 6 (.vr 1)),(.nl 3 tI),(aJ aA 8 (.vr 1)),(aJ aA 9 (.vr 1)),(aJ aA 10 (.vr 1)),(aJ aA 11 (.vr 1)),(.p1 tI .bool (.vr 24)),(.cb true)]))) (
           .ite (aJ aA 4 (.p1 aA (.pair tI aI) (.vr 0))) (
            .prim (.lsub 188 aB) (bF (.pair aG aO) [(.p1 aG .bool (.vr 18)),(.ci .i64 0),(.ci .i64 1)]) <|
            .prim (.lit 186 aC 1) (.mk2 tI aG (aJ (.pair aA (.pair tI aI)) 1 (.vr 0)) (.vr 25)) <|
            .prim (.lapp 186 aC 32) (.mk2 (.slice 186 aC) (.slice 186 aC) (aJ aA 5 (.vr 1)) (.vr 26)) <|
            .ret (bF aA [(.p1 tI cT (.vr 1)),(aJ aA 1 (.vr 1)),(aJ aA 2 (.vr 1)),(aJ aA 3 (.vr 1)),(aJ aA 4 (.vr 1)),(.vr 27),(aJ aA 6 (.vr 1)),(.nl 3 tI),(aJ aA 8 (.vr 1)),(aJ aA 9 (.vr 1)),(aJ aA 10 (.vr 1)),(aJ aA 11 (.vr 1)),(.vr 24)])) (
            .prim (.lit 186 aC 1) (.mk2 tI aG (aJ (.pair aA (.pair tI aI)) 1 (.vr 0)) (.p1 aG .bool (.vr 18))) <|
            .prim (.lapp 186 aC 32) (.mk2 (.slice 186 aC) (.slice 186 aC) (aJ aA 5 (.vr 1)) (.vr 25)) <|
            .ret (bF aA [(.p1 tI cT (.vr 1)),(aJ aA 1 (.vr 1)),(aJ aA 2 (.vr 1)),(aJ aA 3 (.vr 1)),(aJ aA 4 (.vr 1)),(.vr 26),(aJ aA 6 (.vr 1)),(.nl 3 tI),(aJ aA 8 (.vr 1)),(aJ aA 9 (.vr 1)),(aJ aA 10 (.vr 1)),(aJ aA 11 (.vr 1)),(.vr 24)])))))))) (
      .call 4 (.mk2 aN aB (aJ aA 2 (.p1 aA (.pair tI aI) (.vr 0))) (aJ (.pair aA (.pair tI aI)) 2 (.vr 0))) <|
      .prim (.llen 188 aB) (.p1 aG .bool (.vr 11)) <|
      .prim (.ar .sub .i64) (.mk2 tI tI (.vr 12) (.ci .i64 1)) <|
      .prim (.lidx 188 aB) (.mk2 aG tI (.p1 aG .bool (.vr 11)) (.vr 13)) <|
      .prim (.lidx 188 aB) (.mk2 aG tI (.p1 aG .bool (.vr 11)) (.vr 13)) <|
      .ite (aQ aA 13 (.p1 aA (.pair tI aI) (.vr 0))) (
       .prim (.lapp 3 tI 8) (.mk2 aB aB (.nl 3 tI) (.vr 15)) <|
       .ite (aJ aA 4 (.p1 aA (.pair tI aI) (.vr 0))) (
        .prim (.lsub 188 aB) (bF (.pair aG aO) [(.p1 aG .bool (.vr 11)),(.ci .i64 0),(.ci .i64 1)]) <|
        .prim (.lit 186 aC 1) (.mk2 tI aG (aJ (.pair aA (.pair tI aI)) 1 (.vr 0)) (.vr 17)) <|
        .prim (.lapp 186 aC 32) (.mk2 (.slice 186 aC) (.slice 186 aC) (aJ aA 5 (.vr 1)) (.vr 18)) <|
        .ret (bF aA [(.p1 tI cT (.vr 1)),(aJ aA 1 (.vr 1)),(aJ aA 2 (.vr 1)),(aJ aA 3 (.vr 1)),(aJ aA 4 (.vr 1)),(.vr 19),(aJ aA 6 (.vr 1)),(.nl 3 tI),(.vr 16),(aJ aA 9 (.vr 1)),(aJ aA 10 (.vr 1)),(aJ aA 11 (.vr 1)),(aJ aA 12 (.vr 1)),(.cb true)])) (
        .prim (.lit 186 aC 1) (.mk2 tI aG (aJ (.pair aA (.pair tI aI)) 1 (.vr 0)) (.p1 aG .bool (.vr 11))) <|
        .prim (.lapp 186 aC 32) (.mk2 (.slice 186 aC) (.slice 186 aC) (aJ aA 5 (.vr 1)) (.vr 17)) <|
        .ret (bF aA [(.p1 tI cT (.vr 1)),(aJ aA 1 (.vr 1)),(aJ aA 2 (.vr 1)),(aJ aA 3 (.vr 1)),(aJ aA 4 (.vr 1)),(.vr 18),(aJ aA 6 (.vr 1)),(.nl 3 tI),(.vr 16),(aJ aA 9 (.vr 1)),(aJ aA 10 (.vr 1)),(aJ aA 11 (.vr 1)),(aJ aA 12 (.vr 1)),(.cb true)]))) (
       .prim (.lapp 3 tI 8) (.mk2 aB aB (.nl 3 tI) (.vr 15)) <|
       .ite (aJ aA 4 (.p1 aA (.pair tI aI) (.vr 0))) (
        .prim (.lsub 188 aB) (bF (.pair aG aO) [(.p1 aG .bool (.vr 11)),(.ci .i64 0),(.ci .i64 1)]) <|
        .prim (.lit 186 aC 1) (.mk2 tI aG (aJ (.pair aA (.pair tI aI)) 1 (.vr 0)) (.vr 17)) <|
        .prim (.lapp 186 aC 32) (.mk2 (.slice 186 aC) (.slice 186 aC) (aJ aA 5 (.vr 1)) (.vr 18)) <|
        .ret (bF aA [(.p1 tI cT (.vr 1)),(aJ aA 1 (.vr 1)),(aJ aA 2 (.vr 1)),(aJ aA 3 (.vr 1)),(aJ aA 4 (.vr 1)),(.vr 19),(aJ aA 6 (.vr 1)),(.nl 3 tI),(.vr 16),(aJ aA 9 (.vr 1)),(aJ aA 10 (.vr 1)),(aJ aA 11 (.vr 1)),(aJ aA 12 (.vr 1)),(aQ (.pair aG .bool) 1 (.vr 11))])) (
        .prim (.lit 186 aC 1) (.mk2 tI aG (aJ (.pair aA (.pair tI aI)) 1 (.vr 0)) (.p1 aG .bool (.vr 11))) <|
        .prim (.lapp 186 aC 32) (.mk2 (.slice 186 aC) (.slice 186 aC) (aJ aA 5 (.vr 1)) (.vr 17)) <|
        .ret (bF aA [(.p1 tI cT (.vr 1)),(aJ aA 1 (.vr 1)),(aJ aA 2 (.vr 1)),(aJ aA 3 (.vr 1)),(aJ aA 4 (.vr 1)),(.vr 18),(aJ aA 6 (.vr 1)),(.nl 3 tI),(.vr 16),(aJ aA 9 (.vr 1)),(aJ aA 10 (.vr 1)),(aJ aA 11 (.vr 1)),(aJ aA 12 (.vr 1)),(aQ (.pair aG .bool) 1 (.vr 11))]))))))))
set_option maxRecDepth 100000 in
theorem aLL:bS Tryz.prog [dV,dT,bJ,dY,gV,qM,dM] lX false 3000 ⟨[],[(2967,912025,[],[31]),(2965,656025,[],[31]),(2967,1808025,[],[31]),(2965,1296025,[],[31]),(2967,3600025,[],[31]),(2965,2576025,[],[31]),(2967,3088025,[],[31]),(2965,2064025,[],[31]),(2973,224017,[],[31]),(2971,160017,[],[31]),(2973,192017,[],[31]),(2971,128017,[],[31])]⟩ = .ok tV:=by kernel_rfl
set_option maxHeartbeats 1000000 in
theorem aL7 (x:bA × (Int × cN)) (hx:okD (.pair aA (.pair tI aI)) x) (hp:(fun x=>aW aA x.1≤1000000000) x):tV.wp [dV,dT,bJ,dY,gV,qM,dM] [⟨(.pair aA (.pair tI aI)),x⟩] [] (fun v=>v.as aA = (fun x=>xE x.1 x.2.1 x.2.2.1 x.2.2.2) x):=by
 obtain ⟨s,m,v,t⟩:=x
 delta tV dV dT bJ dY gV qM dM;refine eS ?_;try with_reducible exact True.intro
 (refine gR ?_;try with_reducible exact True.intro)
 refine ⟨hp,fun _=>⟨fun h=>rQ (.inl h),fun h1=>⟨fun h=>rQ (.inr (.inl (wK h).symm)),fun hv _=>?_⟩⟩⟩
 have hm:=(eF s).1 h1
 have hn8:=((cK _).1 hm.1)
 have hin:(List.getD s.2.2.1 0 (aS aZ)).2.1 = mK s.2.2.1:=by unfold mK;rw [if_pos hm.1];rfl
 have hou:(List.getD s.2.2.1 (s.2.2.1.length - 1) (aS aZ)).2.2.1 = iZ s.2.2.1:=by unfold iZ;rw [if_pos hm.1];rfl
 rw [hin]
 refine ⟨⟨by omega,by omega⟩,fun _=>⟨fun h=>rQ (.inr (.inl (Bool.eq_false_iff.2 fun hh=>h ((bY _ _).1 hh).2))),fun hv2 _=>⟨fun h=>rQ (.inr (.inr (.inl h))),fun h3=>?_⟩⟩⟩
 have h2:eX v (mK s.2.2.1) = true:=(bY _ _).2 ⟨hv,hv2⟩
 have hl:=oY s.2.2.1 v s.2.2.1.length
 have hx6:=aC4 h2
 have h6:=tA s.2.2.1 v hx6 s.2.2.1.length
 have hy6:(List.getD (jC s.2.2.1 v s.2.2.1.length).1 s.2.2.1.length (aS aB)).length≤6:=aC6 h6 _
 have hst:=(lN (t:=aA) hp).2.2.2.2.2.1.1
 replace hst:List.length s.2.2.2.2.2.1≤1000000000:=hst
 constructor
 ·intro hla
  refine ⟨fun h=>rQ (.inr (.inr (.inr ⟨hla,(wK h).symm⟩))),fun ht _ _=>⟨by omega,fun _=>⟨by omega,fun _=>?_⟩⟩⟩
  rw [hou]
  refine ⟨fun h=>rQ (.inr (.inr (.inr ⟨hla,Bool.eq_false_iff.2 fun hh=>h ((bY _ _).1 hh).2⟩))),fun ht2=>?_⟩
  simp only [hl,Nat.add_sub_cancel]
  have hy:=aE7 h1 h2 h3 (fun _=>(bY _ _).2 ⟨ht,ht2⟩)
  (repeat' first | intro _ | (with_reducible apply And.intro))
  all_goals first | omega | exact Bool.noConfusion ((by assumption:s.2.2.2.1 = true).symm.trans (by assumption:s.2.2.2.1 = false)) | (unfold maxLen;omega) | (simp only [List.drop_zero,List.length_take];omega) | exact Nat.le_trans (h6 _ (by assumption)) (by decide) | exact Nat.le_trans (h6 _ (List.mem_of_mem_take (by assumption))) (by decide) | skip
  all_goals first | exact Bool.noConfusion ((by assumption:s.2.2.2.1 = true).symm.trans (by assumption:s.2.2.2.1 = false)) | refine (aEJ (by assumption) ?_ ?_ ?_).trans hy | refine (aEC (by assumption) ?_ ?_).trans hy
  all_goals first | rfl | (rw [← aKG (by assumption)]) | (rw [← aKS (by assumption)]) | exact aUB (by assumption) | exact aTS (by assumption) | exact aUQ (by assumption) | exact aU8 (by assumption) (by assumption) (by assumption) | exact gP (by assumption) | exact kN (by assumption) | (simp [*];done) | skip
 ·intro hla
  simp only [hl,Nat.add_sub_cancel]
  have hy:=aE7 (t:=t) h1 h2 h3 (fun h=>absurd h (by simp [hla]))
  (repeat' first | intro _ | (with_reducible apply And.intro))
  all_goals first | omega | exact Bool.noConfusion ((by assumption:s.2.2.2.1 = true).symm.trans (by assumption:s.2.2.2.1 = false)) | (unfold maxLen;omega) | (simp only [List.drop_zero,List.length_take];omega) | exact Nat.le_trans (h6 _ (by assumption)) (by decide) | exact Nat.le_trans (h6 _ (List.mem_of_mem_take (by assumption))) (by decide) | skip
  all_goals first | exact Bool.noConfusion ((by assumption:s.2.2.2.1 = true).symm.trans (by assumption:s.2.2.2.1 = false)) | refine (aEJ (by assumption) ?_ ?_ ?_).trans hy | refine (aEC (by assumption) ?_ ?_).trans hy
  all_goals first | rfl | (rw [← aKG (by assumption)]) | (rw [← aKS (by assumption)]) | exact aUB (by assumption) | exact aTS (by assumption) | exact aUQ (by assumption) | exact aU8 (by assumption) (by assumption) (by assumption) | exact gP (by assumption) | exact kN (by assumption) | (simp [*];done) | skip
set_option maxHeartbeats 1000000 in
theorem aKW:Con.Holds Tryz.prog lX:=aT aY (aK rC (aK qZ (aK fC (aK rS (aK aBI (aK aR8 (aK pY aU))))))) aLL fun x hx hp=>aL7 x hx hp
end Go.Proofs.YtmfpkkbhnmkfdaaGreat
