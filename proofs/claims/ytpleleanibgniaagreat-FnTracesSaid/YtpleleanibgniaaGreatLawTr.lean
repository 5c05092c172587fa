/- LawTr: trees, and what they say. -/
import Derived.Test.YtpleleanibgniaaGreatTrL
import Derived.Test.YtpleleanibgniaaGreatCoreM
namespace Go.Proofs.YtpleleanibgniaaGreat
open Go.ChangeShapes Go.WideShapes Go.ChangeAt Go.RowKit Go.Deep
set_option linter.unusedVariables false
set_option linter.unusedSimpArgs false
theorem sumB9 {B:Nat}:{l:List Nat}→(∀ x∈l,x≤B)→l.sum≤l.length * B
 | [],_=>by simp
 | x :: l,h=>by
  have h1:=sumB9 (fun y hy=>h y (List.mem_cons_of_mem _ hy)) (l:=l)
  have h2:=h x (by simp)
  rw[List.sum_cons,List.length_cons,Nat.succ_mul];omega
theorem cf_sz {c:bK} {l:bS} (h:wM 9 4 6 c l):bW aE c≤2000000∧bW aF l≤2000000:=by
 obtain ⟨h1,h2,h3,h4,h5,h6,h7,h8⟩:=h
 constructor
 ·have e:bW aE c=(List.length c.1+((c.1:List dE).map (bW bN)).sum)+(bW aB c.2.1+(0+((List.length c.2.2.2.1+((c.2.2.2.1:List Bool).map (bW .bool)).sum)+(bW aB c.2.2.2.2.1+bW aB c.2.2.2.2.2)))):=rfl
  have g1:=sumB9 (B:=40) (l:=(c.1:List dE).map (bW bN)) (fun x hx=>by
   obtain ⟨o,ho,rfl⟩:=List.mem_map.1 hx
   have e2:bW bN o=0+(0+(0+bW aB o.2.2.2)):=rfl
   have:=h2 o ho
   rw[e2,fT];omega)
  rw[List.length_map] at g1
  have g2:=sumB9 (B:=0) (l:=(c.2.2.2.1:List Bool).map (bW .bool)) (fun x hx=>by
   obtain ⟨o,ho,rfl⟩:=List.mem_map.1 hx
   exact Nat.le_refl _)
  rw[List.length_map] at g2
  rw[e,fT,fT,fT];omega
 ·have e:bW aF l=List.length l+((l:List cI).map (bW aQ)).sum:=rfl
  have g1:=sumB9 (B:=14) (l:=(l:List cI).map (bW aQ)) (fun x hx=>by
   obtain ⟨o,ho,rfl⟩:=List.mem_map.1 hx
   have e2:bW aQ o=bW aB o.1+bW aB o.2:=rfl
   have:=h8 o ho
   rw[e2,fT,fT];omega)
  rw[List.length_map] at g1
  rw[e];omega
theorem sumT_le {f:Nat→Nat} {B:Nat}:(k:Nat)→(∀ i,i<k→f i≤B)→zP f k≤B * k
 | 0,_=>Nat.zero_le _
 | k+1,h=>by
  have h1:=sumT_le k fun i hi=>h i (by omega)
  have h2:=h k (by omega)
  rw[zP,Nat.mul_succ];omega
theorem beqI_t {x y:Int × Int} (h:x=y):qQ aC x y=true:=by
 cases hb:qQ aC x y with
 | true=>rfl
 | false=>exact absurd h (aIY.1 hb)
noncomputable def eV:Con:=⟨3,(.slice 5 (.int .u8)),.bool,[.val ⟨false,(.slice 5 (.int .u8)),[]⟩],[⟨false,.bool,[0]⟩],false,none,
 ((fun _=>True):(List Int)→Prop),
 ((fun _=>true):(List Int)→(Bool))⟩
def t_w_FnTraces:T:=.call 0 (.Z 0) <|.ite (.Z 1) (.ret (.cb true)) (.call 1 (.Z 0) <|.call 2 (.Z 2) <|
 .bJ3 (.cmp .neq .i64) (.bJ4 tI tI (.Z 3) (.ci .i64 0)) <|
 .ite (.Z 4) (
  .ret (.cb true)) (
  .call 3 (.Z 2) <|
  .bJ3 (.bJ6 50 aA) (aJ aO 1 (.Z 5)) <|
  .call 4 (.bJ4 (.slice 5 (.int .u8)) tI (.Z 0) (.Z 6)) <|
  .call 5 (.bJ4 aO aB (.Z 5) (.Z 7)) <|
  .loop aC (.bJ4 tI tI (.ci .i64 0) (.ci .i64 0)) <|
   .bJ3 (.bJ6 50 aA) (aJ aO 1 (.Z 5)) <|
   .bJ3 (.cmp .lss .i64) (.bJ4 tI tI (.p1 tI tI (.Z 9)) (.Z 10)) <|
   .ite (.Z 11) (
    .call 6 (.bJ4 (.slice 79 (.bJ2 tI (.bJ2 aC .bool))) tI (.Z 8) (.p1 tI tI (.Z 9))) <|
    .bJ3 (.bJ6 52 aC) (.Z 12) <|
    .bJ3 (.bJ7 50 aA) (.bJ4 (.slice 50 aA) tI (aJ aO 1 (.Z 5)) (.p1 tI tI (.Z 9))) <|
    .bJ3 (.bJ7 50 aA) (.bJ4 (.slice 50 aA) tI (aJ aO 1 (.Z 5)) (.p1 tI tI (.Z 9))) <|
    .bJ3 (.bJ6 52 aC) (aJ aA 1 (.Z 15)) <|
    .bJ3 (.cmp .gtr .i64) (.bJ4 tI tI (.Z 13) (.Z 16)) <|
    .ite (.Z 17) (
     .ret (.cb false)) (
     .loop tI (.ci .i64 0) <|
      .bJ3 (.bJ6 52 aC) (.Z 12) <|
      .bJ3 (.cmp .lss .i64) (.bJ4 tI tI (.Z 18) (.Z 19)) <|
      .ite (.Z 20) (
       .bJ3 (.bJ7 52 aC) (.bJ4 aY tI (.Z 12) (.Z 18)) <|
       .bJ3 (.bJ7 52 aC) (.bJ4 aY tI (.Z 12) (.Z 18)) <|
       .bJ3 (.bJ7 50 aA) (.bJ4 (.slice 50 aA) tI (aJ aO 1 (.Z 5)) (.p1 tI tI (.Z 9))) <|
       .bJ3 (.bJ7 50 aA) (.bJ4 (.slice 50 aA) tI (aJ aO 1 (.Z 5)) (.p1 tI tI (.Z 9))) <|
       .bJ3 (.bJ7 52 aC) (.bJ4 aY tI (aJ aA 1 (.Z 24)) (.Z 18)) <|
       .bJ3 (.eqv true aC) (.bJ4 aC aC (.Z 22) (.Z 25)) <|
       .ite (.Z 26) (
        .ret (.cb false)) (
        .bJ3 (.ar .add .i64) (.bJ4 tI tI (.Z 18) (.ci .i64 1)) <|
        .bJ5 0 (.Z 27))) (
       .bJ3 (.bJ6 52 aC) (.Z 12) <|
       .bJ3 (.ar .add .i64) (.bJ4 tI tI (aR aC 1 (.Z 9)) (.Z 21)) <|
       .bJ3 (.ar .add .i64) (.bJ4 tI tI (.p1 tI tI (.Z 9)) (.ci .i64 1)) <|
       .bJ5 1 (.bJ4 tI tI (.Z 23) (.Z 22))))) (
    .bJ3 (.bJ6 50 aA) (aJ aO 1 (.Z 5)) <|
    .call 4 (.bJ4 (.slice 5 (.int .u8)) tI (.Z 0) (.Z 12)) <|
    .call 7 (.bJ4 aO aB (.Z 5) (.Z 13)) <|
    .call 8 (.Z 8) <|
    .ite (.Z 15) (
     .call 9 (.Z 8) <|
     .ite (.Z 16) (
      .bJ3 (.bJ6 50 aA) (aJ aO 1 (.Z 5)) <|
      .call 10 (.bJ4 (.slice 79 (.bJ2 tI (.bJ2 aC .bool))) tI (.Z 8) (.Z 17)) <|
      .ite (.Z 18) (
       .bJ3 (.bJ6 50 aA) (aJ aO 1 (.Z 5)) <|
       .call 11 (.bJ4 (.slice 79 (.bJ2 tI (.bJ2 aC .bool))) tI (.Z 8) (.Z 19)) <|
       .ite (.Z 20) (
        .call 12 (.Z 14) <|
        .call 12 (.Z 5) <|
        .bJ3 (.ar .sub .i64) (.bJ4 tI tI (.Z 22) (aR aC 1 (.Z 9))) <|
        .bJ3 (.cmp .eql .i64) (.bJ4 tI tI (.Z 21) (.Z 23)) <|
        .ret (.Z 24)) (
        .ret (.cb false))) (
       .ret (.cb false))) (
      .ret (.cb false))) (
     .ret (.cb false)))))
set_option maxRecDepth 100000 in
theorem e_w_FnTraces:bV Tryz.prog [aCR,kJ,lC,nD,yV,nL,sN,aCC,nA,nR,nE,nO,xV] eV false 3000 ⟨[(2975,4009,mW 32 29++[.dr 26,.dr 28,.dr 27]++mW 25 19++[.dr 4,.dr 3,.dr 18,.dr 17,.dr 14,.dr 16,.dr 15,.dr 13,.dr 12,.tm 8 0,.tm 7 0]),(2956,20018,[.tm 10 0])],[]⟩ = .ok t_w_FnTraces:=by kernel_rfl
theorem v_w_FnTraces (x:List Int) (hx:okD (.slice 5 (.int .u8)) x) (hp:(fun _=>True) x):t_w_FnTraces.wp [aCR,kJ,lC,nD,yV,nL,sN,aCC,nA,nR,nE,nO,xV] [⟨(.slice 5 (.int .u8)),x⟩] [] (fun v=>v.as .bool=(fun _=>true) x):=by
 delta t_w_FnTraces aCR kJ lC nD yV nL sN aCC nA nR nE nO xV;refine eE ?_
 refine eL ?_
 refine ⟨fun _=>trivial,fun hb=>⟨by omega,fun _=>?_⟩⟩
 have hx':List.length x≤1048576:=by omega
 have q:=(aFH x hx hx').2
 generalize iG x=r at q ⊢
 obtain ⟨c,b⟩:=r
 dsimp only at q ⊢
 have s1:=cf_sz q
 have hcp:pN c:=aQM (by omega)
 refine ⟨hcp,fun _=>⟨fun _=>trivial,fun had=>?_⟩⟩
 have hsz:=bBL s1.1 s1.2
 have hl:=aXR had
 have hT0:=bDH had
 have hP:=bEZ had
 have hpc0:∀ s,s<(fH c b).2.1.length→pcS (fH c b) s=0:=fun s hs=>(aFV had hs).2
 have hp60:∀ s,s<(fH c b).2.1.length→(vN (fH c b) s).length≤60:=fun s hs=>by rw[(aFV had hs).1];exact aDZ _ _ _ _ _
 generalize fH c b=P at hsz hl hT0 hP hpc0 hp60 ⊢
 refine ⟨⟨by omega,by omega⟩,fun _ hlo=>⟨hx',fun _=>?_⟩⟩
 have q2:=(aZ9 (x,((List.length P.2.1:Nat):Int)) ⟨hx,hlo⟩ hx').2
 generalize tK (x,((List.length P.2.1:Nat):Int))=pk at q2 ⊢
 change List.length pk≤60 at q2
 have e2:List.take 2000 pk=pk:=List.take_of_length_le (by omega)
 rw[e2]
 have hT:=hT0.run hP pk
 rw[List.nil_append] at hT
 have hlf:=bC6 hT hpc0
 have hll:=aAT P pk
 refine ⟨by omega,fun _=>?_⟩
 generalize iF P pk=L at hT hlf hll ⊢
 refine fC (fun k=>((k:Int),((zP (fun s=>(dO L (s:Int)).length) k:Nat):Int))) P.2.1.length rfl fun I μ k hk _ go=>?_
 try dsimp only
 try refine eL ?_
 refine fun _=>⟨fun hlt=>?_,fun hge=>?_⟩
 ·have hk':k<P.2.1.length:=by omega
  obtain ⟨c1,c2,c3⟩:=hT.pc k hk'
  have hdl:=aIK L (k:Int)
  have hD:∀ j,j<(dO L (k:Int)).length→(dO L (k:Int)).getD j (aS aC)=(vN P k).getD j (aS aC):=fun j hj=>by
   rw[c3] at hj ⊢
   rw[List.length_take] at hj
   rw[List.getD_eq_getElem?_getD,List.getElem?_take,if_pos (by omega),← List.getD_eq_getElem?_getD]
  have hDl:(dO L (k:Int)).length≤(vN P k).length:=by rw[c3,List.length_take];omega
  have h60:=hp60 k hk'
  have hsb:=sumT_le (f:=fun s=>(dO L (s:Int)).length) (B:=60) k fun i hi=>by have:=aIK L (i:Int);show (dO L (i:Int)).length≤60;omega
  have eS:zP (fun s=>(dO L (s:Int)).length) (k+1)=zP (fun s=>(dO L (s:Int)).length) k+(dO L (k:Int)).length:=rfl
  have hPl:(List.getD P.2.1 k (aS aA)).2.1=vN P k:=rfl
  simp only[hPl]
  generalize zP (fun s=>(dO L (s:Int)).length) (k+1)=S1 at eS go ⊢
  generalize zP (fun s=>(dO L (s:Int)).length) k=S0 at eS hsb go ⊢
  generalize dO L (k:Int)=D at hD hDl eS hdl ⊢
  generalize vN P k=pl at hD hDl h60 ⊢
  clear c3 hPl
  refine ⟨by omega,fun _ _=>⟨⟨by omega,by omega⟩,fun _=>⟨⟨by omega,by omega⟩,fun _ _=>⟨fun h=>by omega,fun _=>?_⟩⟩⟩⟩
  refine fC (fun j=>(j:Int)) D.length rfl fun I2 μ2 j hj _ go2=>?_
  try dsimp only
  try refine eL ?_
  refine fun _=>⟨fun hlt2=>?_,fun hge2=>?_⟩
  ·have hj':j<D.length:=by omega
   have hbq:qQ aC (D.getD j (aS aC)) (pl.getD j (aS aC))=true:=beqI_t (hD j hj')
   (repeat' first|intro _|(refine go2 _ ?_ ?_ ?_)|(refine go2 _ ?_ ?_)|(refine go _ ?_ ?_ ?_)|(refine go _ ?_ ?_)|(with_reducible apply And.intro))
   all_goals first|omega|exact absurd hbq (by assumption)|rfl|skip
  ·have e9:((S0:Nat):Int)+((D.length:Nat):Int)=((S1:Nat):Int):=by rw[eS];rfl
   (repeat' first|intro _|(refine go2 _ ?_ ?_ ?_)|(refine go2 _ ?_ ?_)|(refine go _ ?_ ?_ ?_)|(refine go _ ?_ ?_)|(with_reducible apply And.intro))
   all_goals first|omega|exact Prod.ext (show ((k:Nat):Int)+1=((k+1:Nat):Int) from rfl) e9|skip
 ·have hkn:k=P.2.1.length:=by omega
  subst hkn
  have hok:sZ P.2.1.length L:=hT.ok
  have hq1:=aNK P pk
  have hl1:=aVE P
  have hl2:=aVE (lO P pk)
  (repeat' first|intro _|(with_reducible apply And.intro))
  all_goals first|omega|exact ⟨_,hl.2,hok⟩|exact ⟨_,hl.2,rfl,hok⟩|exact hlf|(rename_i hh;cases hh;done)|skip
theorem h_w_FnTraces:Con.Holds Tryz.prog eV:=aV aX (aG bE9 (aG vL (aG aL4 (aG aQJ (aG aKN (aG aON (aG aYE (aG bEB (aG aRO (aG aOV (aG aQ2 (aG aQF (aG bAW aT))))))))))))) e_w_FnTraces v_w_FnTraces
end Go.Proofs.YtpleleanibgniaaGreat
