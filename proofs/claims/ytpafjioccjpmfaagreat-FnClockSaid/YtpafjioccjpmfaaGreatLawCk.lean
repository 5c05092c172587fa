/- LawCk: trees, and what they say. -/
import Derived.Test.YtpafjioccjpmfaaGreatPrgI
import Derived.Test.YtpafjioccjpmfaaGreatDrawCf
import Derived.Test.YtpafjioccjpmfaaGreatCoreM
namespace Go.Proofs.YtpafjioccjpmfaaGreat
noncomputable section
set_option maxRecDepth 100000
open Go.ChangeShapes Go.WideShapes Go.ChangeAt Go.RowKit Go.Deep
set_option linter.unusedVariables false
set_option linter.unusedSimpArgs false
theorem sumB9 {B:Nat}:{l:List Nat}→(∀ x∈l,x≤B)→l.sum≤l.length * B
 | [],_=>by simp
 | x :: l,h=>by
  have h1:=sumB9 (fun y hy=>h y (List.mem_cons_of_mem _ hy)) (l:=l)
  have h2:=h x (by simp)
  rw[List.sum_cons,List.length_cons,Nat.succ_mul];omega
theorem cf_sz {c:bB} {l:bL} (h:uD 9 4 6 c l):bS aC c≤2000000∧bS aF l≤2000000:=by
 obtain ⟨h1,h2,h3,h4,h5,h6,h7,h8⟩:=h
 constructor
 ·have e:bS aC c=(List.length c.1+((c.1:List cZ).map (bS bU)).sum)+(bS aB c.2.1+(0+((List.length c.2.2.2.1+((c.2.2.2.1:List Bool).map (bS .bool)).sum)+(bS aB c.2.2.2.2.1+bS aB c.2.2.2.2.2)))):=rfl
  have g1:=sumB9 (B:=40) (l:=(c.1:List cZ).map (bS bU)) (fun x hx=>by
   obtain ⟨o,ho,rfl⟩:=List.mem_map.1 hx
   have e2:bS bU o=0+(0+(0+bS aB o.2.2.2)):=rfl
   have:=h2 o ho
   rw[e2,gN];omega)
  rw[List.length_map] at g1
  have g2:=sumB9 (B:=0) (l:=(c.2.2.2.1:List Bool).map (bS .bool)) (fun x hx=>by
   obtain ⟨o,ho,rfl⟩:=List.mem_map.1 hx
   exact Nat.le_refl _)
  rw[List.length_map] at g2
  rw[e,gN,gN,gN];omega
 ·have e:bS aF l=List.length l+((l:List cB).map (bS aQ)).sum:=rfl
  have g1:=sumB9 (B:=14) (l:=(l:List cB).map (bS aQ)) (fun x hx=>by
   obtain ⟨o,ho,rfl⟩:=List.mem_map.1 hx
   have e2:bS aQ o=bS aB o.1+bS aB o.2:=rfl
   have:=h8 o ho
   rw[e2,gN,gN];omega)
  rw[List.length_map] at g1
  rw[e];omega
def totK (c:bB) (mi:Int):Nat→Int
 | 0=>0
 | k+1=>totK c mi k+((fU c.2.2.1 (bC c.1 c.2.1) k mi (c.2.2.2.1.getD k false)).length:Int)
def totF (c:bB) (mi:Int):Int:=totK c mi (min c.2.2.2.1.length (bC c.1 c.2.1).toNat)
theorem totK_b (c:bB) (mi:Int):(k:Nat)→0≤totK c mi k∧totK c mi k≤60 * (k:Int)
 | 0=>⟨Int.le_refl _,Int.le_refl _⟩
 | k+1=>by
  have h1:=totK_b c mi k
  have h2:=lY c.2.2.1 (bC c.1 c.2.1) k mi (c.2.2.2.1.getD k false)
  unfold totK
  omega
def subK (n:Int) (l:List Int):Nat→Int
 | 0=>n
 | k+1=>subK n l k - l.getD k 0
theorem subK_b {n B:Int} {l:List Int} (h:∀ k,k<l.length→0≤l.getD k 0∧l.getD k 0≤B):(k:Nat)→k≤l.length→n - B * (k:Int)≤subK n l k∧subK n l k≤n
 | 0,_=>by show n - B * 0≤n∧n≤n;omega
 | k+1,hk=>by
  have h1:=subK_b (n:=n) h k (by omega)
  have h2:=h k (by omega)
  have e:B * ((k+1:Nat):Int)=B * (k:Int)+B:=by rw[show ((k+1:Nat):Int)=(k:Int)+1 from rfl,Int.mul_add,Int.mul_one]
  rw[subK];omega
def c_i_Total:Con:=⟨12,(.bPW aC tI),tI,[.val ⟨true,aC,[]⟩,.val ⟨false,tI,[]⟩],[⟨false,tI,[0]⟩],false,none,
 ((fun x=>dO x.1):(bB × Int)→Prop),
 ((fun x=>totF x.1 x.2):(bB × Int)→(Int))⟩
def t_i_Total:T:=.loop aD (.bPY tI tI (.ci .i64 0) (.ci .i64 0)) <|
 .bPX (.bQ0 4 .bool) (aH aC 3 (.p1 aC tI (.Z 0))) <|
 .bPX (.cmp .lss .i64) (.bPY tI tI (.p1 tI tI (.Z 1)) (.Z 2)) <|
 .ite (.Z 3) (
  .call 0 (.p1 aC tI (.Z 0)) <|
  .bPX (.cmp .lss .i64) (.bPY tI tI (.p1 tI tI (.Z 1)) (.Z 4)) <|
  .ite (.Z 5) (
   .bPX (.bQ1 4 .bool) (.bPY cA tI (aH aC 3 (.p1 aC tI (.Z 0))) (.p1 tI tI (.Z 1))) <|
   .call 0 (.p1 aC tI (.Z 0)) <|
   .call 1 (bP (.bPW tI (.bPW tI (.bPW tI (.bPW tI .bool)))) [(aH aC 2 (.p1 aC tI (.Z 0))),(.Z 7),(.p1 tI tI (.Z 1)),(aS (.bPW aC tI) 1 (.Z 0)),(.Z 6)]) <|
   .bPX (.bQ0 76 aD) (.Z 8) <|
   .bPX (.ar .add .i64) (.bPY tI tI (aS aD 1 (.Z 1)) (.Z 9)) <|
   .bPX (.ar .add .i64) (.bPY tI tI (.p1 tI tI (.Z 1)) (.ci .i64 1)) <|
   .bPZ 0 (.bPY tI tI (.Z 11) (.Z 10))) (
   .ret (aS aD 1 (.Z 1)))) (
  .ret (aS aD 1 (.Z 1)))
theorem e_i_Total:bW Tryz.prog [cO,kR] c_i_Total false 3000 ⟨[(2991,1001,[.dr 0,.tm 6 0,.tm 5 0])],[]⟩ = .ok t_i_Total:=by kernel_rfl
theorem v_i_Total (x:bB × Int) (hx:okD (.bPW aC tI) x) (hp:(fun x=>dO x.1) x):t_i_Total.wp [cO,kR] [⟨(.bPW aC tI),x⟩] [] (fun v=>v.as tI=(fun x=>totF x.1 x.2) x):=by
  obtain ⟨c,micro⟩:=x
  have hq:dO c:=hp
  obtain ⟨h1,h2,h3,h4,h5⟩:dO c:=hp
  delta t_i_Total cO kR;refine dY ?_
  have hst:0≤bC c.1 c.2.1:=by unfold bC;split <;> omega
  refine ⟨fun s=>∃ k:Nat,k≤c.2.2.2.1.length∧(k:Int)≤bC c.1 c.2.1∧s=((k:Int),totK c micro k),fun s=>c.2.2.2.1.length - (s.1:Int).toNat,⟨0,by omega,by omega,rfl⟩,fun s _ hI=>?_⟩
  obtain ⟨k,hk,hk2,rfl⟩:=hI
  have hb:=totK_b c micro k
  have hpl:=lY c.2.2.1 (bC c.1 c.2.1) k micro (c.2.2.2.1.getD k false)
  have hpl2:(fU c.2.2.1 (bC c.1 c.2.1) k micro (c.2.2.2.1.getD k (aP .bool))).length≤60:=hpl
  dsimp only
  (refine eD ?_;try with_reducible exact True.intro)
  (repeat' first|intro _|(with_reducible apply And.intro))
  all_goals first
    | omega
    | exact ⟨h1,h2⟩
    | exact h1
    | exact ⟨k+1,by omega,by omega,rfl⟩
    | (show totK c micro k=totF c micro
       unfold totF
       congr 1
       omega)
theorem h_i_Total:Con.Holds Tryz.prog c_i_Total:=aX aZ (aG lZ (aG aL1 aT)) e_i_Total v_i_Total
def c_s_Total:Con:=⟨19,(.bPW aC tI),tI,[.val ⟨true,aC,[]⟩,.val ⟨false,tI,[]⟩],[⟨false,tI,[0]⟩],false,none,
 ((fun x=>dO x.1):(bB × Int)→Prop),
 ((fun x=>totF x.1 x.2):(bB × Int)→(Int))⟩
def t_s_Total:T:=.loop aD (.bPY tI tI (.ci .i64 0) (.ci .i64 0)) <|.call 0 (.p1 aC tI (.Z 0)) <|
 .bPX (.cmp .lss .i64) (.bPY tI tI (.p1 tI tI (.Z 1)) (.Z 2)) <|
 .ite (.Z 3) (
  .bPX (.bQ0 4 .bool) (aH aC 3 (.p1 aC tI (.Z 0))) <|
  .bPX (.cmp .lss .i64) (.bPY tI tI (.p1 tI tI (.Z 1)) (.Z 4)) <|
  .ite (.Z 5) (
   .bPX (.bQ1 4 .bool) (.bPY cA tI (aH aC 3 (.p1 aC tI (.Z 0))) (.p1 tI tI (.Z 1))) <|
   .call 0 (.p1 aC tI (.Z 0)) <|
   .call 1 (bP (.bPW tI (.bPW tI (.bPW tI (.bPW tI .bool)))) [(aH aC 2 (.p1 aC tI (.Z 0))),(.Z 7),(.p1 tI tI (.Z 1)),(aS (.bPW aC tI) 1 (.Z 0)),(.Z 6)]) <|
   .bPX (.bQ0 76 aD) (.Z 8) <|
   .bPX (.ar .add .i64) (.bPY tI tI (aS aD 1 (.Z 1)) (.Z 9)) <|
   .bPX (.ar .add .i64) (.bPY tI tI (.p1 tI tI (.Z 1)) (.ci .i64 1)) <|
   .bPZ 0 (.bPY tI tI (.Z 11) (.Z 10))) (
   .ret (aS aD 1 (.Z 1)))) (
  .ret (aS aD 1 (.Z 1)))
theorem e_s_Total:bW Tryz.prog [nS,qE] c_s_Total false 3000 ⟨[(2991,1001,[.dr 0,.tm 6 0,.tm 5 0])],[]⟩ = .ok t_s_Total:=by kernel_rfl
theorem v_s_Total (x:bB × Int) (hx:okD (.bPW aC tI) x) (hp:(fun x=>dO x.1) x):t_s_Total.wp [nS,qE] [⟨(.bPW aC tI),x⟩] [] (fun v=>v.as tI=(fun x=>totF x.1 x.2) x):=by
  obtain ⟨c,micro⟩:=x
  have hq:dO c:=hp
  obtain ⟨h1,h2,h3,h4,h5⟩:dO c:=hp
  delta t_s_Total nS qE;refine dY ?_
  have hst:0≤bC c.1 c.2.1:=by unfold bC;split <;> omega
  refine ⟨fun s=>∃ k:Nat,k≤c.2.2.2.1.length∧(k:Int)≤bC c.1 c.2.1∧s=((k:Int),totK c micro k),fun s=>c.2.2.2.1.length - (s.1:Int).toNat,⟨0,by omega,by omega,rfl⟩,fun s _ hI=>?_⟩
  obtain ⟨k,hk,hk2,rfl⟩:=hI
  have hb:=totK_b c micro k
  have hpl:=lY c.2.2.1 (bC c.1 c.2.1) k micro (c.2.2.2.1.getD k false)
  have hpl2:(fU c.2.2.1 (bC c.1 c.2.1) k micro (c.2.2.2.1.getD k (aP .bool))).length≤60:=hpl
  dsimp only
  (refine eD ?_;try with_reducible exact True.intro)
  (repeat' first|intro _|(with_reducible apply And.intro))
  all_goals first
    | omega
    | exact ⟨h1,h2⟩
    | exact h1
    | exact ⟨k+1,by omega,by omega,rfl⟩
    | (show totK c micro k=totF c micro
       unfold totF
       congr 1
       omega)
theorem h_s_Total:Con.Holds Tryz.prog c_s_Total:=aX aZ (aG aRK (aG aVS aT)) e_s_Total v_s_Total
def c_i_Bubble:Con:=⟨14,(.bPW tI (.bPW aB (.bPW aB .bool))),tI,[.val ⟨true,(.bPW tI (.bPW aB (.bPW aB .bool))),[]⟩],[⟨false,tI,[0]⟩],false,none,
 ((fun x=>(0≤x.1∧x.1≤1000)∧x.2.1.length≤1000∧∀ k,k<x.2.1.length→0≤x.2.1.getD k 0∧x.2.1.getD k 0≤100000):(Int × (bK × (bK × Bool)))→Prop),
 ((fun x=>subK (x.1 * (x.2.1.length:Int)) x.2.1 x.2.1.length):(Int × (bK × (bK × Bool)))→(Int))⟩
def t_i_Bubble:T :=
 .bPX (.bQ0 3 tI) (aH (.bPW tI (.bPW aB (.bPW aB .bool))) 1 (.Z 0)) <|
 .bPX (.ar .mul .i64) (.bPY tI tI (.p1 tI (.bPW aB (.bPW aB .bool)) (.Z 0)) (.Z 1)) <|
 .bPX (.bQ0 3 tI) (aH (.bPW tI (.bPW aB (.bPW aB .bool))) 1 (.Z 0)) <|
 .loop aD (.bPY tI tI (.ci .i64 0) (.Z 2)) <|
  .bPX (.cmp .lss .i64) (.bPY tI tI (.p1 tI tI (.Z 4)) (.Z 3)) <|
  .ite (.Z 5) (
   .bPX (.bQ1 3 tI) (.bPY aB tI (aH (.bPW tI (.bPW aB (.bPW aB .bool))) 1 (.Z 0)) (.p1 tI tI (.Z 4))) <|
   .bPX (.ar .sub .i64) (.bPY tI tI (aS aD 1 (.Z 4)) (.Z 6)) <|
   .bPX (.ar .add .i64) (.bPY tI tI (.p1 tI tI (.Z 4)) (.ci .i64 1)) <|
   .bPZ 0 (.bPY tI tI (.Z 8) (.Z 7))) (
   .ret (aS aD 1 (.Z 4)))
theorem e_i_Bubble:bW Tryz.prog [] c_i_Bubble false 3000 ⟨[(2991,1004,jV 12 6++[.dr 1,.dr 0,.tm 15 0,.tm 3 0])],[]⟩ = .ok t_i_Bubble:=by kernel_rfl
theorem v_i_Bubble (x:Int × (bK × (bK × Bool))) (hx:okD (.bPW tI (.bPW aB (.bPW aB .bool))) x) (hp:(fun x=>(0≤x.1∧x.1≤1000)∧x.2.1.length≤1000∧∀ k,k<x.2.1.length→0≤x.2.1.getD k 0∧x.2.1.getD k 0≤100000) x):t_i_Bubble.wp [] [⟨(.bPW tI (.bPW aB (.bPW aB .bool))),x⟩] [] (fun v=>v.as tI=(fun x=>subK (x.1 * (x.2.1.length:Int)) x.2.1 x.2.1.length) x):=by
 obtain ⟨n,l,q⟩:=x
 obtain ⟨⟨h1,h2⟩,h3,h4⟩:(0≤n∧n≤1000)∧List.length l≤1000∧∀ k,k<List.length l→0≤List.getD l k 0∧List.getD l k 0≤100000:=hp
 have hmul:0≤n * (List.length l:Int)∧n * (List.length l:Int)≤1000000:=⟨Int.mul_nonneg h1 (by omega),Int.le_trans (Int.mul_le_mul h2 (show (List.length l:Int)≤1000 by omega) (by omega) (by omega)) (by omega)⟩
 have hs:=subK_b (n:=n * (List.length l:Int)) h4
 delta t_i_Bubble;refine dY ?_
 refine eD ?_
 generalize n * (List.length l:Int)=N at hs hmul ⊢
 refine fun _=>⟨⟨by omega,by omega⟩,fun _ _=>eW (fun k=>((k:Int),subK N l k)) (List.length l) rfl fun I μ k hk _ go=>?_⟩
 try dsimp only
 try refine eD ?_
 refine ⟨fun hlt=>?_,fun hge=>?_⟩
 ·have hk':k<List.length l:=by omega
  have g1:=h4 k hk'
  have g2:=hs k (by omega)
  have e0:List.getD l k (aP tI)=List.getD l k 0:=rfl
  rw[e0]
  have e9:subK N l k - List.getD l k 0=subK N l (k+1):=rfl
  generalize List.getD l k 0=y at g1 e9 ⊢
  (repeat' first|intro _|(refine go2 _ ?_ ?_ ?_)|(refine go2 _ ?_ ?_)|(refine go _ ?_ ?_ ?_)|(refine go _ ?_ ?_)|(with_reducible apply And.intro))
  all_goals first|omega|exact Prod.ext (show ((k:Nat):Int)+1=((k+1:Nat):Int) from rfl) e9|skip
 ·have:k=List.length l:=by omega
  rw[this]
theorem h_i_Bubble:Con.Holds Tryz.prog c_i_Bubble:=aX aZ aT e_i_Bubble v_i_Bubble
def k_s_DrawSimulate:Con:=⟨6,(.slice 5 (.int .u8)),(.bPW aC aF),[.val ⟨false,(.slice 5 (.int .u8)),[]⟩],[⟨true,aC,[0,0,0,0,0,0]⟩,⟨false,aF,[0]⟩],false,none,
 ((fun x=>x.length≤1048576):(List Int)→Prop),
 ((fun _=>aP (.bPW aC aF)):(List Int)→(bB × bL))⟩
def t_s_DrawSimulate:T:=.call 0 (.Z 0) <|.call 1 (.Z 1) <|.ret (.bPY aC aF (.p1 aC (.bPW aF (.bPW (.slice 5 (.int .u8)) aD)) (.Z 2)) (aH (.bPW aC (.bPW aF (.bPW (.slice 5 (.int .u8)) aD))) 1 (.Z 2)))
theorem e_s_DrawSimulate (f:(List Int)→(bB × bL)):bW Tryz.prog [fI,nA] { k_s_DrawSimulate with fn:=f } false 3000 ⟨[],[]⟩ = .ok t_s_DrawSimulate:=by kernel_rfl
theorem v_s_DrawSimulate (x:List Int) (hx:okD (.slice 5 (.int .u8)) x) (hp:(fun x=>x.length≤1048576) x):t_s_DrawSimulate.wp [fI,nA] [⟨(.slice 5 (.int .u8)),x⟩] [] (fun v=>(fun x r=>uD 9 4 6 r.1 r.2:(List Int)→(bB × bL)→Prop) x (v.as (.bPW aC aF))):=by
 have hp':List.length x≤1048576:=hp
 delta t_s_DrawSimulate fI nA;refine dY ?_
 refine eD ?_
 refine ⟨hp',fun hc=>⟨Int.le_refl _,fun _=>?_⟩⟩
 exact (aK2 (aMA x) hc (Int.le_refl _)).2
theorem d_s_DrawSimulate:∃ f:(List Int)→(bB × bL),(∀ x,okD (.slice 5 (.int .u8)) x→(fun x=>x.length≤1048576) x→(fun x r=>uD 9 4 6 r.1 r.2:(List Int)→(bB × bL)→Prop) x (f x))∧Con.Holds Tryz.prog { k_s_DrawSimulate with fn:=f }:=iX (C:=k_s_DrawSimulate) aZ (aG aP1 (aG aEP aT)) e_s_DrawSimulate (fun x r=>uD 9 4 6 r.1 r.2:(List Int)→(bB × bL)→Prop) v_s_DrawSimulate
def f_s_DrawSimulate:(List Int)→(bB × bL):=Classical.choose d_s_DrawSimulate
def c_s_DrawSimulate:Con:=⟨6,(.slice 5 (.int .u8)),(.bPW aC aF),[.val ⟨false,(.slice 5 (.int .u8)),[]⟩],[⟨true,aC,[0,0,0,0,0,0]⟩,⟨false,aF,[0]⟩],false,none,
 ((fun x=>x.length≤1048576):(List Int)→Prop),
 ((f_s_DrawSimulate):(List Int)→(bB × bL))⟩
theorem p_s_DrawSimulate:∀ x,okD (.slice 5 (.int .u8)) x→(fun x=>x.length≤1048576) x→(fun x r=>uD 9 4 6 r.1 r.2:(List Int)→(bB × bL)→Prop) x (f_s_DrawSimulate x):=(Classical.choose_spec d_s_DrawSimulate).1
theorem h_s_DrawSimulate:Con.Holds Tryz.prog c_s_DrawSimulate:=(Classical.choose_spec d_s_DrawSimulate).2
theorem q_s_DrawSimulate (x:List Int) (hx:okD (.slice 5 (.int .u8)) x) (hp:(fun x=>x.length≤1048576) x):okD (.bPW aC aF) (f_s_DrawSimulate x)∧(fun x r=>uD 9 4 6 r.1 r.2:(List Int)→(bB × bL)→Prop) x (f_s_DrawSimulate x):=⟨h_s_DrawSimulate.ok x hp hx,p_s_DrawSimulate x hx hp⟩
def c_w_FnClock:Con:=⟨3,(.slice 5 (.int .u8)),.bool,[.val ⟨false,(.slice 5 (.int .u8)),[]⟩],[⟨false,.bool,[0]⟩],false,none,
 ((fun _=>True):(List Int)→Prop),
 ((fun _=>true):(List Int)→(Bool))⟩
def t_w_FnClock:T:=.call 0 (.Z 0) <|.ite (.Z 1) (.ret (.cb true)) (.call 1 (.Z 0) <|.call 2 (.Z 2) <|.call 3 (.Z 2) <|
 .bPX (.cmp .neq .i64) (.bPY tI tI (.Z 4) (.ci .i64 0)) <|
 .ite (.Z 5) (
  .bPX (.cmp .eql .i64) (.bPY tI tI (.p1 tI (.bPW aB (.bPW aB .bool)) (.Z 3)) (.ci .i64 0)) <|
  .ite (.Z 6) (
   .bPX (.bQ0 3 tI) (aH (.bPW tI (.bPW aB (.bPW aB .bool))) 1 (.Z 3)) <|
   .bPX (.cmp .eql .i64) (.bPY tI tI (.Z 7) (.ci .i64 0)) <|
   .ite (.Z 8) (
    .bPX .not (aS (.bPW tI (.bPW aB (.bPW aB .bool))) 3 (.Z 3)) <|
    .ret (.Z 9)) (
    .ret (.cb false))) (
   .ret (.cb false))) (
  .bPX (.bQ0 3 tI) (aH (.bPW tI (.bPW aB (.bPW aB .bool))) 1 (.Z 3)) <|
  .bPX (.bQ0 4 .bool) (aH aC 3 (.p1 aC aF (.Z 2))) <|
  .bPX (.cmp .neq .i64) (.bPY tI tI (.Z 6) (.Z 7)) <|
  .ite (.Z 8) (
   .ret (.cb false)) (
   .bPX (.bQ0 3 tI) (aH (.bPW tI (.bPW aB (.bPW aB .bool))) 2 (.Z 3)) <|
   .bPX (.bQ0 4 .bool) (aH aC 3 (.p1 aC aF (.Z 2))) <|
   .bPX (.cmp .neq .i64) (.bPY tI tI (.Z 9) (.Z 10)) <|
   .ite (.Z 11) (
    .ret (.cb false)) (
    .loop aD (.bPY tI tI (.ci .i64 0) (.ci .i64 0)) <|
     .bPX (.bQ0 3 tI) (aH (.bPW tI (.bPW aB (.bPW aB .bool))) 1 (.Z 3)) <|
     .bPX (.cmp .lss .i64) (.bPY tI tI (.p1 tI tI (.Z 12)) (.Z 13)) <|
     .ite (.Z 14) (
      .bPX (.bQ1 3 tI) (.bPY aB tI (aH (.bPW tI (.bPW aB (.bPW aB .bool))) 1 (.Z 3)) (.p1 tI tI (.Z 12))) <|
      .bPX (.bQ1 3 tI) (.bPY aB tI (aH (.bPW tI (.bPW aB (.bPW aB .bool))) 1 (.Z 3)) (.p1 tI tI (.Z 12))) <|
      .bPX (.ar .add .i64) (.bPY tI tI (aS aD 1 (.Z 12)) (.Z 16)) <|
      .bPX (.bQ1 3 tI) (.bPY aB tI (aH (.bPW tI (.bPW aB (.bPW aB .bool))) 1 (.Z 3)) (.p1 tI tI (.Z 12))) <|
      .bPX (.bQ1 3 tI) (.bPY aB tI (aH (.bPW tI (.bPW aB (.bPW aB .bool))) 1 (.Z 3)) (.p1 tI tI (.Z 12))) <|
      .bPX (.bQ0 3 tI) (aH (.bPW tI (.bPW aB (.bPW aB .bool))) 1 (.Z 3)) <|
      .bPX (.bQ0 108 aQ) (aS (.bPW aC aF) 1 (.Z 2)) <|
      .bPX (.bQ1 4 .bool) (.bPY cA tI (aH aC 3 (.p1 aC aF (.Z 2))) (.p1 tI tI (.Z 12))) <|
      .call 4 (bP (.bPW tI (.bPW tI (.bPW tI (.bPW tI .bool)))) [(aH aC 2 (.p1 aC aF (.Z 2))),(.Z 20),(.p1 tI tI (.Z 12)),(.Z 21),(.Z 22)]) <|
      .bPX (.bQ0 76 aD) (.Z 23) <|
      .bPX (.cmp .neq .i64) (.bPY tI tI (.Z 19) (.Z 24)) <|
      .ite (.Z 25) (
       .ret (.cb false)) (
       .bPX (.bQ1 3 tI) (.bPY aB tI (aH (.bPW tI (.bPW aB (.bPW aB .bool))) 2 (.Z 3)) (.p1 tI tI (.Z 12))) <|
       .bPX (.bQ1 3 tI) (.bPY aB tI (aH (.bPW tI (.bPW aB (.bPW aB .bool))) 2 (.Z 3)) (.p1 tI tI (.Z 12))) <|
       .bPX (.bQ0 108 aQ) (aS (.bPW aC aF) 1 (.Z 2)) <|
       .call 5 (bP (.bPW aC aD) [(.p1 aC aF (.Z 2)),(.p1 tI tI (.Z 12)),(.Z 28)]) <|
       .bPX (.cmp .gtr .i64) (.bPY tI tI (.Z 27) (.Z 29)) <|
       .ite (.Z 30) (
        .ret (.cb false)) (
        .bPX (.bQ1 3 tI) (.bPY aB tI (aH (.bPW tI (.bPW aB (.bPW aB .bool))) 2 (.Z 3)) (.p1 tI tI (.Z 12))) <|
        .bPX (.bQ1 3 tI) (.bPY aB tI (aH (.bPW tI (.bPW aB (.bPW aB .bool))) 2 (.Z 3)) (.p1 tI tI (.Z 12))) <|
        .call 6 (.bPY aC tI (.p1 aC aF (.Z 2)) (.p1 tI tI (.Z 12))) <|
        .bPX (.cmp .lss .i64) (.bPY tI tI (.Z 32) (.Z 33)) <|
        .ite (.Z 34) (
         .ret (.cb false)) (
         .bPX (.ar .add .i64) (.bPY tI tI (.p1 tI tI (.Z 12)) (.ci .i64 1)) <|
         .bPZ 0 (.bPY tI tI (.Z 35) (.Z 17)))))) (
      .ite (aS (.bPW tI (.bPW aB (.bPW aB .bool))) 3 (.Z 3)) (
       .bPX (.bQ0 108 aQ) (aS (.bPW aC aF) 1 (.Z 2)) <|
       .call 7 (.bPY aC tI (.p1 aC aF (.Z 2)) (.Z 15)) <|
       .bPX (.cmp .eql .i64) (.bPY tI tI (aS aD 1 (.Z 12)) (.Z 16)) <|
       .ite (.Z 17) (
        .bPX (.bQ0 108 aQ) (aS (.bPW aC aF) 1 (.Z 2)) <|
        .call 8 (.bPY aC tI (.p1 aC aF (.Z 2)) (.Z 18)) <|
        .bPX (.cmp .geq .i64) (.bPY tI tI (.p1 tI (.bPW aB (.bPW aB .bool)) (.Z 3)) (.Z 19)) <|
        .ite (.Z 20) (
         .bPX (.cmp .leq .i64) (.bPY tI tI (.p1 tI (.bPW aB (.bPW aB .bool)) (.Z 3)) (aS aD 1 (.Z 12))) <|
         .ite (.Z 21) (
          .bPX (.bQ0 3 tI) (aH (.bPW tI (.bPW aB (.bPW aB .bool))) 1 (.Z 3)) <|
          .bPX (.ar .mul .i64) (.bPY tI tI (.p1 tI (.bPW aB (.bPW aB .bool)) (.Z 3)) (.Z 22)) <|
          .bPX (.ar .sub .i64) (.bPY tI tI (.Z 23) (aS aD 1 (.Z 12))) <|
          .call 9 (.Z 3) <|
          .bPX (.cmp .eql .i64) (.bPY tI tI (.Z 25) (.Z 24)) <|
          .ite (.Z 26) (
           .call 9 (.Z 3) <|
           .bPX (.cmp .geq .i64) (.bPY tI tI (.Z 27) (.ci .i64 0)) <|
           .ret (.Z 28)) (
           .ret (.cb false))) (
          .ret (.cb false))) (
         .ret (.cb false))) (
        .ret (.cb false))) (
       .ret (.cb false)))))))
theorem e_w_FnClock:bW Tryz.prog [uX,c_s_DrawSimulate,iR,nI,qE,fB,fX,c_i_Total,kQ,c_i_Bubble] c_w_FnClock false 3000 ⟨[(2972,16012,jV 51 36++jV 21 13++[.dr 10,.dr 12,.dr 11,.dr 9,.dr 8,.dr 0,.tm 7 0,.tm 6 0])],[]⟩ = .ok t_w_FnClock:=by kernel_rfl
theorem v_w_FnClock (x:List Int) (hx:okD (.slice 5 (.int .u8)) x) (hp:(fun _=>True) x):t_w_FnClock.wp [uX,c_s_DrawSimulate,iR,nI,qE,fB,fX,c_i_Total,kQ,c_i_Bubble] [⟨(.slice 5 (.int .u8)),x⟩] [] (fun v=>v.as .bool=(fun _=>true) x):=by
 delta t_w_FnClock uX c_s_DrawSimulate iR nI qE fB fX c_i_Total kQ c_i_Bubble;refine dY ?_
 refine eD ?_
 refine ⟨fun _=>trivial,fun hb=>⟨by omega,fun _=>?_⟩⟩
 have hx':List.length x≤1048576:=by omega
 have q:=(q_s_DrawSimulate x hx hx').2
 generalize f_s_DrawSimulate x=r at q ⊢
 obtain ⟨c,b⟩:=r
 dsimp only at q ⊢
 have s1:=cf_sz q
 have hcp:dO c:=aAV (by omega)
 refine ⟨⟨by omega,by omega⟩,fun _=>⟨hcp,fun _=>⟨fun had=>?_,fun had=>?_⟩⟩⟩
 ·rw[← bAW had]
  exact ⟨fun _ _=>⟨fun _=>rfl,fun h=>absurd rfl h⟩,fun h=>absurd rfl h⟩
 ·obtain ⟨m,e,hb1,hm1,hm2,hm3,hall⟩:=aQ1 had
  obtain ⟨a1,a2,a3,a4,a5,a6,a7,a8⟩:=iZ had
  have hn:=kN had
  have hl:=pG had
  have htot:=aSO had
  have hb5:=((nC _ _).1 a2).2.1
  have hpl:∀ t,t<(bA c b).2.1.length→gE (bA c b) t=fU c.2.2.1 (bC c.1 c.2.1) (t:Int) (b.length:Int) (c.2.2.2.1.getD t false):=fun t ht=>(nT had ht).1
  rw[e]
  have htK:∀ k,k≤(bA c b).2.1.length→totK c (b.length:Int) k=((oG (fun s=>(gE (bA c b) s).length) k:Nat):Int):=fun k=>by
   induction k with
   | zero=>intro _;rfl
   | succ k ih =>
    intro hk
    rw[totK,ih (by omega),oG,hpl k (by omega)];omega
  have htN:=htK _ (Nat.le_refl _)
  have htN':totK c (b.length:Int) (bA c b).2.1.length=(mT c b:Int):=htN
  have htk:∀ k,k≤(bA c b).2.1.length→vK c (b.length:Int) k≤(m:Int):=fun k=>by
   induction k with
   | zero=>intro _;show (0:Int)≤_;omega
   | succ k ih =>
    intro hk
    have h1:=(hall k (by omega)).2.1
    rw[hpl k (by omega)] at h1
    have h2:=ih (by omega)
    rw[vK];omega
  have hmu:∀ k,k≤(bA c b).2.1.length→totK c (b.length:Int) k≤(m:Int) * (k:Int):=fun k=>by
   induction k with
   | zero=>intro _;show (0:Int)≤(m:Int) * 0;omega
   | succ k ih =>
    intro hk
    have h1:=(hall k (by omega)).2.1
    rw[hpl k (by omega)] at h1
    have h2:=ih (by omega)
    rw[totK,show ((k+1:Nat):Int)=(k:Int)+1 from rfl,Int.mul_add,Int.mul_one];omega
  have hsu:∀ z:Int,∀ k,k≤(bA c b).2.1.length→subK z (kG (bA c b) m) k=z - totK c (b.length:Int) k:=fun z k=>by
   induction k with
   | zero=>intro _;show z=z - 0;omega
   | succ k ih =>
    intro hk
    have h1:=(hall k (by omega)).1
    rw[hpl k (by omega)] at h1
    rw[subK,ih (by omega),totK,h1];omega
  have hp60:∀ t,t<(bA c b).2.1.length→(gE (bA c b) t).length≤60:=fun t ht=>by rw[hpl t ht];exact lY _ _ _ _ _
  have hto:totF c (b.length:Int)=totK c (b.length:Int) (bA c b).2.1.length:=by unfold totF;congr 1;omega
  have hti:aGA c (b.length:Int)≤(m:Int):=by
   have:=htk _ (Nat.le_refl _)
   unfold aGA
   rw[show min c.2.2.2.1.length (bC c.1 c.2.1).toNat=(bA c b).2.1.length by omega];exact this
  have hm9:=hmu _ (Nat.le_refl _)
  generalize (bA c b).2.1.length=N at *
  generalize kG (bA c b) m=B at *
  generalize iU (bA c b) m=M at *
  dsimp only
  refine fun _ _=>⟨fun h=>absurd (by omega) h,fun _ _ _=>⟨fun h=>absurd (by omega) h,fun _=>?_⟩⟩
  refine eW (fun k=>((k:Int),totK c (b.length:Int) k)) N rfl fun I μ k hk _ go=>?_
  try dsimp only
  try refine eD ?_
  refine fun _=>⟨fun hlt=>?_,fun hge=>?_⟩
  ·have hk':k<N:=by omega
   obtain ⟨b1,b2,b3,b4⟩:=hall k hk'
   have g60:=hp60 k hk'
   have gt:=totK_b c (b.length:Int) k
   have ep:fU c.2.2.1 ((B.length:Nat):Int) (k:Int) (b.length:Int) (List.getD c.2.2.2.1 k (aP .bool))=gE (bA c b) k:=by
    rw[hpl k hk',show ((B.length:Nat):Int)=bC c.1 c.2.1 by omega];rfl
   have eB:B.getD k (aP tI)=((gE (bA c b) k).length:Int):=b1
   have eM:M.getD k (aP tI)=M.getD k 0:=rfl
   have eT:totK c (b.length:Int) k+((gE (bA c b) k).length:Int)=totK c (b.length:Int) (k+1):=by rw[totK,← hpl k hk']
   simp only[ep,eB,eM]
   (repeat' first|intro _|(refine go2 _ ?_ ?_ ?_)|(refine go2 _ ?_ ?_)|(refine go _ ?_ ?_ ?_)|(refine go _ ?_ ?_)|(with_reducible apply And.intro))
   all_goals first|omega|exact hcp|exact absurd trivial (by assumption)|exact Prod.ext (show ((k:Nat):Int)+1=((k+1:Nat):Int) from rfl) eT|skip
  ·have hkN:k=N:=by omega
   rw[hkN,hb1]
   have hsN:=hsu ((m:Int) * (N:Int)) N (Nat.le_refl _)
   have hmN:0≤(m:Int) * (N:Int)∧(m:Int) * (N:Int)≤1000:=⟨Int.mul_nonneg (by omega) (by omega),Int.le_trans (Int.mul_le_mul (show (m:Int)≤240 by omega) (show (N:Int)≤4 by omega) (by omega) (by omega)) (by omega)⟩
   have hBb:∀ k,k<N→0≤B.getD k 0∧B.getD k 0≤100000:=fun k hk=>by
    have h1:=(hall k hk).1
    have h2:=hp60 k hk
    omega
   have gt:=totK_b c (b.length:Int) N
   generalize (m:Int) * (N:Int)=mN at hm9 hsN hmN ⊢
   (repeat' first|intro _|(with_reducible apply And.intro))
   all_goals first|omega|exact hcp|exact (hBb _ (by assumption)).1|exact (hBb _ (by assumption)).2|(rename_i hh;cases hh;done)|skip
theorem h_w_FnClock:Con.Holds Tryz.prog c_w_FnClock:=aX aZ (aG bCW (aG h_s_DrawSimulate (aG aFZ (aG aPM (aG aVS (aG yU (aG aAG (aG h_i_Total (aG aJI (aG h_i_Bubble aT)))))))))) e_w_FnClock v_w_FnClock
end
end Go.Proofs.YtpafjioccjpmfaaGreat
