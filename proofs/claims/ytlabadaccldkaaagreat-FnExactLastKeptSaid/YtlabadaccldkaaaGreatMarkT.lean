/- MarkT: lemmas. No conditions. -/
import Derived.Test.YtlabadaccldkaaaGreatCe
import Derived.Test.YtlabadaccldkaaaGreatLoop
import Derived.Test.YtlabadaccldkaaaGreatVec2
namespace Go.Proofs.YtlabadaccldkaaaGreat
open Go.ChangeShapes Go.WideShapes Go.ChangeAt Go.RowKit Go.Deep
set_option linter.unusedVariables false
set_option linter.unusedSimpArgs false
noncomputable def rZ:Con:=⟨18,tI,.str,[.val ⟨false,tI,[]⟩],[⟨false,.str,[0]⟩],false,none,
 ((fun x=>0≤x∧x≤1000000000000):(Int)→Prop),
 ((fun _=>aV .str):(Int)→(ByteArray))⟩
def sA:T :=
 .aWT (.cmp .leq .i64) (.aWU tI tI (.Z 0) (.ci .i64 0)) <|
 .ite (.Z 1) (
  .ret (.cs ⟨#[109,48]⟩)) (
  .loop (.aWS .str tI) (.aWU .str tI (.cs ⟨#[]⟩) (.Z 0)) <|
   .aWT (.cmp .gtr .i64) (.aWU tI tI (aG (.aWS .str tI) 1 (.Z 2)) (.ci .i64 0)) <|
   .ite (.Z 3) (
    .aWT (.rem .i64) (.aWU tI tI (aG (.aWS .str tI) 1 (.Z 2)) (.ci .i64 10)) <|
    .aWT (.ar .add .i64) (.aWU tI tI (.ci .i64 48) (.Z 4)) <|
    .aWT (.conv .i64 .u8) (.Z 5) <|
    .aWT (.lit 5 (.int .u8) 1) (.Z 6) <|
    .aWT (.b2s 5) (.Z 7) <|
    .aWT .sadd (.aWU .str .str (.Z 8) (.p1 .str tI (.Z 2))) <|
    .aWT (.quo .i64) (.aWU tI tI (aG (.aWS .str tI) 1 (.Z 2)) (.ci .i64 10)) <|
    .aWV 0 (.aWU .str tI (.Z 9) (.Z 10))) (
    .aWT .sadd (.aWU .str .str (.cs ⟨#[109]⟩) (.p1 .str tI (.Z 2))) <|
    .ret (.Z 4)))
set_option maxRecDepth 100000 in
theorem aI5 (f:(Int)→(ByteArray)):cW Tryz.prog [] { rZ with fn:=f } false 3000 ⟨[(2988,2002,[.dr 5,.dr 4,.tm 3 0,.tm 0 0])],[]⟩ = .ok sA:=by kernel_rfl
theorem aGA (x:Int) (hx:okD tI x) (hp:(fun x=>0≤x∧x≤1000000000000) x):sA.wp [] [⟨tI,x⟩] [] (fun v=>(fun x r=>r.size≤2000000000000:(Int)→(ByteArray)→Prop) x (v.as .str)):=by
 have hp':0≤x∧x≤1000000000000:=hp
 delta sA;refine jN ?_
 refine gJ ?_
 refine ⟨fun _=>by decide,fun h0=>?_⟩
 refine ⟨fun s=>((ByteArray.size s.1:Nat):Int)+s.2≤x∧@LE.le Int _ 0 s.2,fun s=>(s.2:Int).toNat,⟨by show ((0:Nat):Int)+x≤x;omega,hp'.1⟩,fun s hs hI=>?_⟩
 obtain ⟨u,k⟩:=s
 change Int at k
 change ByteArray at u
 obtain ⟨e1,e2⟩:=hI
 change ((u.size:Nat):Int)+k≤x at e1
 change 0≤k at e2
 have t1:0≤k.tmod 10∧k.tmod 10<10:=⟨Int.tmod_nonneg 10 e2,Int.tmod_lt_of_pos k (by omega)⟩
 have t2:0≤k.tdiv 10:=Int.tdiv_nonneg e2 (by omega)
 have t3:0<k→k.tdiv 10≤k - 1:=fun h=>by rw[Int.tdiv_eq_ediv_of_nonneg e2];omega
 have ob:∀ z:Int,(dD [z]).size=1:=fun z=>rfl
 have om:(⟨#[109]⟩:ByteArray).size=1:=rfl
 try dsimp only
 (refine gJ ?_;try with_reducible exact True.intro)
 (repeat' first|intro _|(with_reducible apply And.intro))
 all_goals first|omega|((try simp only[cA,ob,om]);(try unfold maxLen);omega)|skip
theorem sE:∃ f:(Int)→(ByteArray),(∀ x,okD tI x→(fun x=>0≤x∧x≤1000000000000) x→(fun x r=>r.size≤2000000000000:(Int)→(ByteArray)→Prop) x (f x))∧Con.Holds Tryz.prog { rZ with fn:=f }:=aVV (C:=rZ) bI aY aI5 (fun x r=>r.size≤2000000000000:(Int)→(ByteArray)→Prop) aGA
noncomputable def kX:(Int)→(ByteArray):=Classical.choose sE
noncomputable def fE:Con:=⟨18,tI,.str,[.val ⟨false,tI,[]⟩],[⟨false,.str,[0]⟩],false,none,
 ((fun x=>0≤x∧x≤1000000000000):(Int)→Prop),
 ((kX):(Int)→(ByteArray))⟩
theorem aIF:∀ x,okD tI x→(fun x=>0≤x∧x≤1000000000000) x→(fun x r=>r.size≤2000000000000:(Int)→(ByteArray)→Prop) x (kX x):=(Classical.choose_spec sE).1
theorem yT:Con.Holds Tryz.prog fE:=(Classical.choose_spec sE).2
theorem aGI (x:Int) (hx:okD tI x) (hp:(fun x=>0≤x∧x≤1000000000000) x):okD .str (kX x)∧(fun x r=>r.size≤2000000000000:(Int)→(ByteArray)→Prop) x (kX x):=⟨yT.ok x hp hx,aIF x hx hp⟩
end Go.Proofs.YtlabadaccldkaaaGreat
