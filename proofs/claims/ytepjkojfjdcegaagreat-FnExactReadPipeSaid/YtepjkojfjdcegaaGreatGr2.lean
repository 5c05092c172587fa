/- Gr2: trees, and what they say. -/
import Derived.Test.YtepjkojfjdcegaaGreatFix2
namespace Go.Proofs.YtepjkojfjdcegaaGreat
open Go.ChangeShapes Go.WideShapes Go.ChangeAt Go.RowKit Go.Deep
set_option linter.unusedVariables false
set_option linter.unusedSimpArgs false
def zipV (a b:List Int):List Int:=List.zipWith (fun x y=>(fixAdd x y).1) a b
def zipF (a b:List Int):Bool:=(a.zip b).any fun p=>(fixAdd p.1 p.2).2
def addRows (a b:List (List Int)):List (List Int):=List.zipWith zipV a b
def addRowsF (a b:List (List Int)):Bool:=(a.zip b).any fun p=>zipF p.1 p.2
def addGrads (a b:GradsD):GradsD:=(addRows a.1 b.1,((fixAdd a.2.1 b.2.1).1,a.2.2 || b.2.2 || addRowsF a.1 b.1 || (fixAdd a.2.1 b.2.1).2))
def GradsB (g:GradsD):Prop:=g.1.length≤1000000000∧∀ r ∈ g.1,r.length≤1000000000
def zipFk (a b:List Int) (k:Nat):Bool:=((a.zip b).take k).any fun p=>(fixAdd p.1 p.2).2
def addFk (a b:List (List Int)) (k:Nat):Bool:=((a.zip b).take k).any fun p=>zipF p.1 p.2
noncomputable def c_i_AddGrads:Con:=⟨126,(.pair tGrads tGrads),tGrads,[.val ⟨true,tGrads,[]⟩,.val ⟨true,tGrads,[]⟩],[⟨true,tGrads,[2,0,0]⟩],false,none,
 ((fun x=>GradsB x.1∧GradsB x.2):(GradsD × GradsD)→Prop),
 ((fun x=>addGrads x.1 x.2):(GradsD × GradsD)→(GradsD))⟩
def t_i_AddGrads:T :=
 .ite (prA tGrads 2 (.p1 tGrads tGrads (.vr 0))) (
  .loop tSaved (.mk2 tI tRows (.ci .i64 0) (.nl 158 tInts)) <|
   .prim (.llen 158 tInts) (.p1 tRows (.pair tI .bool) (.p1 tGrads tGrads (.vr 0))) <|
   .prim (.cmp .lss .i64) (.mk2 tI tI (.p1 tI tRows (.vr 1)) (.vr 2)) <|
   .ite (.vr 3) (
    .prim (.llen 158 tInts) (pjA (.pair tGrads tGrads) 1 (.vr 0)) <|
    .prim (.cmp .lss .i64) (.mk2 tI tI (.p1 tI tRows (.vr 1)) (.vr 4)) <|
    .ite (.vr 5) (
     .loop tItem (.mk2 tI tInts (.ci .i64 0) (.nl 3 tI)) <|
      .prim (.lidx 158 tInts) (.mk2 tRows tI (.p1 tRows (.pair tI .bool) (.p1 tGrads tGrads (.vr 0))) (.p1 tI tRows (.vr 1))) <|
      .prim (.llen 3 tI) (.vr 7) <|
      .prim (.cmp .lss .i64) (.mk2 tI tI (.p1 tI tInts (.vr 6)) (.vr 8)) <|
      .ite (.vr 9) (
       .prim (.lidx 158 tInts) (.mk2 tRows tI (pjA (.pair tGrads tGrads) 1 (.vr 0)) (.p1 tI tRows (.vr 1))) <|
       .prim (.llen 3 tI) (.vr 10) <|
       .prim (.cmp .lss .i64) (.mk2 tI tI (.p1 tI tInts (.vr 6)) (.vr 11)) <|
       .ite (.vr 12) (
        .prim (.lidx 158 tInts) (.mk2 tRows tI (.p1 tRows (.pair tI .bool) (.p1 tGrads tGrads (.vr 0))) (.p1 tI tRows (.vr 1))) <|
        .prim (.lidx 3 tI) (.mk2 tInts tI (.vr 13) (.p1 tI tInts (.vr 6))) <|
        .prim (.lidx 158 tInts) (.mk2 tRows tI (pjA (.pair tGrads tGrads) 1 (.vr 0)) (.p1 tI tRows (.vr 1))) <|
        .prim (.lidx 3 tI) (.mk2 tInts tI (.vr 15) (.p1 tI tInts (.vr 6))) <|
        .call 0 (.mk2 tI tI (.vr 14) (.vr 16)) <|
        .prim (.lit 3 tI 1) (.p1 tI .bool (.vr 17)) <|
        .prim (.lapp 3 tI 8) (.mk2 tInts tInts (prA tItem 1 (.vr 6)) (.vr 18)) <|
        .prim (.ar .add .i64) (.mk2 tI tI (.p1 tI tInts (.vr 6)) (.ci .i64 1)) <|
        .again 0 (.mk2 tI tInts (.vr 20) (.vr 19))) (
        .prim (.lit 158 tInts 1) (prA tItem 1 (.vr 6)) <|
        .prim (.lapp 158 tInts 24) (.mk2 tRows tRows (prA tSaved 1 (.vr 1)) (.vr 13)) <|
        .prim (.ar .add .i64) (.mk2 tI tI (.p1 tI tRows (.vr 1)) (.ci .i64 1)) <|
        .again 1 (.mk2 tI tRows (.vr 15) (.vr 14)))) (
       .prim (.lit 158 tInts 1) (prA tItem 1 (.vr 6)) <|
       .prim (.lapp 158 tInts 24) (.mk2 tRows tRows (prA tSaved 1 (.vr 1)) (.vr 10)) <|
       .prim (.ar .add .i64) (.mk2 tI tI (.p1 tI tRows (.vr 1)) (.ci .i64 1)) <|
       .again 1 (.mk2 tI tRows (.vr 12) (.vr 11)))) (
     .call 0 (.mk2 tI tI (pjA tGrads 1 (.p1 tGrads tGrads (.vr 0))) (pjA (.pair tGrads tGrads) 2 (.vr 0))) <|
     .ret (mkA tGrads [(prA tSaved 1 (.vr 1)),(.p1 tI .bool (.vr 6)),(.cb true)]))) (
    .call 0 (.mk2 tI tI (pjA tGrads 1 (.p1 tGrads tGrads (.vr 0))) (pjA (.pair tGrads tGrads) 2 (.vr 0))) <|
    .ret (mkA tGrads [(prA tSaved 1 (.vr 1)),(.p1 tI .bool (.vr 4)),(.cb true)]))) (
  .loop (.pair tI (.pair tRows .bool)) (mkA (.pair tI (.pair tRows .bool)) [(.ci .i64 0),(.nl 158 tInts),(prA (.pair tGrads tGrads) 3 (.vr 0))]) <|
   .prim (.llen 158 tInts) (.p1 tRows (.pair tI .bool) (.p1 tGrads tGrads (.vr 0))) <|
   .prim (.cmp .lss .i64) (.mk2 tI tI (.p1 tI (.pair tRows .bool) (.vr 1)) (.vr 2)) <|
   .ite (.vr 3) (
    .prim (.llen 158 tInts) (pjA (.pair tGrads tGrads) 1 (.vr 0)) <|
    .prim (.cmp .lss .i64) (.mk2 tI tI (.p1 tI (.pair tRows .bool) (.vr 1)) (.vr 4)) <|
    .ite (.vr 5) (
     .loop (.pair tI (.pair tInts .bool)) (mkA (.pair tI (.pair tInts .bool)) [(.ci .i64 0),(.nl 3 tI),(prA (.pair tI (.pair tRows .bool)) 2 (.vr 1))]) <|
      .prim (.lidx 158 tInts) (.mk2 tRows tI (.p1 tRows (.pair tI .bool) (.p1 tGrads tGrads (.vr 0))) (.p1 tI (.pair tRows .bool) (.vr 1))) <|
      .prim (.llen 3 tI) (.vr 7) <|
      .prim (.cmp .lss .i64) (.mk2 tI tI (.p1 tI (.pair tInts .bool) (.vr 6)) (.vr 8)) <|
      .ite (.vr 9) (
       .prim (.lidx 158 tInts) (.mk2 tRows tI (pjA (.pair tGrads tGrads) 1 (.vr 0)) (.p1 tI (.pair tRows .bool) (.vr 1))) <|
       .prim (.llen 3 tI) (.vr 10) <|
       .prim (.cmp .lss .i64) (.mk2 tI tI (.p1 tI (.pair tInts .bool) (.vr 6)) (.vr 11)) <|
       .ite (.vr 12) (
        .prim (.lidx 158 tInts) (.mk2 tRows tI (.p1 tRows (.pair tI .bool) (.p1 tGrads tGrads (.vr 0))) (.p1 tI (.pair tRows .bool) (.vr 1))) <|
        .prim (.lidx 3 tI) (.mk2 tInts tI (.vr 13) (.p1 tI (.pair tInts .bool) (.vr 6))) <|
        .prim (.lidx 158 tInts) (.mk2 tRows tI (pjA (.pair tGrads tGrads) 1 (.vr 0)) (.p1 tI (.pair tRows .bool) (.vr 1))) <|
        .prim (.lidx 3 tI) (.mk2 tInts tI (.vr 15) (.p1 tI (.pair tInts .bool) (.vr 6))) <|
        .call 0 (.mk2 tI tI (.vr 14) (.vr 16)) <|
        .prim (.lit 3 tI 1) (.p1 tI .bool (.vr 17)) <|
        .prim (.lapp 3 tI 8) (.mk2 tInts tInts (pjA (.pair tI (.pair tInts .bool)) 1 (.vr 6)) (.vr 18)) <|
        .ite (prA (.pair tI (.pair tInts .bool)) 2 (.vr 6)) (
         .prim (.ar .add .i64) (.mk2 tI tI (.p1 tI (.pair tInts .bool) (.vr 6)) (.ci .i64 1)) <|
         .again 0 (mkA (.pair tI (.pair tInts .bool)) [(.vr 20),(.vr 19),(.cb true)])) (
         .prim (.ar .add .i64) (.mk2 tI tI (.p1 tI (.pair tInts .bool) (.vr 6)) (.ci .i64 1)) <|
         .again 0 (mkA (.pair tI (.pair tInts .bool)) [(.vr 20),(.vr 19),(prA (.pair tI .bool) 1 (.vr 17))]))) (
        .prim (.lit 158 tInts 1) (pjA (.pair tI (.pair tInts .bool)) 1 (.vr 6)) <|
        .prim (.lapp 158 tInts 24) (.mk2 tRows tRows (pjA (.pair tI (.pair tRows .bool)) 1 (.vr 1)) (.vr 13)) <|
        .prim (.ar .add .i64) (.mk2 tI tI (.p1 tI (.pair tRows .bool) (.vr 1)) (.ci .i64 1)) <|
        .again 1 (mkA (.pair tI (.pair tRows .bool)) [(.vr 15),(.vr 14),(prA (.pair tI (.pair tInts .bool)) 2 (.vr 6))]))) (
       .prim (.lit 158 tInts 1) (pjA (.pair tI (.pair tInts .bool)) 1 (.vr 6)) <|
       .prim (.lapp 158 tInts 24) (.mk2 tRows tRows (pjA (.pair tI (.pair tRows .bool)) 1 (.vr 1)) (.vr 10)) <|
       .prim (.ar .add .i64) (.mk2 tI tI (.p1 tI (.pair tRows .bool) (.vr 1)) (.ci .i64 1)) <|
       .again 1 (mkA (.pair tI (.pair tRows .bool)) [(.vr 12),(.vr 11),(prA (.pair tI (.pair tInts .bool)) 2 (.vr 6))]))) (
     .call 0 (.mk2 tI tI (pjA tGrads 1 (.p1 tGrads tGrads (.vr 0))) (pjA (.pair tGrads tGrads) 2 (.vr 0))) <|
     .ite (prA (.pair tI (.pair tRows .bool)) 2 (.vr 1)) (
      .ret (mkA tGrads [(pjA (.pair tI (.pair tRows .bool)) 1 (.vr 1)),(.p1 tI .bool (.vr 6)),(.cb true)])) (
      .ret (.mk2 tRows (.pair tI .bool) (pjA (.pair tI (.pair tRows .bool)) 1 (.vr 1)) (.vr 6))))) (
    .call 0 (.mk2 tI tI (pjA tGrads 1 (.p1 tGrads tGrads (.vr 0))) (pjA (.pair tGrads tGrads) 2 (.vr 0))) <|
    .ite (prA (.pair tI (.pair tRows .bool)) 2 (.vr 1)) (
     .ret (mkA tGrads [(pjA (.pair tI (.pair tRows .bool)) 1 (.vr 1)),(.p1 tI .bool (.vr 4)),(.cb true)])) (
     .ret (.mk2 tRows (.pair tI .bool) (pjA (.pair tI (.pair tRows .bool)) 1 (.vr 1)) (.vr 4)))))
noncomputable def c_s_l2Sat:Con:=⟨168,tI,(.pair tI .bool),[.val ⟨false,tI,[]⟩],[⟨false,tI,[0]⟩,⟨false,.bool,[0]⟩],false,none,
 ((fun _=>True):(Int)→Prop),
 ((fun x=>satI x):(Int)→(Int × Bool))⟩
def t_s_l2Sat:T :=
 .prim (.cmp .gtr .i64) (.mk2 tI tI (.vr 0) (.ci .i64 2147483647)) <|
 .ite (.vr 1) (
  .ret (.mk2 tI .bool (.ci .i64 2147483647) (.cb true))) (
  .prim (.cmp .lss .i64) (.mk2 tI tI (.vr 0) (.ci .i64 (-2147483647))) <|
  .ite (.vr 2) (
   .ret (.mk2 tI .bool (.ci .i64 (-2147483647)) (.cb true))) (
   .ret (.mk2 tI .bool (.vr 0) (.cb false))))
noncomputable def c_s_l2In:Con:=⟨170,tI,tI,[.val ⟨false,tI,[]⟩],[⟨false,tI,[0]⟩],false,none,
 ((fun _=>True):(Int)→Prop),
 ((fun x=>clampI x):(Int)→(Int))⟩
def t_s_l2In:T :=
 .call 0 (.vr 0) <|
 .ret (.p1 tI .bool (.vr 1))
noncomputable def c_s_FixAdd:Con:=⟨163,tIns,(.pair tI .bool),[.val ⟨false,tI,[]⟩,.val ⟨false,tI,[]⟩],[⟨false,tI,[0]⟩,⟨false,.bool,[0]⟩],false,none,
 ((fun _=>True):(Int × Int)→Prop),
 ((fun x=>fixAdd x.1 x.2):(Int × Int)→(Int × Bool))⟩
def t_s_FixAdd:T :=
 .call 0 (.p1 tI tI (.vr 0)) <|
 .call 0 (prA tIns 1 (.vr 0)) <|
 .prim (.ar .add .i64) (.mk2 tI tI (.vr 1) (.vr 2)) <|
 .call 1 (.vr 3) <|
 .ret (.vr 4)
noncomputable def c_s_l11Rows:Con:=⟨212,tRows,tRows,[.val ⟨false,tRows,[]⟩],[⟨false,tRows,[2]⟩],false,none,
 ((fun x=>List.length x≤1000000000∧∀ y ∈ x,List.length y≤1000000000):(RowsD)→Prop),
 ((fun x=>x):(RowsD)→(RowsD))⟩
def t_s_l11Rows:T :=
 .loop tSaved (.mk2 tI tRows (.ci .i64 0) (.nl 158 tInts)) <|
  .prim (.llen 158 tInts) (.vr 0) <|
  .prim (.cmp .lss .i64) (.mk2 tI tI (.p1 tI tRows (.vr 1)) (.vr 2)) <|
  .ite (.vr 3) (
   .prim (.lidx 158 tInts) (.mk2 tRows tI (.vr 0) (.p1 tI tRows (.vr 1))) <|
   .prim (.lapp 3 tI 8) (.mk2 tInts tInts (.nl 3 tI) (.vr 4)) <|
   .prim (.lit 158 tInts 1) (.vr 5) <|
   .prim (.lapp 158 tInts 24) (.mk2 tRows tRows (prA tSaved 1 (.vr 1)) (.vr 6)) <|
   .prim (.ar .add .i64) (.mk2 tI tI (.p1 tI tRows (.vr 1)) (.ci .i64 1)) <|
   .again 0 (.mk2 tI tRows (.vr 8) (.vr 7))) (
   .ret (prA tSaved 1 (.vr 1)))
noncomputable def c_s_l7Add:Con:=⟨162,tPair,(.pair tInts .bool),[.val ⟨false,tInts,[]⟩,.val ⟨false,tInts,[]⟩],[⟨false,tInts,[2]⟩,⟨false,.bool,[0]⟩],false,none,
 ((fun x=>List.length x.1≤1000000000∧List.length x.2≤1000000000):(PairD)→Prop),
 ((fun x=>(zipV x.1 x.2,zipF x.1 x.2)):(PairD)→(IntsD × Bool))⟩
def t_s_l7Add:T :=
 .loop (.pair tI (.pair .bool tInts)) (mkA (.pair tI (.pair .bool tInts)) [(.ci .i64 0),(.cb false),(.nl 3 tI)]) <|
  .prim (.llen 3 tI) (.p1 tInts tInts (.vr 0)) <|
  .prim (.cmp .lss .i64) (.mk2 tI tI (.p1 tI (.pair .bool tInts) (.vr 1)) (.vr 2)) <|
  .ite (.vr 3) (
   .prim (.llen 3 tI) (prA tPair 1 (.vr 0)) <|
   .prim (.cmp .lss .i64) (.mk2 tI tI (.p1 tI (.pair .bool tInts) (.vr 1)) (.vr 4)) <|
   .ite (.vr 5) (
    .prim (.lidx 3 tI) (.mk2 tInts tI (.p1 tInts tInts (.vr 0)) (.p1 tI (.pair .bool tInts) (.vr 1))) <|
    .prim (.lidx 3 tI) (.mk2 tInts tI (prA tPair 1 (.vr 0)) (.p1 tI (.pair .bool tInts) (.vr 1))) <|
    .call 0 (.mk2 tI tI (.vr 6) (.vr 7)) <|
    .prim (.lit 3 tI 1) (.p1 tI .bool (.vr 8)) <|
    .prim (.lapp 3 tI 8) (.mk2 tInts tInts (prA (.pair tI (.pair .bool tInts)) 2 (.vr 1)) (.vr 9)) <|
    .ite (pjA (.pair tI (.pair .bool tInts)) 1 (.vr 1)) (
     .prim (.ar .add .i64) (.mk2 tI tI (.p1 tI (.pair .bool tInts) (.vr 1)) (.ci .i64 1)) <|
     .again 0 (mkA (.pair tI (.pair .bool tInts)) [(.vr 11),(.cb true),(.vr 10)])) (
     .prim (.ar .add .i64) (.mk2 tI tI (.p1 tI (.pair .bool tInts) (.vr 1)) (.ci .i64 1)) <|
     .again 0 (mkA (.pair tI (.pair .bool tInts)) [(.vr 11),(prA (.pair tI .bool) 1 (.vr 8)),(.vr 10)]))) (
    .ret (.mk2 tInts .bool (prA (.pair tI (.pair .bool tInts)) 2 (.vr 1)) (pjA (.pair tI (.pair .bool tInts)) 1 (.vr 1))))) (
   .ret (.mk2 tInts .bool (prA (.pair tI (.pair .bool tInts)) 2 (.vr 1)) (pjA (.pair tI (.pair .bool tInts)) 1 (.vr 1))))
noncomputable def c_s_l1In:Con:=⟨96,(.pair tI tIns),.bool,[.val ⟨false,tI,[]⟩,.val ⟨false,tI,[]⟩,.val ⟨false,tI,[]⟩],[⟨false,.bool,[0]⟩],false,none,
 ((fun _=>True):(Int × InsD)→Prop),
 ((fun x=>decide (x.2.1≤x.1) && decide (x.1≤x.2.2)):(Int × InsD)→(Bool))⟩
def t_s_l1In:T :=
 .prim (.cmp .geq .i64) (.mk2 tI tI (.p1 tI tIns (.vr 0)) (pjA (.pair tI tIns) 1 (.vr 0))) <|
 .ite (.vr 1) (
  .prim (.cmp .leq .i64) (.mk2 tI tI (.p1 tI tIns (.vr 0)) (prA (.pair tI tIns) 2 (.vr 0))) <|
  .ret (.vr 2)) (
  .ret (.cb false))
set_option maxRecDepth 100000 in
theorem e_s_l1In:exFn Tryz.prog [] c_s_l1In false 3000 ⟨[],[]⟩ = .ok t_s_l1In:=by kernel_rfl
theorem v_s_l1In (x:Int × InsD) (hx:okD (.pair tI tIns) x) (hp:(fun _=>True) x):t_s_l1In.wp [] [⟨(.pair tI tIns),x⟩] [] (fun v=>v.as .bool = (fun x=>decide (x.2.1≤x.1) && decide (x.1≤x.2.2)) x):=by
 delta t_s_l1In;refine vcx ?_;try with_reducible exact True.intro
 (refine dcx ?_;try with_reducible exact True.intro)
 constructor
 ·intro h;simp [h]
 ·intro h
  have:¬ x.2.1≤x.1:=by omega
  simp [this]
theorem h_s_l1In:Con.Holds Tryz.prog c_s_l1In:=tree_ok mixedP consNil e_s_l1In fun x hx hp=>v_s_l1In x hx hp
noncomputable def c_s_AddGrads:Con:=⟨116,(.pair tGrads tGrads),tGrads,[.val ⟨true,tGrads,[]⟩,.val ⟨true,tGrads,[]⟩],[⟨true,tGrads,[2,0,0]⟩],false,none,
 ((fun x=>GradsB x.1∧GradsB x.2):(GradsD × GradsD)→Prop),
 ((fun x=>addGrads x.1 x.2):(GradsD × GradsD)→(GradsD))⟩
def t_s_AddGrads:T :=
 .ite (prA tGrads 2 (.p1 tGrads tGrads (.vr 0))) (
  .loop tSaved (.mk2 tI tRows (.ci .i64 0) (.nl 158 tInts)) <|
   .prim (.llen 158 tInts) (.p1 tRows (.pair tI .bool) (.p1 tGrads tGrads (.vr 0))) <|
   .prim (.cmp .lss .i64) (.mk2 tI tI (.p1 tI tRows (.vr 1)) (.vr 2)) <|
   .ite (.vr 3) (
    .prim (.llen 158 tInts) (pjA (.pair tGrads tGrads) 1 (.vr 0)) <|
    .prim (.cmp .lss .i64) (.mk2 tI tI (.p1 tI tRows (.vr 1)) (.vr 4)) <|
    .ite (.vr 5) (
     .prim (.lidx 158 tInts) (.mk2 tRows tI (.p1 tRows (.pair tI .bool) (.p1 tGrads tGrads (.vr 0))) (.p1 tI tRows (.vr 1))) <|
     .prim (.lidx 158 tInts) (.mk2 tRows tI (pjA (.pair tGrads tGrads) 1 (.vr 0)) (.p1 tI tRows (.vr 1))) <|
     .call 0 (.mk2 tInts tInts (.vr 6) (.vr 7)) <|
     .prim (.lit 158 tInts 1) (.p1 tInts .bool (.vr 8)) <|
     .prim (.lapp 158 tInts 24) (.mk2 tRows tRows (prA tSaved 1 (.vr 1)) (.vr 9)) <|
     .prim (.ar .add .i64) (.mk2 tI tI (.p1 tI tRows (.vr 1)) (.ci .i64 1)) <|
     .again 0 (.mk2 tI tRows (.vr 11) (.vr 10))) (
     .call 1 (.mk2 tI tI (pjA tGrads 1 (.p1 tGrads tGrads (.vr 0))) (pjA (.pair tGrads tGrads) 2 (.vr 0))) <|
     .ret (mkA tGrads [(prA tSaved 1 (.vr 1)),(.p1 tI .bool (.vr 6)),(.cb true)]))) (
    .call 1 (.mk2 tI tI (pjA tGrads 1 (.p1 tGrads tGrads (.vr 0))) (pjA (.pair tGrads tGrads) 2 (.vr 0))) <|
    .ret (mkA tGrads [(prA tSaved 1 (.vr 1)),(.p1 tI .bool (.vr 4)),(.cb true)]))) (
  .loop (.pair tI (.pair tRows .bool)) (mkA (.pair tI (.pair tRows .bool)) [(.ci .i64 0),(.nl 158 tInts),(prA (.pair tGrads tGrads) 3 (.vr 0))]) <|
   .prim (.llen 158 tInts) (.p1 tRows (.pair tI .bool) (.p1 tGrads tGrads (.vr 0))) <|
   .prim (.cmp .lss .i64) (.mk2 tI tI (.p1 tI (.pair tRows .bool) (.vr 1)) (.vr 2)) <|
   .ite (.vr 3) (
    .prim (.llen 158 tInts) (pjA (.pair tGrads tGrads) 1 (.vr 0)) <|
    .prim (.cmp .lss .i64) (.mk2 tI tI (.p1 tI (.pair tRows .bool) (.vr 1)) (.vr 4)) <|
    .ite (.vr 5) (
     .prim (.lidx 158 tInts) (.mk2 tRows tI (.p1 tRows (.pair tI .bool) (.p1 tGrads tGrads (.vr 0))) (.p1 tI (.pair tRows .bool) (.vr 1))) <|
     .prim (.lidx 158 tInts) (.mk2 tRows tI (pjA (.pair tGrads tGrads) 1 (.vr 0)) (.p1 tI (.pair tRows .bool) (.vr 1))) <|
     .call 0 (.mk2 tInts tInts (.vr 6) (.vr 7)) <|
     .prim (.lit 158 tInts 1) (.p1 tInts .bool (.vr 8)) <|
     .prim (.lapp 158 tInts 24) (.mk2 tRows tRows (pjA (.pair tI (.pair tRows .bool)) 1 (.vr 1)) (.vr 9)) <|
     .ite (prA (.pair tI (.pair tRows .bool)) 2 (.vr 1)) (
      .prim (.ar .add .i64) (.mk2 tI tI (.p1 tI (.pair tRows .bool) (.vr 1)) (.ci .i64 1)) <|
      .again 0 (mkA (.pair tI (.pair tRows .bool)) [(.vr 11),(.vr 10),(.cb true)])) (
      .prim (.ar .add .i64) (.mk2 tI tI (.p1 tI (.pair tRows .bool) (.vr 1)) (.ci .i64 1)) <|
      .again 0 (mkA (.pair tI (.pair tRows .bool)) [(.vr 11),(.vr 10),(prA (.pair tInts .bool) 1 (.vr 8))]))) (
     .call 1 (.mk2 tI tI (pjA tGrads 1 (.p1 tGrads tGrads (.vr 0))) (pjA (.pair tGrads tGrads) 2 (.vr 0))) <|
     .ite (prA (.pair tI (.pair tRows .bool)) 2 (.vr 1)) (
      .ret (mkA tGrads [(pjA (.pair tI (.pair tRows .bool)) 1 (.vr 1)),(.p1 tI .bool (.vr 6)),(.cb true)])) (
      .ret (.mk2 tRows (.pair tI .bool) (pjA (.pair tI (.pair tRows .bool)) 1 (.vr 1)) (.vr 6))))) (
    .call 1 (.mk2 tI tI (pjA tGrads 1 (.p1 tGrads tGrads (.vr 0))) (pjA (.pair tGrads tGrads) 2 (.vr 0))) <|
    .ite (prA (.pair tI (.pair tRows .bool)) 2 (.vr 1)) (
     .ret (mkA tGrads [(pjA (.pair tI (.pair tRows .bool)) 1 (.vr 1)),(.p1 tI .bool (.vr 4)),(.cb true)])) (
     .ret (.mk2 tRows (.pair tI .bool) (pjA (.pair tI (.pair tRows .bool)) 1 (.vr 1)) (.vr 4)))))
end Go.Proofs.YtepjkojfjdcegaaGreat
