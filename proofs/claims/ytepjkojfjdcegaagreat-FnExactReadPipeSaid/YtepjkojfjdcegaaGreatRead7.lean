/- Read7: trees, and what they say. -/
import Derived.Test.YtepjkojfjdcegaaGreatRead6
namespace Go.Proofs.YtepjkojfjdcegaaGreat
open Go.ChangeShapes Go.WideShapes Go.ChangeAt Go.RowKit Go.Deep
set_option linter.unusedVariables false
set_option linter.unusedSimpArgs false
def PB (s:ByteArray) (p:Int):Prop:=-1≤p∧p≤s.size
def GdQ {α:Type} (s:ByteArray) (f:Int→α × Int):Prop:=∀ p,PB s p→PB s (f p).2∧(0≤(f p).2→0≤p∧p≤(f p).2)
def ofP (s:ByteArray) (n p:Int):List Int × Int:=if (vecP s p).2 < 0∨¬ ((vecP s p).1.length:Int) = n then (List.replicate n.toNat 0,-1) else vecP s p
def loopP {α:Type} (f:Int→α × Int):Nat→Int→List α × Int
 | 0,p=>([],p)
 | k + 1,p=>if p < 0 then ([],p) else ((f p).1 :: (loopP f k (f p).2).1,(loopP f k (f p).2).2)
def readRowsP (s:ByteArray) (p:Int):RowsD × Int:=loopP (vecP s) (min (numP s p).1.toNat 100) (numP s p).2
def insQ (s:ByteArray) (p:Int):InsD × Int:=(((ofP s 2 p).1.getD 0 0,(ofP s 2 p).1.getD 1 0),(ofP s 2 p).2)
def opQ (s:ByteArray) (p:Int):OpD × Int:=(((ofP s 3 p).1.getD 0 0,(ofP s 3 p).1.getD 1 0,(ofP s 3 p).1.getD 2 0,(vecP s (ofP s 3 p).2).1),(vecP s (ofP s 3 p).2).2)
def savQ (s:ByteArray) (p:Int):SavedD × Int:=(((ofP s 1 p).1.getD 0 0,(readRowsP s (ofP s 1 p).2).1),(readRowsP s (ofP s 1 p).2).2)
theorem numP_G (s:ByteArray):GdQ s (numP s):=fun p hp=>by
 unfold numP
 cases h:numAt s p with
 | none=>exact ⟨⟨by show (-1:Int)≤-1;omega,by show (-1:Int)≤s.size;omega⟩,fun h=>absurd (show (0:Int)≤-1 from h) (by decide)⟩
 | some n=>have:=numAt_some h;exact ⟨⟨by show -1≤p + 8;omega,by show p + 8≤(s.size:Int);omega⟩,fun _=>⟨by omega,by show p≤p + 8;omega⟩⟩
theorem vecP_G (s:ByteArray):GdQ s (vecP s):=fun p hp=>by
 unfold vecP
 cases h:vecO s p with
 | none=>exact ⟨⟨by decide,by show (-1:Int)≤s.size;omega⟩,fun h=>absurd h (by decide)⟩
 | some q=>have:=vecO_b h;exact ⟨⟨by show -1≤q.2;omega,by show q.2≤(s.size:Int);omega⟩,fun _=>⟨by omega,by show p≤q.2;omega⟩⟩
theorem ofP_G (s:ByteArray) (n:Int):GdQ s (ofP s n):=fun p hp=>by
 have h:=vecP_G s p hp
 unfold ofP
 split
 ·exact ⟨⟨by show (-1:Int)≤-1;omega,by show (-1:Int)≤s.size;omega⟩,fun h=>absurd (show (0:Int)≤-1 from h) (by decide)⟩
 ·exact h
theorem loopP_G {α:Type} {s:ByteArray} {f:Int→α × Int} (hf:GdQ s f):(k:Nat)→GdQ s (loopP f k)
 | 0=>fun p hp=>⟨hp,fun h=>⟨h,Int.le_refl _⟩⟩
 | k + 1=>fun p hp=>by
  unfold loopP
  split
  ·exact ⟨hp,fun h=>⟨h,Int.le_refl _⟩⟩
  ·have h1:=hf p hp
   have h2:=loopP_G hf k _ h1.1
   exact ⟨h2.1,fun h=>by have:=h2.2 h;have:=h1.2 (by omega);exact ⟨by omega,by show p≤(loopP f k (f p).2).2;omega⟩⟩
theorem readRowsP_G (s:ByteArray):GdQ s (readRowsP s):=fun p hp=>by
 have h1:=numP_G s p hp
 have h2:=loopP_G (vecP_G s) (min (numP s p).1.toNat 100) _ h1.1
 exact ⟨h2.1,fun h=>by have:=h2.2 h;have:=h1.2 (by omega);exact ⟨by omega,by show p≤(loopP (vecP s) _ _).2;omega⟩⟩
theorem GdQ_comp {α β:Type} {s:ByteArray} {f:Int→α × Int} {g:Int→β × Int} (hf:GdQ s f) (hg:GdQ s g) {p:Int} (hp:PB s p):PB s (g (f p).2).2∧(0≤(g (f p).2).2→0≤p∧p≤(g (f p).2).2):=by
 have h1:=hf p hp
 have h2:=hg _ h1.1
 exact ⟨h2.1,fun h=>by have:=h2.2 h;have:=h1.2 (by omega);exact ⟨by omega,by omega⟩⟩
theorem insQ_G (s:ByteArray):GdQ s (insQ s):=fun p hp=>ofP_G s 2 p hp
theorem opQ_G (s:ByteArray):GdQ s (opQ s):=fun p hp=>GdQ_comp (ofP_G s 3) (vecP_G s) hp
theorem savQ_G (s:ByteArray):GdQ s (savQ s):=fun p hp=>GdQ_comp (ofP_G s 1) (readRowsP_G s) hp
theorem ofP_len {s:ByteArray} {n p:Int} (h:0≤n):((ofP s n p).1.length:Int) = n:=by
 unfold ofP
 split
 ·rw [List.length_replicate];omega
 ·rename_i h2;omega
theorem loopP_bad {α:Type} (f:Int→α × Int) (k:Nat) {p:Int} (h:p < 0):loopP f k p = ([],p):=by
 cases k with
 | zero=>rfl
 | succ k=>unfold loopP;rw [if_pos h]
theorem loopP_go {α:Type} (f:Int→α × Int) (k:Nat) {p:Int} (h:0≤p):loopP f (k + 1) p = ((f p).1 :: (loopP f k (f p).2).1,(loopP f k (f p).2).2):=by
 rw [loopP,if_neg (by omega)]
def finQ (s:ByteArray) (h:List Int) (a:List InsD) (b:List OpD) (c:List SavedD) (p:Int):StageD × Int :=
 ((h.getD 0 0,a,b,decide (h.getD 1 0 = 1),decide (h.getD 2 0 = 1),c,(readRowsP s p).1,(vecP s (readRowsP s p).2).1,(vecP s (vecP s (readRowsP s p).2).2).1,(vecP s (vecP s (vecP s (readRowsP s p).2).2).2).1,(vecP s (vecP s (vecP s (vecP s (readRowsP s p).2).2).2).2).1,
  (readRowsP s (vecP s (vecP s (vecP s (vecP s (readRowsP s p).2).2).2).2).2).1,h.getD 3 0,decide (h.getD 4 0 = 1)),(readRowsP s (vecP s (vecP s (vecP s (vecP s (readRowsP s p).2).2).2).2).2).2)
def K3Q (s:ByteArray) (h:List Int) (a:List InsD) (b:List OpD) (acc:List SavedD) (q:List SavedD × Int):StageD × Int:=finQ s h a b (acc ++ q.1) q.2
def K2Q (s:ByteArray) (h:List Int) (a:List InsD) (acc:List OpD) (q:List OpD × Int):StageD × Int:=K3Q s h a (acc ++ q.1) [] (loopP (savQ s) (min (h.getD 7 0).toNat 5) q.2)
def K1Q (s:ByteArray) (h:List Int) (acc:List InsD) (q:List InsD × Int):StageD × Int:=K2Q s h (acc ++ q.1) [] (loopP (opQ s) (min (h.getD 6 0).toNat 8) q.2)
def stageQ0 (s:ByteArray) (p:Int):StageD × Int:=K1Q s (ofP s 8 p).1 [] (loopP (insQ s) (min ((ofP s 8 p).1.getD 5 0).toNat 100) (ofP s 8 p).2)
def zStage:StageD:=zeroD tStage
def stageQ (s:ByteArray) (p:Int):StageD × Int:=if (stageQ0 s p).2 < 0∨¬ stageS (stageQ0 s p).1 = s.extract p.toNat (stageQ0 s p).2.toNat then (zStage,-1) else stageQ0 s p
theorem stageQ_no {s:ByteArray} {p:Int} (h:(stageQ0 s p).2 < 0∨¬ stageS (stageQ0 s p).1 = s.extract p.toNat (stageQ0 s p).2.toNat):(zStage,(-1:Int)) = stageQ s p:=by unfold stageQ;rw [if_pos h]
theorem stageQ_yes {s:ByteArray} {p:Int} (h1:0≤(stageQ0 s p).2) (h2:stageS (stageQ0 s p).1 = s.extract p.toNat (stageQ0 s p).2.toNat):stageQ0 s p = stageQ s p:=by unfold stageQ;rw [if_neg (fun h=>h.elim (by omega) (fun h=>h h2))]
noncomputable def c_s_l21Of:Con:=⟨75,(.pair .str tIns),(.pair tInts tI),[.val ⟨false,.str,[]⟩,.val ⟨false,tI,[]⟩,.val ⟨false,tI,[]⟩],[⟨false,tInts,[2]⟩,⟨false,tI,[0]⟩],false,none,
 ((fun x=>PB x.1 x.2.1∧0≤x.2.2∧x.2.2≤100):((ByteArray) × InsD)→Prop),
 ((fun x=>ofP x.1 x.2.2 x.2.1):((ByteArray) × InsD)→(IntsD × Int))⟩
def t_s_l21Of:T :=
 .call 0 (.mk2 .str tI (.p1 .str tIns (.vr 0)) (pjA (.pair .str tIns) 1 (.vr 0))) <|
 .prim (.cmp .lss .i64) (.mk2 tI tI (prA (.pair tInts tI) 1 (.vr 1)) (.ci .i64 0)) <|
 .ite (.vr 2) (
  .prim (.rep 3 tI 8) (prA (.pair .str tIns) 2 (.vr 0)) <|
  .ret (.mk2 tInts tI (.vr 3) (.ci .i64 (-1)))) (
  .prim (.llen 3 tI) (.p1 tInts tI (.vr 1)) <|
  .prim (.cmp .neq .i64) (.mk2 tI tI (.vr 3) (prA (.pair .str tIns) 2 (.vr 0))) <|
  .ite (.vr 4) (
   .prim (.rep 3 tI 8) (prA (.pair .str tIns) 2 (.vr 0)) <|
   .ret (.mk2 tInts tI (.vr 5) (.ci .i64 (-1)))) (
   .ret (.vr 1)))
set_option maxRecDepth 100000 in
theorem e_s_l21Of:exFn Tryz.prog [c_s_l21Vec] c_s_l21Of false 3000 ⟨[],[]⟩ = .ok t_s_l21Of:=by kernel_rfl
theorem v_s_l21Of (x:(ByteArray) × InsD) (hx:okD (.pair .str tIns) x) (hp:(fun x=>PB x.1 x.2.1∧0≤x.2.2∧x.2.2≤100) x):t_s_l21Of.wp [c_s_l21Vec] [⟨(.pair .str tIns),x⟩] [] (fun v=>v.as (.pair tInts tI) = (fun x=>ofP x.1 x.2.2 x.2.1) x):=by
 obtain ⟨s,p,n⟩:=x
 obtain ⟨h1,h2,h3⟩:PB s p∧0≤n∧n≤100:=hp
 delta t_s_l21Of c_s_l21Vec;refine vcx ?_;try with_reducible exact True.intro
 (refine dcx ?_;try with_reducible exact True.intro)
 refine ⟨h1,fun _=>⟨fun h=>?_,fun h _=>⟨fun h4=>?_,fun h4=>?_⟩⟩⟩
 ·(repeat' first | intro _ | (with_reducible apply And.intro))
  all_goals first | omega | skip
  unfold ofP;rw [if_pos (.inl h)];rfl
 ·(repeat' first | intro _ | (with_reducible apply And.intro))
  all_goals first | omega | skip
  unfold ofP;rw [if_pos (.inr h4)];rfl
 ·unfold ofP;rw [if_neg (fun hh=>hh.elim (by omega) (fun hh=>hh h4))]
theorem h_s_l21Of:Con.Holds Tryz.prog c_s_l21Of:=tree_ok mixedP (consAt h_s_l21Vec consNil) e_s_l21Of fun x hx hp=>v_s_l21Of x hx hp
noncomputable def c_s_l21ReadRows:Con:=⟨133,(.pair .str tI),(.pair tRows tI),[.val ⟨false,.str,[]⟩,.val ⟨false,tI,[]⟩],[⟨false,tRows,[2]⟩,⟨false,tI,[0]⟩],false,none,
 ((fun x=>PB x.1 x.2):((ByteArray) × Int)→Prop),
 ((fun x=>readRowsP x.1 x.2):((ByteArray) × Int)→(RowsD × Int))⟩
def t_s_l21ReadRows:T :=
 .call 0 (.vr 0) <|
 .loop (.pair tI tSaved) (mkA (.pair tI tSaved) [(.ci .i64 0),(prA tIns 1 (.vr 1)),(.nl 158 tInts)]) <|
  .prim (.cmp .lss .i64) (.mk2 tI tI (.p1 tI tSaved (.vr 2)) (.p1 tI tI (.vr 1))) <|
  .ite (.vr 3) (
   .prim (.cmp .lss .i64) (.mk2 tI tI (.p1 tI tSaved (.vr 2)) (.ci .i64 100)) <|
   .ite (.vr 4) (
    .prim (.cmp .geq .i64) (.mk2 tI tI (pjA (.pair tI tSaved) 1 (.vr 2)) (.ci .i64 0)) <|
    .ite (.vr 5) (
     .call 1 (.mk2 .str tI (.p1 .str tI (.vr 0)) (pjA (.pair tI tSaved) 1 (.vr 2))) <|
     .prim (.lit 158 tInts 1) (.p1 tInts tI (.vr 6)) <|
     .prim (.lapp 158 tInts 24) (.mk2 tRows tRows (prA (.pair tI tSaved) 2 (.vr 2)) (.vr 7)) <|
     .prim (.ar .add .i64) (.mk2 tI tI (.p1 tI tSaved (.vr 2)) (.ci .i64 1)) <|
     .again 0 (mkA (.pair tI tSaved) [(.vr 9),(prA (.pair tInts tI) 1 (.vr 6)),(.vr 8)])) (
     .ret (.mk2 tRows tI (prA (.pair tI tSaved) 2 (.vr 2)) (pjA (.pair tI tSaved) 1 (.vr 2))))) (
    .ret (.mk2 tRows tI (prA (.pair tI tSaved) 2 (.vr 2)) (pjA (.pair tI tSaved) 1 (.vr 2))))) (
   .ret (.mk2 tRows tI (prA (.pair tI tSaved) 2 (.vr 2)) (pjA (.pair tI tSaved) 1 (.vr 2))))
set_option maxRecDepth 100000 in
theorem e_s_l21ReadRows:exFn Tryz.prog [c_s_l21Num,c_s_l21Vec] c_s_l21ReadRows false 3000 ⟨[(2989,1002,drd 18 16 ++ [.dr 12] ++ drd 15 13 ++ [.dr 1,.tm 9 0,.on 8,.tm 7 0,.sl 1])],[(2978,15007,[],[2])]⟩ = .ok t_s_l21ReadRows:=by kernel_rfl
theorem v_s_l21ReadRows (x:(ByteArray) × Int) (hx:okD (.pair .str tI) x) (hp:(fun x=>PB x.1 x.2) x):t_s_l21ReadRows.wp [c_s_l21Num,c_s_l21Vec] [⟨(.pair .str tI),x⟩] [] (fun v=>v.as (.pair tRows tI) = (fun x=>readRowsP x.1 x.2) x):=by
 obtain ⟨s,p⟩:=x
 have hp:PB s p:=hp
 delta t_s_l21ReadRows c_s_l21Num c_s_l21Vec;refine vcx ?_;try with_reducible exact True.intro
 have g1:=numP_G s p hp
 refine ⟨hp,fun _=>?_⟩
 have hv0:readRowsP s p = loopP (vecP s) (min (numP s p).1.toNat 100) (numP s p).2:=rfl
 generalize (numP s p).1 = n at *
 generalize (numP s p).2 = p0 at *
 refine ⟨fun t=>∃ k:Nat,t.1 = (k:Int)∧(t.2.2:RowsD).length = k∧k≤min n.toNat 100∧PB s t.2.1∧readRowsP s p = (t.2.2 ++ (loopP (vecP s) (min n.toNat 100 - k) t.2.1).1,(loopP (vecP s) (min n.toNat 100 - k) t.2.1).2),fun t=>(100 - (t.1:Int)).toNat,⟨0,rfl,rfl,by omega,g1.1,hv0⟩,fun t _ hI=>?_⟩
 obtain ⟨i,pos,acc⟩:Int × (Int × RowsD):=t
 obtain ⟨k,rfl,hl,hk,hP,hv⟩:=hI
 dsimp only at hl hk hP hv ⊢
 have hPa:-1≤pos:=hP.1
 have hPb:pos≤(s.size:Int):=hP.2
 (refine dcx ?_;try with_reducible exact True.intro)
 have ex:n.toNat≤k∨100≤k∨pos < 0→(acc,pos) = readRowsP s p:=fun h=>by
  rw [hv]
  by_cases h0:pos < 0
  ·rw [loopP_bad _ _ h0];simp
  ·rw [show min n.toNat 100 - k = 0 by omega];simp [loopP]
 refine ⟨fun h1=>⟨fun h2=>⟨fun h3=>?_,fun h3=>ex (.inr (.inr h3))⟩,fun h2=>ex (.inr (.inl (by omega)))⟩,fun h1=>ex (.inl (by omega))⟩
 obtain ⟨m,hm⟩:∃ m,min n.toNat 100 - k = m + 1:=⟨min n.toNat 100 - k - 1,by omega⟩
 rw [hm,loopP_go _ m h3] at hv
 have g2:=vecP_G s pos hP
 (repeat' first | intro _ | (with_reducible apply And.intro))
 all_goals first | omega | exact hP | (unfold maxLen;omega) | skip
 refine ⟨k + 1,rfl,by (first | omega | (simp only [List.length_append,List.length_cons,List.length_nil];omega)),by omega,g2.1,?_⟩
 rw [show min n.toNat 100 - (k + 1) = m by omega,hv]
 simp
theorem h_s_l21ReadRows:Con.Holds Tryz.prog c_s_l21ReadRows:=tree_ok mixedP (consAt h_s_l21Num (consAt h_s_l21Vec consNil)) e_s_l21ReadRows fun x hx hp=>v_s_l21ReadRows x hx hp
end Go.Proofs.YtepjkojfjdcegaaGreat
