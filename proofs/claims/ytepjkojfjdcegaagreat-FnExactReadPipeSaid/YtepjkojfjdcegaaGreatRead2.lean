/- Read2: trees, and what they say. -/
import Derived.Test.YtepjkojfjdcegaaGreatVec2
namespace Go.Proofs.YtepjkojfjdcegaaGreat
open Go.ChangeShapes Go.WideShapes Go.ChangeAt Go.RowKit Go.Deep
set_option linter.unusedVariables false
set_option linter.unusedSimpArgs false
def numAt (s:ByteArray) (p:Int):Option Int :=
 if 0≤p∧p + 8≤s.size then
  if byteOf s p = 43 then some (rdN (s.extract (p + 1).toNat s.size) 7)
  else if byteOf s p = 45∧rdN (s.extract (p + 1).toNat s.size) 7 ≠ 0 then some (-(rdN (s.extract (p + 1).toNat s.size) 7))
  else none
 else none
theorem numAt_none {s:ByteArray} {p:Int} (h:¬ (0≤p∧p + 8≤s.size)):numAt s p = none:=by unfold numAt;rw [if_neg h]
theorem numAt_some {s:ByteArray} {p n:Int} (h:numAt s p = some n):0≤p∧p + 8≤s.size:=by
 unfold numAt at h
 split at h
 ·assumption
 ·cases h
abbrev RdD:=ByteArray × (Int × Bool)
def numR (r:RdD) (lo hi:Int):Int × RdD :=
 match (if r.2.2 = true then none else numAt r.1 r.2.1) with
 | some n=>if lo≤n∧n≤hi then (n,(r.1,r.2.1 + 8,false)) else (0,(r.1,r.2.1,true))
 | none=>(0,(r.1,r.2.1,true))
def numsR:Nat→RdD→List Int × RdD
 | 0,r=>([],r)
 | k + 1,r=>if r.2.2 = true then ([],r) else ((numR r (-1000000000000) 1000000000000).1 :: (numsR k (numR r (-1000000000000) 1000000000000).2).1,(numsR k (numR r (-1000000000000) 1000000000000).2).2)
def vecR (r:RdD):List Int × RdD:=numsR (numR r 0 200).1.toNat (numR r 0 200).2
def RdP (r:RdD):Prop:=0≤r.2.1∧r.2.1≤r.1.size
theorem numR_P {r:RdD} (h:RdP r) (lo hi:Int):RdP (numR r lo hi).2∧(numR r lo hi).2.1 = r.1:=by
 unfold numR
 split
 ·rename_i n hn
  split at hn
  ·cases hn
  ·have:=numAt_some hn
   split
   ·exact ⟨⟨by show 0≤r.2.1 + 8;omega,by show r.2.1 + 8≤(r.1.size:Int);omega⟩,rfl⟩
   ·exact ⟨h,rfl⟩
 ·exact ⟨h,rfl⟩
theorem numR_b (r:RdD) (lo hi:Int):(numR r lo hi).1 = 0∨(lo≤(numR r lo hi).1∧(numR r lo hi).1≤hi):=by
 unfold numR
 split
 ·split
  ·right;assumption
  ·left;rfl
 ·left;rfl
def numP (s:ByteArray) (p:Int):Int × Int:=match numAt s p with
 | some n=>(n,p + 8)
 | none=>(0,-1)
def numsP (s:ByteArray):Nat→Int→Option (List Int × Int)
 | 0,p=>some ([],p)
 | k + 1,p=>match numAt s p with
  | some n=>if small n = true then (numsP s k (p + 8)).map fun q=>(n :: q.1,q.2) else none
  | none=>none
def vecO (s:ByteArray) (p:Int):Option (List Int × Int):=match numAt s p with
 | some n=>if 0≤n∧n≤200 then numsP s n.toNat (p + 8) else none
 | none=>none
def vecP (s:ByteArray) (p:Int):List Int × Int:=(vecO s p).getD ([],-1)
def readV (s:ByteArray):List Int × (Int × Bool):=match vecO s 0 with
 | some q=>(q.1,q.2,true)
 | none=>([],0,false)
theorem ext_size (s:ByteArray) (a:Nat) (h:a≤s.size):(s.extract a s.size).size = s.size - a:=by rw [ByteArray.size_extract];omega
theorem rdFix_at {s:ByteArray} {p:Int} (h0:0≤p) (h:p + 8≤s.size):rdFix (s.extract (p + 1).toNat s.size) = (rdN (s.extract (p + 1).toNat s.size) 7,true):=by
 unfold rdFix
 rw [if_pos]
 rw [ext_size _ _ (by omega)]
 omega
theorem numAt_1 {s:ByteArray} {p:Int} (h0:0≤p) (h:p + 8≤s.size) (hc:byteOf s p = 43):numAt s p = some (rdN (s.extract (p + 1).toNat s.size) 7):=by unfold numAt;rw [if_pos ⟨h0,h⟩,if_pos hc]
theorem numAt_2 {s:ByteArray} {p:Int} (h0:0≤p) (h:p + 8≤s.size) (hc:byteOf s p = 45) (hn:rdN (s.extract (p + 1).toNat s.size) 7 ≠ 0):numAt s p = some (-(rdN (s.extract (p + 1).toNat s.size) 7)):=by unfold numAt;rw [if_pos ⟨h0,h⟩,if_neg (by omega),if_pos ⟨hc,hn⟩]
theorem numAt_3 {s:ByteArray} {p:Int} (h:¬ (0≤p∧p + 8≤s.size)∨(byteOf s p ≠ 43∧(byteOf s p ≠ 45∨rdN (s.extract (p + 1).toNat s.size) 7 = 0))):numAt s p = none:=by
 unfold numAt
 split
 ·rw [if_neg (by omega),if_neg (by omega)]
 ·rfl
theorem numR_0 {s:ByteArray} {p lo hi:Int} (h:numAt s p = none):(0,s,p,true) = numR (s,p,false) lo hi:=by
 unfold numR
 rw [if_neg (by simp)]
 simp only [h]
theorem numR_1 {s:ByteArray} {p lo hi n:Int} (h:numAt s p = some n) (hn:n < lo∨hi < n):(0,s,p,true) = numR (s,p,false) lo hi:=by
 unfold numR
 rw [if_neg (by simp)]
 simp only [h]
 rw [if_neg (by omega)]
theorem numR_2 {s:ByteArray} {p lo hi n:Int} (h:numAt s p = some n) (h1:lo≤n) (h2:n≤hi):(n,s,p + 8,false) = numR (s,p,false) lo hi:=by
 unfold numR
 rw [if_neg (by simp)]
 simp only [h]
 rw [if_pos ⟨h1,h2⟩]
theorem numsR_bad (k:Nat) {r:RdD} (h:r.2.2 = true):numsR k r = ([],r):=by
 cases k with
 | zero=>rfl
 | succ k=>unfold numsR;rw [if_pos h]
theorem numsR_go (k:Nat) {r:RdD} (h:r.2.2 = false):numsR (k + 1) r = ((numR r (-1000000000000) 1000000000000).1 :: (numsR k (numR r (-1000000000000) 1000000000000).2).1,(numsR k (numR r (-1000000000000) 1000000000000).2).2):=by
 rw [numsR,if_neg (by rw [h];simp)]
theorem numsR_P:(k:Nat)→{r:RdD}→RdP r→RdP (numsR k r).2∧(numsR k r).2.1 = r.1
 | 0,r,h=>⟨h,rfl⟩
 | k + 1,r,h=>by
  cases hb:r.2.2 with
  | true=>rw [numsR_bad _ hb];exact ⟨h,rfl⟩
  | false =>
   rw [numsR_go _ hb]
   have h1:=numR_P h (-1000000000000) 1000000000000
   have h2:=numsR_P k h1.1
   exact ⟨h2.1,h2.2.trans h1.2⟩
theorem vecR_P {r:RdD} (h:RdP r):RdP (vecR r).2∧(vecR r).2.1 = r.1:=by
 have h1:=numR_P h 0 200
 have h2:=numsR_P (numR r 0 200).1.toNat h1.1
 exact ⟨h2.1,h2.2.trans h1.2⟩
theorem numsR_P2 (s:ByteArray):(k:Nat)→(p:Int)→match numsP s k p with
  | some q=>numsR k (s,p,false) = (q.1,s,q.2,false)
  | none=>(numsR k (s,p,false)).2.2.2 = true
 | 0,p=>rfl
 | k + 1,p=>by
  rw [numsR_go k (r:=(s,p,false)) rfl,numsP]
  cases hn:numAt s p with
  | none =>
   rw [← numR_0 hn]
   show (numsR k (s,p,true)).2.2.2 = true
   rw [numsR_bad _ rfl]
  | some n =>
   dsimp only
   by_cases hs:small n = true
   ·rw [if_pos hs]
    have h2:=(small_iff n).1 hs
    rw [← numR_2 hn h2.1 h2.2]
    have ih:=numsR_P2 s k (p + 8)
    cases hq:numsP s k (p + 8) with
    | none=>rw [hq] at ih;exact ih
    | some q=>rw [hq] at ih;dsimp only [Option.map] at ih ⊢;rw [ih]
   ·rw [if_neg hs]
    rw [small_iff] at hs
    rw [← numR_1 hn (by omega)]
    show (numsR k (s,p,true)).2.2.2 = true
    rw [numsR_bad _ rfl]
theorem vecR_vecO (s:ByteArray) (p:Int):match vecO s p with
  | some q=>vecR (s,p,false) = (q.1,s,q.2,false)
  | none=>(vecR (s,p,false)).2.2.2 = true:=by
 unfold vecO vecR
 cases hn:numAt s p with
 | none =>
  rw [← numR_0 hn]
  show (numsR _ (s,p,true)).2.2.2 = true
  rw [numsR_bad _ rfl]
 | some n =>
  dsimp only
  by_cases hs:0≤n∧n≤200
  ·rw [if_pos hs,← numR_2 hn hs.1 hs.2]
   exact numsR_P2 s _ _
  ·rw [if_neg hs,← numR_1 hn (by omega)]
   show (numsR _ (s,p,true)).2.2.2 = true
   rw [numsR_bad _ rfl]
theorem numsP_b (s:ByteArray):(k:Nat)→(p:Int)→0≤p→p≤s.size→∀ q,numsP s k p = some q→q.1.length = k∧p≤q.2∧q.2≤s.size
 | 0,p,h0,h1,q,h=>by
  unfold numsP at h
  cases h
  exact ⟨rfl,Int.le_refl _,h1⟩
 | k + 1,p,h0,h1,q,h=>by
  rw [numsP] at h
  split at h
  ·rename_i n hn
   have hp:=numAt_some hn
   split at h
   ·rw [Option.map_eq_some_iff] at h
    obtain ⟨q',h2,rfl⟩:=h
    obtain ⟨i1,i2,i3⟩:=numsP_b s k (p + 8) (by omega) (by omega) q' h2
    exact ⟨by simp [i1],by show p≤q'.2;omega,i3⟩
   ·cases h
  ·cases h
theorem vecO_b {s:ByteArray} {p:Int} {q:List Int × Int} (h:vecO s p = some q):q.1.length≤200∧p≤q.2∧q.2≤s.size∧0≤p:=by
 unfold vecO at h
 split at h
 ·rename_i n hn
  have hp:=numAt_some hn
  split at h
  ·obtain ⟨h1,h2,h3⟩:=numsP_b s n.toNat (p + 8) (by omega) (by omega) q h
   exact ⟨by omega,by omega,h3,hp.1⟩
  ·cases h
 ·cases h
noncomputable def c_i_reader_number:Con:=⟨94,(.pair (.pair .str (.pair tI .bool)) tIns),(.pair tI (.pair .str (.pair tI .bool))),[.box 79 ⟨true,(.pair .str (.pair tI .bool)),[]⟩,.val ⟨false,tI,[]⟩,.val ⟨false,tI,[]⟩],[⟨false,tI,[0]⟩],false,none,
 ((fun x=>RdP x.1):(((ByteArray) × (Int × Bool)) × InsD)→Prop),
 ((fun x=>numR x.1 x.2.1 x.2.2):(((ByteArray) × (Int × Bool)) × InsD)→(Int × ((ByteArray) × (Int × Bool))))⟩
def t_i_reader_number:T :=
 .ite (prA (.pair .str (.pair tI .bool)) 2 (.p1 (.pair .str (.pair tI .bool)) tIns (.vr 0))) (
  .ret (mkA (.pair tI (.pair .str (.pair tI .bool))) [(.ci .i64 0),(.p1 .str (.pair tI .bool) (.p1 (.pair .str (.pair tI .bool)) tIns (.vr 0))),(pjA (.pair .str (.pair tI .bool)) 1 (.p1 (.pair .str (.pair tI .bool)) tIns (.vr 0))),(.cb true)])) (
  .prim .slen (.p1 .str (.pair tI .bool) (.p1 (.pair .str (.pair tI .bool)) tIns (.vr 0))) <|
  .prim (.ar .sub .i64) (.mk2 tI tI (.vr 1) (pjA (.pair .str (.pair tI .bool)) 1 (.p1 (.pair .str (.pair tI .bool)) tIns (.vr 0)))) <|
  .prim (.cmp .lss .i64) (.mk2 tI tI (.vr 2) (.ci .i64 8)) <|
  .ite (.vr 3) (
   .ret (mkA (.pair tI (.pair .str (.pair tI .bool))) [(.ci .i64 0),(.p1 .str (.pair tI .bool) (.p1 (.pair .str (.pair tI .bool)) tIns (.vr 0))),(pjA (.pair .str (.pair tI .bool)) 1 (.p1 (.pair .str (.pair tI .bool)) tIns (.vr 0))),(.cb true)])) (
   .prim .sidx (.mk2 .str tI (.p1 .str (.pair tI .bool) (.p1 (.pair .str (.pair tI .bool)) tIns (.vr 0))) (pjA (.pair .str (.pair tI .bool)) 1 (.p1 (.pair .str (.pair tI .bool)) tIns (.vr 0)))) <|
   .prim (.ar .add .i64) (.mk2 tI tI (pjA (.pair .str (.pair tI .bool)) 1 (.p1 (.pair .str (.pair tI .bool)) tIns (.vr 0))) (.ci .i64 1)) <|
   .prim .slen (.p1 .str (.pair tI .bool) (.p1 (.pair .str (.pair tI .bool)) tIns (.vr 0))) <|
   .prim .ssub (mkA (.pair .str tIns) [(.p1 .str (.pair tI .bool) (.p1 (.pair .str (.pair tI .bool)) tIns (.vr 0))),(.vr 5),(.vr 6)]) <|
   .call 0 (.mk2 .str tI (.vr 7) (.ci .i64 7)) <|
   .prim (.cmp .eql .u8) (.mk2 (.int .u8) (.int .u8) (.vr 4) (.ci .u8 45)) <|
   .ite (.vr 9) (
    .prim (.neg .i64) (.p1 tI .bool (.vr 8)) <|
    .prim (.cmp .neq .u8) (.mk2 (.int .u8) (.int .u8) (.vr 4) (.ci .u8 43)) <|
    .ite (.vr 11) (
     .prim (.cmp .neq .u8) (.mk2 (.int .u8) (.int .u8) (.vr 4) (.ci .u8 45)) <|
     .ite (.vr 12) (
      .ret (mkA (.pair tI (.pair .str (.pair tI .bool))) [(.ci .i64 0),(.p1 .str (.pair tI .bool) (.p1 (.pair .str (.pair tI .bool)) tIns (.vr 0))),(pjA (.pair .str (.pair tI .bool)) 1 (.p1 (.pair .str (.pair tI .bool)) tIns (.vr 0))),(.cb true)])) (
      .prim (.cmp .eql .i64) (.mk2 tI tI (.vr 10) (.ci .i64 0)) <|
      .ite (.vr 13) (
       .ret (mkA (.pair tI (.pair .str (.pair tI .bool))) [(.ci .i64 0),(.p1 .str (.pair tI .bool) (.p1 (.pair .str (.pair tI .bool)) tIns (.vr 0))),(pjA (.pair .str (.pair tI .bool)) 1 (.p1 (.pair .str (.pair tI .bool)) tIns (.vr 0))),(.cb true)])) (
       .prim (.cmp .lss .i64) (.mk2 tI tI (.vr 10) (pjA (.pair (.pair .str (.pair tI .bool)) tIns) 1 (.vr 0))) <|
       .ite (.vr 14) (
        .ret (mkA (.pair tI (.pair .str (.pair tI .bool))) [(.ci .i64 0),(.p1 .str (.pair tI .bool) (.p1 (.pair .str (.pair tI .bool)) tIns (.vr 0))),(pjA (.pair .str (.pair tI .bool)) 1 (.p1 (.pair .str (.pair tI .bool)) tIns (.vr 0))),(.cb true)])) (
        .prim (.cmp .gtr .i64) (.mk2 tI tI (.vr 10) (prA (.pair (.pair .str (.pair tI .bool)) tIns) 2 (.vr 0))) <|
        .ite (.vr 15) (
         .ret (mkA (.pair tI (.pair .str (.pair tI .bool))) [(.ci .i64 0),(.p1 .str (.pair tI .bool) (.p1 (.pair .str (.pair tI .bool)) tIns (.vr 0))),(pjA (.pair .str (.pair tI .bool)) 1 (.p1 (.pair .str (.pair tI .bool)) tIns (.vr 0))),(.cb true)])) (
         .prim (.ar .add .i64) (.mk2 tI tI (pjA (.pair .str (.pair tI .bool)) 1 (.p1 (.pair .str (.pair tI .bool)) tIns (.vr 0))) (.ci .i64 8)) <|
         .ret (mkA (.pair tI (.pair .str (.pair tI .bool))) [(.vr 10),(.p1 .str (.pair tI .bool) (.p1 (.pair .str (.pair tI .bool)) tIns (.vr 0))),(.vr 16),(prA (.pair .str (.pair tI .bool)) 2 (.p1 (.pair .str (.pair tI .bool)) tIns (.vr 0)))])))))) (
     .prim (.cmp .lss .i64) (.mk2 tI tI (.vr 10) (pjA (.pair (.pair .str (.pair tI .bool)) tIns) 1 (.vr 0))) <|
     .ite (.vr 12) (
      .ret (mkA (.pair tI (.pair .str (.pair tI .bool))) [(.ci .i64 0),(.p1 .str (.pair tI .bool) (.p1 (.pair .str (.pair tI .bool)) tIns (.vr 0))),(pjA (.pair .str (.pair tI .bool)) 1 (.p1 (.pair .str (.pair tI .bool)) tIns (.vr 0))),(.cb true)])) (
      .prim (.cmp .gtr .i64) (.mk2 tI tI (.vr 10) (prA (.pair (.pair .str (.pair tI .bool)) tIns) 2 (.vr 0))) <|
      .ite (.vr 13) (
       .ret (mkA (.pair tI (.pair .str (.pair tI .bool))) [(.ci .i64 0),(.p1 .str (.pair tI .bool) (.p1 (.pair .str (.pair tI .bool)) tIns (.vr 0))),(pjA (.pair .str (.pair tI .bool)) 1 (.p1 (.pair .str (.pair tI .bool)) tIns (.vr 0))),(.cb true)])) (
       .prim (.ar .add .i64) (.mk2 tI tI (pjA (.pair .str (.pair tI .bool)) 1 (.p1 (.pair .str (.pair tI .bool)) tIns (.vr 0))) (.ci .i64 8)) <|
       .ret (mkA (.pair tI (.pair .str (.pair tI .bool))) [(.vr 10),(.p1 .str (.pair tI .bool) (.p1 (.pair .str (.pair tI .bool)) tIns (.vr 0))),(.vr 14),(prA (.pair .str (.pair tI .bool)) 2 (.p1 (.pair .str (.pair tI .bool)) tIns (.vr 0)))]))))) (
    .prim (.cmp .neq .u8) (.mk2 (.int .u8) (.int .u8) (.vr 4) (.ci .u8 43)) <|
    .ite (.vr 10) (
     .prim (.cmp .neq .u8) (.mk2 (.int .u8) (.int .u8) (.vr 4) (.ci .u8 45)) <|
     .ite (.vr 11) (
      .ret (mkA (.pair tI (.pair .str (.pair tI .bool))) [(.ci .i64 0),(.p1 .str (.pair tI .bool) (.p1 (.pair .str (.pair tI .bool)) tIns (.vr 0))),(pjA (.pair .str (.pair tI .bool)) 1 (.p1 (.pair .str (.pair tI .bool)) tIns (.vr 0))),(.cb true)])) (
      .prim (.cmp .eql .i64) (.mk2 tI tI (.p1 tI .bool (.vr 8)) (.ci .i64 0)) <|
      .ite (.vr 12) (
       .ret (mkA (.pair tI (.pair .str (.pair tI .bool))) [(.ci .i64 0),(.p1 .str (.pair tI .bool) (.p1 (.pair .str (.pair tI .bool)) tIns (.vr 0))),(pjA (.pair .str (.pair tI .bool)) 1 (.p1 (.pair .str (.pair tI .bool)) tIns (.vr 0))),(.cb true)])) (
       .prim (.cmp .lss .i64) (.mk2 tI tI (.p1 tI .bool (.vr 8)) (pjA (.pair (.pair .str (.pair tI .bool)) tIns) 1 (.vr 0))) <|
       .ite (.vr 13) (
        .ret (mkA (.pair tI (.pair .str (.pair tI .bool))) [(.ci .i64 0),(.p1 .str (.pair tI .bool) (.p1 (.pair .str (.pair tI .bool)) tIns (.vr 0))),(pjA (.pair .str (.pair tI .bool)) 1 (.p1 (.pair .str (.pair tI .bool)) tIns (.vr 0))),(.cb true)])) (
        .prim (.cmp .gtr .i64) (.mk2 tI tI (.p1 tI .bool (.vr 8)) (prA (.pair (.pair .str (.pair tI .bool)) tIns) 2 (.vr 0))) <|
        .ite (.vr 14) (
         .ret (mkA (.pair tI (.pair .str (.pair tI .bool))) [(.ci .i64 0),(.p1 .str (.pair tI .bool) (.p1 (.pair .str (.pair tI .bool)) tIns (.vr 0))),(pjA (.pair .str (.pair tI .bool)) 1 (.p1 (.pair .str (.pair tI .bool)) tIns (.vr 0))),(.cb true)])) (
         .prim (.ar .add .i64) (.mk2 tI tI (pjA (.pair .str (.pair tI .bool)) 1 (.p1 (.pair .str (.pair tI .bool)) tIns (.vr 0))) (.ci .i64 8)) <|
         .ret (mkA (.pair tI (.pair .str (.pair tI .bool))) [(.p1 tI .bool (.vr 8)),(.p1 .str (.pair tI .bool) (.p1 (.pair .str (.pair tI .bool)) tIns (.vr 0))),(.vr 15),(prA (.pair .str (.pair tI .bool)) 2 (.p1 (.pair .str (.pair tI .bool)) tIns (.vr 0)))])))))) (
     .prim (.cmp .lss .i64) (.mk2 tI tI (.p1 tI .bool (.vr 8)) (pjA (.pair (.pair .str (.pair tI .bool)) tIns) 1 (.vr 0))) <|
     .ite (.vr 11) (
      .ret (mkA (.pair tI (.pair .str (.pair tI .bool))) [(.ci .i64 0),(.p1 .str (.pair tI .bool) (.p1 (.pair .str (.pair tI .bool)) tIns (.vr 0))),(pjA (.pair .str (.pair tI .bool)) 1 (.p1 (.pair .str (.pair tI .bool)) tIns (.vr 0))),(.cb true)])) (
      .prim (.cmp .gtr .i64) (.mk2 tI tI (.p1 tI .bool (.vr 8)) (prA (.pair (.pair .str (.pair tI .bool)) tIns) 2 (.vr 0))) <|
      .ite (.vr 12) (
       .ret (mkA (.pair tI (.pair .str (.pair tI .bool))) [(.ci .i64 0),(.p1 .str (.pair tI .bool) (.p1 (.pair .str (.pair tI .bool)) tIns (.vr 0))),(pjA (.pair .str (.pair tI .bool)) 1 (.p1 (.pair .str (.pair tI .bool)) tIns (.vr 0))),(.cb true)])) (
       .prim (.ar .add .i64) (.mk2 tI tI (pjA (.pair .str (.pair tI .bool)) 1 (.p1 (.pair .str (.pair tI .bool)) tIns (.vr 0))) (.ci .i64 8)) <|
       .ret (mkA (.pair tI (.pair .str (.pair tI .bool))) [(.p1 tI .bool (.vr 8)),(.p1 .str (.pair tI .bool) (.p1 (.pair .str (.pair tI .bool)) tIns (.vr 0))),(.vr 13),(prA (.pair .str (.pair tI .bool)) 2 (.p1 (.pair .str (.pair tI .bool)) tIns (.vr 0)))])))))))
set_option maxRecDepth 100000 in
theorem e_i_reader_number:exFn Tryz.prog [c_i_ReadFixed] c_i_reader_number false 3000 ⟨[],[]⟩ = .ok t_i_reader_number:=by kernel_rfl
set_option maxHeartbeats 4000000 in
theorem v_i_reader_number (x:((ByteArray) × (Int × Bool)) × InsD) (hx:okD (.pair (.pair .str (.pair tI .bool)) tIns) x) (hp:(fun x=>RdP x.1) x):t_i_reader_number.wp [c_i_ReadFixed] [⟨(.pair (.pair .str (.pair tI .bool)) tIns),x⟩] [] (fun v=>v.as (.pair tI (.pair .str (.pair tI .bool))) = (fun x=>numR x.1 x.2.1 x.2.2) x):=by
 obtain ⟨⟨s,p,b⟩,lo,hi⟩:=x
 obtain ⟨h1,h2⟩:0≤p∧p≤s.size:=hp
 have hs:s.size≤9223372036854775807:=by have:s.size≤maxLen:=hx.1.1;unfold maxLen at this;omega
 delta t_i_reader_number c_i_ReadFixed;refine vcx ?_;try with_reducible exact True.intro
 cases b with
 | true=>exact ⟨fun _=>by unfold numR;rw [if_pos rfl],fun h=>by cases h⟩
 | false =>
  by_cases hc:p + 8≤s.size
  ·have e:=rdFix_at h1 hc
   have a1:=numAt_1 h1 hc
   have a2:=numAt_2 h1 hc
   have a3:=numAt_3 (s:=s) (p:=p)
   have hb:=rdN_7 (s.extract (p + 1).toNat s.size) (show 7≤7 by decide)
   have e1:((s.size:Int)).toNat = s.size:=by omega
   have es:=ext_size s (p + 1).toNat (by omega)
   rw [e1,e]
   generalize rdN (s.extract (p + 1).toNat s.size) 7 = N at a1 a2 a3 hb ⊢
   (refine dcx ?_;try with_reducible exact True.intro)
   (repeat' first | intro _ | (with_reducible apply And.intro))
   all_goals first | omega | contradiction | exact numR_0 (a3 (by omega)) | exact numR_1 (a1 (by omega)) (by omega) | exact numR_1 (a2 (by omega) (by omega)) (by omega) | exact numR_2 (a1 (by omega)) (by omega) (by omega) | exact numR_2 (a2 (by omega) (by omega)) (by omega) (by omega)
  ·(refine dcx ?_;try with_reducible exact True.intro)
   have a3:numAt s p = none:=numAt_none (by omega)
   exact ⟨fun h=>(by cases h),fun _ _=>⟨by omega,fun _=>⟨fun _=>numR_0 a3,fun h=>(by omega)⟩⟩⟩
set_option maxHeartbeats 4000000 in
theorem h_i_reader_number:Con.Holds Tryz.prog c_i_reader_number:=tree_ok mixedP (consAt h_i_ReadFixed consNil) e_i_reader_number fun x hx hp=>v_i_reader_number x hx hp
noncomputable def c_i_reader_vec:Con:=⟨41,(.pair .str (.pair tI .bool)),(.pair tInts (.pair .str (.pair tI .bool))),[.box 79 ⟨true,(.pair .str (.pair tI .bool)),[]⟩],[⟨false,tInts,[2]⟩],false,none,
 ((fun x=>RdP x):((ByteArray) × (Int × Bool))→Prop),
 ((fun x=>vecR x):((ByteArray) × (Int × Bool))→(IntsD × ((ByteArray) × (Int × Bool))))⟩
def t_i_reader_vec:T :=
 .call 0 (mkA (.pair (.pair .str (.pair tI .bool)) tIns) [(.vr 0),(.ci .i64 0),(.ci .i64 200)]) <|
 .loop (.pair tI (.pair .str (.pair tI (.pair .bool tInts)))) (mkA (.pair tI (.pair .str (.pair tI (.pair .bool tInts)))) [(.ci .i64 0),(pjA (.pair tI (.pair .str (.pair tI .bool))) 1 (.vr 1)),(pjA (.pair tI (.pair .str (.pair tI .bool))) 2 (.vr 1)),(prA (.pair tI (.pair .str (.pair tI .bool))) 3 (.vr 1)),(.nl 3 tI)]) <|
  .prim (.cmp .lss .i64) (.mk2 tI tI (.p1 tI (.pair .str (.pair tI (.pair .bool tInts))) (.vr 2)) (.p1 tI (.pair .str (.pair tI .bool)) (.vr 1))) <|
  .ite (.vr 3) (
   .prim .not (pjA (.pair tI (.pair .str (.pair tI (.pair .bool tInts)))) 3 (.vr 2)) <|
   .ite (.vr 4) (
    .call 0 (mkA (.pair (.pair .str (.pair tI .bool)) tIns) [(mkA (.pair .str (.pair tI .bool)) [(pjA (.pair tI (.pair .str (.pair tI (.pair .bool tInts)))) 1 (.vr 2)),(pjA (.pair tI (.pair .str (.pair tI (.pair .bool tInts)))) 2 (.vr 2)),(pjA (.pair tI (.pair .str (.pair tI (.pair .bool tInts)))) 3 (.vr 2))]),(.ci .i64 (-1000000000000)),(.ci .i64 1000000000000)]) <|
    .prim (.lit 3 tI 1) (.p1 tI (.pair .str (.pair tI .bool)) (.vr 5)) <|
    .prim (.lapp 3 tI 8) (.mk2 tInts tInts (prA (.pair tI (.pair .str (.pair tI (.pair .bool tInts)))) 4 (.vr 2)) (.vr 6)) <|
    .prim (.ar .add .i64) (.mk2 tI tI (.p1 tI (.pair .str (.pair tI (.pair .bool tInts))) (.vr 2)) (.ci .i64 1)) <|
    .again 0 (mkA (.pair tI (.pair .str (.pair tI (.pair .bool tInts)))) [(.vr 8),(pjA (.pair tI (.pair .str (.pair tI .bool))) 1 (.vr 5)),(pjA (.pair tI (.pair .str (.pair tI .bool))) 2 (.vr 5)),(prA (.pair tI (.pair .str (.pair tI .bool))) 3 (.vr 5)),(.vr 7)])) (
    .ret (mkA (.pair tInts (.pair .str (.pair tI .bool))) [(prA (.pair tI (.pair .str (.pair tI (.pair .bool tInts)))) 4 (.vr 2)),(pjA (.pair tI (.pair .str (.pair tI (.pair .bool tInts)))) 1 (.vr 2)),(pjA (.pair tI (.pair .str (.pair tI (.pair .bool tInts)))) 2 (.vr 2)),(pjA (.pair tI (.pair .str (.pair tI (.pair .bool tInts)))) 3 (.vr 2))]))) (
   .ret (mkA (.pair tInts (.pair .str (.pair tI .bool))) [(prA (.pair tI (.pair .str (.pair tI (.pair .bool tInts)))) 4 (.vr 2)),(pjA (.pair tI (.pair .str (.pair tI (.pair .bool tInts)))) 1 (.vr 2)),(pjA (.pair tI (.pair .str (.pair tI (.pair .bool tInts)))) 2 (.vr 2)),(pjA (.pair tI (.pair .str (.pair tI (.pair .bool tInts)))) 3 (.vr 2))]))
set_option maxRecDepth 100000 in
theorem e_i_reader_vec:exFn Tryz.prog [c_i_reader_number] c_i_reader_vec false 3000 ⟨[(2989,1002,drd 8 6 ++ [.tm 5 0,.on 3,.bx 1 0,.bx 1 1,.bx 1 2,.sl 2])],[]⟩ = .ok t_i_reader_vec:=by kernel_rfl
theorem v_i_reader_vec (x:(ByteArray) × (Int × Bool)) (hx:okD (.pair .str (.pair tI .bool)) x) (hp:(fun x=>RdP x) x):t_i_reader_vec.wp [c_i_reader_number] [⟨(.pair .str (.pair tI .bool)),x⟩] [] (fun v=>v.as (.pair tInts (.pair .str (.pair tI .bool))) = (fun x=>vecR x) x):=by
 have hp:RdP x:=hp
 delta t_i_reader_vec c_i_reader_number;refine vcx ?_;try with_reducible exact True.intro
 have h1:=numR_P hp 0 200
 have hb:=numR_b x 0 200
 refine ⟨hp,fun _=>?_⟩
 refine ⟨fun t=>∃ k:Nat,t.1 = (k:Int)∧(k:Int)≤(numR x 0 200).1∧List.length t.2.2.2.2≤k∧RdP (t.2.1,t.2.2.1,t.2.2.2.1)∧vecR x = (t.2.2.2.2 ++ (numsR ((numR x 0 200).1.toNat - k) (t.2.1,t.2.2.1,t.2.2.2.1)).1,(numsR ((numR x 0 200).1.toNat - k) (t.2.1,t.2.2.1,t.2.2.2.1)).2),fun t=>((numR x 0 200).1 - t.1:Int).toNat,⟨0,rfl,by omega,Nat.le_refl _,h1.1,rfl⟩,fun t _ hI=>?_⟩
 obtain ⟨i,s,p,b,acc⟩:Int × (ByteArray × (Int × (Bool × List Int))):=t
 obtain ⟨k,rfl,hk,hl,hP,hv⟩:=hI
 dsimp only at hk hl hP hv ⊢
 generalize hn:(numR x 0 200).1 = n at hb hk hv ⊢
 constructor
 ·intro hlt
  rw [decide_eq_true_eq] at hlt
  constructor
  ·intro hb2
   obtain rfl:b = false:=by simpa using hb2
   have hP2:=numR_P hP (-1000000000000) 1000000000000
   obtain ⟨m,hm⟩:∃ m,n.toNat - k = m + 1:=⟨n.toNat - k - 1,by omega⟩
   rw [hm,numsR_go m rfl] at hv
   (refine dcx ?_;try with_reducible exact True.intro)
   (repeat' first | intro _ | (with_reducible apply And.intro))
   all_goals first | omega | exact hP | (unfold maxLen;omega) | skip
   refine ⟨k + 1,rfl,by omega,Nat.succ_le_succ hl,hP2.1,?_⟩
   rw [show n.toNat - (k + 1) = m by omega,hv]
   simp
  ·intro hb2
   obtain rfl:b = true:=by simpa using hb2
   rw [numsR_bad _ rfl] at hv
   rw [hv];simp
 ·intro hge
  rw [decide_eq_false_iff_not] at hge
  rw [show n.toNat - k = 0 by omega] at hv
  rw [hv];simp [numsR]
theorem h_i_reader_vec:Con.Holds Tryz.prog c_i_reader_vec:=tree_ok mixedP (consAt h_i_reader_number consNil) e_i_reader_vec fun x hx hp=>v_i_reader_vec x hx hp
noncomputable def c_i_ReadVec:Con:=⟨9,.str,(.pair tInts (.pair tI .bool)),[.val ⟨false,.str,[]⟩],[⟨false,tInts,[2]⟩,⟨false,tI,[0]⟩,⟨false,.bool,[0]⟩],false,none,
 ((fun _=>True):(ByteArray)→Prop),
 ((fun x=>readV x):(ByteArray)→(IntsD × (Int × Bool)))⟩
def t_i_ReadVec:T :=
 .call 0 (mkA (.pair .str (.pair tI .bool)) [(.vr 0),(.ci .i64 0),(.cb false)]) <|
 .ite (prA (.pair tInts (.pair .str (.pair tI .bool))) 3 (.vr 1)) (
  .ret (mkA (.pair tInts (.pair tI .bool)) [(.nl 3 tI),(.ci .i64 0),(.cb false)])) (
  .ret (mkA (.pair tInts (.pair tI .bool)) [(.p1 tInts (.pair .str (.pair tI .bool)) (.vr 1)),(pjA (.pair tInts (.pair .str (.pair tI .bool))) 2 (.vr 1)),(.cb true)]))
noncomputable def c_s_l21Num:Con:=⟨132,(.pair .str tI),tIns,[.val ⟨false,.str,[]⟩,.val ⟨false,tI,[]⟩],[⟨false,tI,[0]⟩,⟨false,tI,[0]⟩],false,none,
 ((fun x=>-1≤x.2∧x.2≤x.1.size):((ByteArray) × Int)→Prop),
 ((fun x=>numP x.1 x.2):((ByteArray) × Int)→(Int × Int))⟩
def t_s_l21Num:T :=
 .prim (.cmp .lss .i64) (.mk2 tI tI (prA (.pair .str tI) 1 (.vr 0)) (.ci .i64 0)) <|
 .ite (.vr 1) (
  .ret (.mk2 tI tI (.ci .i64 0) (.ci .i64 (-1)))) (
  .prim .slen (.p1 .str tI (.vr 0)) <|
  .prim (.ar .sub .i64) (.mk2 tI tI (.vr 2) (prA (.pair .str tI) 1 (.vr 0))) <|
  .prim (.cmp .lss .i64) (.mk2 tI tI (.vr 3) (.ci .i64 8)) <|
  .ite (.vr 4) (
   .ret (.mk2 tI tI (.ci .i64 0) (.ci .i64 (-1)))) (
   .prim .sidx (.mk2 .str tI (.p1 .str tI (.vr 0)) (prA (.pair .str tI) 1 (.vr 0))) <|
   .prim (.cmp .neq .u8) (.mk2 (.int .u8) (.int .u8) (.vr 5) (.ci .u8 43)) <|
   .ite (.vr 6) (
    .prim .sidx (.mk2 .str tI (.p1 .str tI (.vr 0)) (prA (.pair .str tI) 1 (.vr 0))) <|
    .prim (.cmp .neq .u8) (.mk2 (.int .u8) (.int .u8) (.vr 7) (.ci .u8 45)) <|
    .ite (.vr 8) (
     .ret (.mk2 tI tI (.ci .i64 0) (.ci .i64 (-1)))) (
     .prim (.ar .add .i64) (.mk2 tI tI (prA (.pair .str tI) 1 (.vr 0)) (.ci .i64 1)) <|
     .prim .slen (.p1 .str tI (.vr 0)) <|
     .prim .ssub (mkA (.pair .str tIns) [(.p1 .str tI (.vr 0)),(.vr 9),(.vr 10)]) <|
     .call 0 (.mk2 .str tI (.vr 11) (.ci .i64 7)) <|
     .prim .not (prA (.pair tI .bool) 1 (.vr 12)) <|
     .ite (.vr 13) (
      .ret (.mk2 tI tI (.ci .i64 0) (.ci .i64 (-1)))) (
      .prim .sidx (.mk2 .str tI (.p1 .str tI (.vr 0)) (prA (.pair .str tI) 1 (.vr 0))) <|
      .prim (.cmp .eql .u8) (.mk2 (.int .u8) (.int .u8) (.vr 14) (.ci .u8 45)) <|
      .ite (.vr 15) (
       .prim (.cmp .eql .i64) (.mk2 tI tI (.p1 tI .bool (.vr 12)) (.ci .i64 0)) <|
       .ite (.vr 16) (
        .ret (.mk2 tI tI (.ci .i64 0) (.ci .i64 (-1)))) (
        .prim .sidx (.mk2 .str tI (.p1 .str tI (.vr 0)) (prA (.pair .str tI) 1 (.vr 0))) <|
        .prim (.cmp .eql .u8) (.mk2 (.int .u8) (.int .u8) (.vr 17) (.ci .u8 45)) <|
        .ite (.vr 18) (
         .prim (.neg .i64) (.p1 tI .bool (.vr 12)) <|
         .prim (.ar .add .i64) (.mk2 tI tI (prA (.pair .str tI) 1 (.vr 0)) (.ci .i64 8)) <|
         .ret (.mk2 tI tI (.vr 19) (.vr 20))) (
         .prim (.ar .add .i64) (.mk2 tI tI (prA (.pair .str tI) 1 (.vr 0)) (.ci .i64 8)) <|
         .ret (.mk2 tI tI (.p1 tI .bool (.vr 12)) (.vr 19))))) (
       .prim .sidx (.mk2 .str tI (.p1 .str tI (.vr 0)) (prA (.pair .str tI) 1 (.vr 0))) <|
       .prim (.cmp .eql .u8) (.mk2 (.int .u8) (.int .u8) (.vr 16) (.ci .u8 45)) <|
       .ite (.vr 17) (
        .prim (.neg .i64) (.p1 tI .bool (.vr 12)) <|
        .prim (.ar .add .i64) (.mk2 tI tI (prA (.pair .str tI) 1 (.vr 0)) (.ci .i64 8)) <|
        .ret (.mk2 tI tI (.vr 18) (.vr 19))) (
        .prim (.ar .add .i64) (.mk2 tI tI (prA (.pair .str tI) 1 (.vr 0)) (.ci .i64 8)) <|
        .ret (.mk2 tI tI (.p1 tI .bool (.vr 12)) (.vr 18))))))) (
    .prim (.ar .add .i64) (.mk2 tI tI (prA (.pair .str tI) 1 (.vr 0)) (.ci .i64 1)) <|
    .prim .slen (.p1 .str tI (.vr 0)) <|
    .prim .ssub (mkA (.pair .str tIns) [(.p1 .str tI (.vr 0)),(.vr 7),(.vr 8)]) <|
    .call 0 (.mk2 .str tI (.vr 9) (.ci .i64 7)) <|
    .prim .not (prA (.pair tI .bool) 1 (.vr 10)) <|
    .ite (.vr 11) (
     .ret (.mk2 tI tI (.ci .i64 0) (.ci .i64 (-1)))) (
     .prim .sidx (.mk2 .str tI (.p1 .str tI (.vr 0)) (prA (.pair .str tI) 1 (.vr 0))) <|
     .prim (.cmp .eql .u8) (.mk2 (.int .u8) (.int .u8) (.vr 12) (.ci .u8 45)) <|
     .ite (.vr 13) (
      .prim (.cmp .eql .i64) (.mk2 tI tI (.p1 tI .bool (.vr 10)) (.ci .i64 0)) <|
      .ite (.vr 14) (
       .ret (.mk2 tI tI (.ci .i64 0) (.ci .i64 (-1)))) (
       .prim .sidx (.mk2 .str tI (.p1 .str tI (.vr 0)) (prA (.pair .str tI) 1 (.vr 0))) <|
       .prim (.cmp .eql .u8) (.mk2 (.int .u8) (.int .u8) (.vr 15) (.ci .u8 45)) <|
       .ite (.vr 16) (
        .prim (.neg .i64) (.p1 tI .bool (.vr 10)) <|
        .prim (.ar .add .i64) (.mk2 tI tI (prA (.pair .str tI) 1 (.vr 0)) (.ci .i64 8)) <|
        .ret (.mk2 tI tI (.vr 17) (.vr 18))) (
        .prim (.ar .add .i64) (.mk2 tI tI (prA (.pair .str tI) 1 (.vr 0)) (.ci .i64 8)) <|
        .ret (.mk2 tI tI (.p1 tI .bool (.vr 10)) (.vr 17))))) (
      .prim .sidx (.mk2 .str tI (.p1 .str tI (.vr 0)) (prA (.pair .str tI) 1 (.vr 0))) <|
      .prim (.cmp .eql .u8) (.mk2 (.int .u8) (.int .u8) (.vr 14) (.ci .u8 45)) <|
      .ite (.vr 15) (
       .prim (.neg .i64) (.p1 tI .bool (.vr 10)) <|
       .prim (.ar .add .i64) (.mk2 tI tI (prA (.pair .str tI) 1 (.vr 0)) (.ci .i64 8)) <|
       .ret (.mk2 tI tI (.vr 16) (.vr 17))) (
       .prim (.ar .add .i64) (.mk2 tI tI (prA (.pair .str tI) 1 (.vr 0)) (.ci .i64 8)) <|
       .ret (.mk2 tI tI (.p1 tI .bool (.vr 10)) (.vr 16))))))))
set_option maxRecDepth 100000 in
theorem e_s_l21Num:exFn Tryz.prog [c_s_ReadFixed] c_s_l21Num false 3000 ⟨[],[]⟩ = .ok t_s_l21Num:=by kernel_rfl
set_option maxHeartbeats 4000000 in
theorem v_s_l21Num (x:(ByteArray) × Int) (hx:okD (.pair .str tI) x) (hp:(fun x=>-1≤x.2∧x.2≤x.1.size) x):t_s_l21Num.wp [c_s_ReadFixed] [⟨(.pair .str tI),x⟩] [] (fun v=>v.as tIns = (fun x=>numP x.1 x.2) x):=by
 obtain ⟨s,p⟩:=x
 obtain ⟨h1,h2⟩:-1≤p∧p≤s.size:=hp
 have hs:s.size≤9223372036854775807:=by have:s.size≤maxLen:=hx.1;unfold maxLen at this;omega
 delta t_s_l21Num c_s_ReadFixed;refine vcx ?_;try with_reducible exact True.intro
 have n0:numAt s p = none→(0,-1) = numP s p:=fun h=>by unfold numP;rw [h]
 have n1:∀ n,numAt s p = some n→(n,p + 8) = numP s p:=fun n h=>by unfold numP;rw [h]
 by_cases hc:0≤p∧p + 8≤s.size
 ·have e:=rdFix_at hc.1 hc.2
  have a1:=numAt_1 hc.1 hc.2
  have a2:=numAt_2 hc.1 hc.2
  have a3:=numAt_3 (s:=s) (p:=p)
  have hb:=rdN_7 (s.extract (p + 1).toNat s.size) (show 7≤7 by decide)
  have e1:((s.size:Int)).toNat = s.size:=by omega
  have es:=ext_size s (p + 1).toNat (by omega)
  rw [e1,e]
  generalize rdN (s.extract (p + 1).toNat s.size) 7 = N at a1 a2 a3 hb ⊢
  (refine dcx ?_;try with_reducible exact True.intro)
  (repeat' first | intro _ | (with_reducible apply And.intro))
  all_goals first | omega | contradiction | exact n0 (a3 (by omega)) | exact n1 _ (a1 (by omega)) | exact n1 _ (a2 (by omega) (by omega))
 ·have a3:=n0 (numAt_none hc)
  (refine dcx ?_;try with_reducible exact True.intro)
  (repeat' first | intro _ | (with_reducible apply And.intro))
  all_goals first | omega | exact a3
set_option maxHeartbeats 4000000 in
theorem h_s_l21Num:Con.Holds Tryz.prog c_s_l21Num:=tree_ok mixedP (consAt h_s_ReadFixed consNil) e_s_l21Num fun x hx hp=>v_s_l21Num x hx hp
noncomputable def c_s_l21Vec:Con:=⟨76,(.pair .str tI),(.pair tInts tI),[.val ⟨false,.str,[]⟩,.val ⟨false,tI,[]⟩],[⟨false,tInts,[2]⟩,⟨false,tI,[0]⟩],false,none,
 ((fun x=>-1≤x.2∧x.2≤x.1.size):((ByteArray) × Int)→Prop),
 ((fun x=>vecP x.1 x.2):((ByteArray) × Int)→(IntsD × Int))⟩
def t_s_l21Vec:T :=
 .call 0 (.vr 0) <|
 .prim (.cmp .lss .i64) (.mk2 tI tI (prA tIns 1 (.vr 1)) (.ci .i64 0)) <|
 .ite (.vr 2) (
  .ret (.mk2 tInts tI (.nl 3 tI) (.ci .i64 (-1)))) (
  .call 1 (mkA (.pair tI tIns) [(.p1 tI tI (.vr 1)),(.ci .i64 0),(.ci .i64 200)]) <|
  .prim .not (.vr 3) <|
  .ite (.vr 4) (
   .ret (.mk2 tInts tI (.nl 3 tI) (.ci .i64 (-1)))) (
   .loop (.pair tI tItem) (mkA (.pair tI tItem) [(.ci .i64 0),(prA tIns 1 (.vr 1)),(.nl 3 tI)]) <|
    .prim (.cmp .lss .i64) (.mk2 tI tI (.p1 tI tItem (.vr 5)) (.p1 tI tI (.vr 1))) <|
    .ite (.vr 6) (
     .call 0 (.mk2 .str tI (.p1 .str tI (.vr 0)) (pjA (.pair tI tItem) 1 (.vr 5))) <|
     .prim (.cmp .lss .i64) (.mk2 tI tI (prA tIns 1 (.vr 7)) (.ci .i64 0)) <|
     .ite (.vr 8) (
      .ret (.mk2 tInts tI (.nl 3 tI) (.ci .i64 (-1)))) (
      .call 2 (.p1 tI tI (.vr 7)) <|
      .prim .not (.vr 9) <|
      .ite (.vr 10) (
       .ret (.mk2 tInts tI (.nl 3 tI) (.ci .i64 (-1)))) (
       .prim (.lit 3 tI 1) (.p1 tI tI (.vr 7)) <|
       .prim (.lapp 3 tI 8) (.mk2 tInts tInts (prA (.pair tI tItem) 2 (.vr 5)) (.vr 11)) <|
       .prim (.ar .add .i64) (.mk2 tI tI (.p1 tI tItem (.vr 5)) (.ci .i64 1)) <|
       .again 0 (mkA (.pair tI tItem) [(.vr 13),(prA tIns 1 (.vr 7)),(.vr 12)])))) (
     .ret (.mk2 tInts tI (prA (.pair tI tItem) 2 (.vr 5)) (pjA (.pair tI tItem) 1 (.vr 5))))))
set_option maxRecDepth 100000 in
theorem e_s_l21Vec:exFn Tryz.prog [c_s_l21Num,c_s_l1In,c_s_l21Small] c_s_l21Vec false 3000 ⟨[(2984,4005,drd 25 16 ++ [.dr 12] ++ drd 15 13 ++ [.dr 1,.tm 9 0,.on 8,.tm 7 0,.sl 1])],[]⟩ = .ok t_s_l21Vec:=by kernel_rfl
theorem v_s_l21Vec (x:(ByteArray) × Int) (hx:okD (.pair .str tI) x) (hp:(fun x=>-1≤x.2∧x.2≤x.1.size) x):t_s_l21Vec.wp [c_s_l21Num,c_s_l1In,c_s_l21Small] [⟨(.pair .str tI),x⟩] [] (fun v=>v.as (.pair tInts tI) = (fun x=>vecP x.1 x.2) x):=by
 obtain ⟨s,p⟩:=x
 obtain ⟨h1,h2⟩:-1≤p∧p≤s.size:=hp
 delta t_s_l21Vec c_s_l21Num c_s_l1In c_s_l21Small;refine vcx ?_;try with_reducible exact True.intro
 refine ⟨⟨h1,h2⟩,fun _=>?_⟩
 cases hn:numAt s p with
 | none =>
  have e:numP s p = (0,-1):=by unfold numP;rw [hn]
  have v:vecP s p = ([],-1):=by unfold vecP vecO;rw [hn];rfl
  rw [e,v]
  exact ⟨fun _=>rfl,fun h=>(by simp at h)⟩
 | some n =>
  have e:numP s p = (n,p + 8):=by unfold numP;rw [hn]
  have hq:=numAt_some hn
  rw [e]
  dsimp only
  refine ⟨fun h=>by rw [decide_eq_true_eq] at h;omega,fun _=>⟨fun h=>?_,fun h=>?_⟩⟩
  ·simp only [Int.toNat_natCast,Bool.not_eq_true',Bool.not_eq_false',Bool.and_eq_true,Bool.and_eq_false_iff,decide_eq_true_eq,decide_eq_false_iff_not,Int.not_lt,Int.not_le,ge_iff_le,gt_iff_lt,List.length_cons,List.length_nil,List.length_append,Nat.zero_add,List.nil_append,beq_iff_eq,beq_eq_false_iff_ne,bne_iff_ne,bne_eq_false_iff_eq,ne_eq,toNat_pred,toNat_succ,toNat_l0,toNat_l1] at h
   unfold vecP vecO
   rw [hn]
   dsimp only
   rw [if_neg (by omega)]
   rfl
  ·simp only [Int.toNat_natCast,Bool.not_eq_true',Bool.not_eq_false',Bool.and_eq_true,Bool.and_eq_false_iff,decide_eq_true_eq,decide_eq_false_iff_not,Int.not_lt,Int.not_le,ge_iff_le,gt_iff_lt,List.length_cons,List.length_nil,List.length_append,Nat.zero_add,List.nil_append,beq_iff_eq,beq_eq_false_iff_ne,bne_iff_ne,bne_eq_false_iff_eq,ne_eq,toNat_pred,toNat_succ,toNat_l0,toNat_l1] at h
   refine ⟨fun t=>∃ k:Nat,t.1 = (k:Int)∧(k:Int)≤n∧List.length t.2.2 = k∧@LE.le Int Int.instLEInt 0 t.2.1∧@LE.le Int Int.instLEInt t.2.1 s.size∧vecP s p = ((numsP s (n.toNat - k) t.2.1).map fun q=>(t.2.2 ++ q.1,q.2)).getD ([],-1),fun t=>(n - t.1:Int).toNat,⟨0,rfl,by omega,rfl,(show (0:Int)≤p + 8 by omega),hq.2,?_⟩,fun t _ hI=>?_⟩
   ·unfold vecP vecO
    rw [hn]
    dsimp only
    rw [if_pos (by omega)]
    show _ = (Option.map (fun q=>(q.1,q.2)) (numsP s (n.toNat - 0) (p + 8))).getD _
    rw [show n.toNat - 0 = n.toNat by omega]
    cases numsP s n.toNat (p + 8) <;> rfl
   obtain ⟨i,pos,out⟩:Int × (Int × List Int):=t
   obtain ⟨k,rfl,hk,hl,hp1,hp2,hv⟩:=hI
   dsimp only at hk hl hp1 hp2 hv ⊢
   constructor
   ·intro hlt
    rw [decide_eq_true_eq] at hlt
    obtain ⟨m,hm⟩:∃ m,n.toNat - k = m + 1:=⟨n.toNat - k - 1,by omega⟩
    rw [hm,numsP] at hv
    refine ⟨⟨(show (-1:Int)≤pos by omega),hp2⟩,fun _=>?_⟩
    cases hx:numAt s pos with
    | none =>
     have e:numP s pos = (0,-1):=by unfold numP;rw [hx]
     rw [hx] at hv
     rw [e,hv]
     exact ⟨fun _=>rfl,fun h=>(by simp at h)⟩
    | some y =>
     have e:numP s pos = (y,pos + 8):=by unfold numP;rw [hx]
     have hy:=numAt_some hx
     rw [hx] at hv
     rw [e]
     dsimp only at hv ⊢
     by_cases hs:small y = true
     ·rw [if_pos hs] at hv
      (refine dcx ?_;try with_reducible exact True.intro)
      (repeat' first | intro _ | (with_reducible apply And.intro))
      all_goals first | omega | (unfold maxLen;omega) | (simp_all;done) | skip
      refine ⟨k + 1,rfl,by omega,congrArg (· + 1) hl,(show (0:Int)≤pos + 8 by omega),(show pos + 8≤(s.size:Int) by omega),?_⟩
      rw [show n.toNat - (k + 1) = m by omega,hv]
      cases numsP s m (pos + 8) <;> simp
     ·rw [if_neg hs] at hv
      rw [hv]
      (refine dcx ?_;try with_reducible exact True.intro)
      (repeat' first | intro _ | (with_reducible apply And.intro))
      all_goals first | omega | rfl | (simp_all;done)
   ·intro hge
    rw [decide_eq_false_iff_not] at hge
    rw [hv,show n.toNat - k = 0 by omega]
    simp [numsP]
theorem h_s_l21Vec:Con.Holds Tryz.prog c_s_l21Vec:=tree_ok mixedP (consAt h_s_l21Num (consAt h_s_l1In (consAt h_s_l21Small consNil))) e_s_l21Vec fun x hx hp=>v_s_l21Vec x hx hp
end Go.Proofs.YtepjkojfjdcegaaGreat
