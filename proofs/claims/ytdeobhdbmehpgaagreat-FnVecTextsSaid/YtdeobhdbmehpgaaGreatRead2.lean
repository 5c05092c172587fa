/- Read2: lemmas. No conditions. -/
import Derived.Test.YtdeobhdbmehpgaaGreatVec2
namespace Go.Proofs.YtdeobhdbmehpgaaGreat
set_option maxRecDepth 100000
open Go.ChangeShapes Go.WideShapes Go.ChangeAt Go.RowKit Go.Deep
set_option linter.unusedVariables false
set_option linter.unusedSimpArgs false
def jI (s:ByteArray) (p:Int):Option Int :=
 if 0≤p∧p+8≤s.size then
  if cD s p=43 then some (rdN (s.extract (p+1).toNat s.size) 7)
  else if cD s p=45∧rdN (s.extract (p+1).toNat s.size) 7≠0 then some (-(rdN (s.extract (p+1).toNat s.size) 7))
  else none
 else none
theorem aRK {s:ByteArray} {p:Int} (h:¬ (0≤p∧p+8≤s.size)):jI s p=none:=by unfold jI;rw[if_neg h]
theorem aHB {s:ByteArray} {p n:Int} (h:jI s p=some n):0≤p∧p+8≤s.size:=by
 unfold jI at h
 split at h
 ·assumption
 ·cases h
abbrev kG:=ByteArray × (Int × Bool)
def gR (r:kG) (lo hi:Int):Int × kG :=
 match (if r.2.2=true then none else jI r.1 r.2.1) with
 | some n=>if lo≤n∧n≤hi then (n,(r.1,r.2.1+8,false)) else (0,(r.1,r.2.1,true))
 | none=>(0,(r.1,r.2.1,true))
def jM:Nat→kG→List Int × kG
 | 0,r=>([],r)
 | k+1,r=>if r.2.2=true then ([],r) else ((gR r (-1000000000000) 1000000000000).1 :: (jM k (gR r (-1000000000000) 1000000000000).2).1,(jM k (gR r (-1000000000000) 1000000000000).2).2)
def gT (r:kG):List Int × kG:=jM (gR r 0 200).1.toNat (gR r 0 200).2
def rQ (r:kG):Prop:=0≤r.2.1∧r.2.1≤r.1.size
theorem aCA {r:kG} (h:rQ r) (lo hi:Int):rQ (gR r lo hi).2∧(gR r lo hi).2.1=r.1:=by
 unfold gR
 split
 ·rename_i n hn
  split at hn
  ·cases hn
  ·have:=aHB hn
   split
   ·exact ⟨⟨by show 0≤r.2.1+8;omega,by show r.2.1+8≤(r.1.size:Int);omega⟩,rfl⟩
   ·exact ⟨h,rfl⟩
 ·exact ⟨h,rfl⟩
theorem aR1 (r:kG) (lo hi:Int):(gR r lo hi).1=0∨(lo≤(gR r lo hi).1∧(gR r lo hi).1≤hi):=by
 unfold gR
 split
 ·split
  ·right;assumption
  ·left;rfl
 ·left;rfl
def yM (s:ByteArray):Nat→Int→Option (List Int × Int)
 | 0,p=>some ([],p)
 | k+1,p=>match jI s p with
  | some n=>if iE n=true then (yM s k (p+8)).map fun q=>(n :: q.1,q.2) else none
  | none=>none
def aM3 (s:ByteArray) (p:Int):Option (List Int × Int):=match jI s p with
 | some n=>if 0≤n∧n≤200 then yM s n.toNat (p+8) else none
 | none=>none
def wS (s:ByteArray):List Int × (Int × Bool):=match aM3 s 0 with
 | some q=>(q.1,q.2,true)
 | none=>([],0,false)
theorem aP8 (s:ByteArray) (a:Nat) (h:a≤s.size):(s.extract a s.size).size=s.size - a:=by rw[ByteArray.size_extract];omega
theorem bA6 {s:ByteArray} {p:Int} (h0:0≤p) (h:p+8≤s.size):aK1 (s.extract (p+1).toNat s.size)=(rdN (s.extract (p+1).toNat s.size) 7,true):=by
 unfold aK1
 rw[if_pos]
 rw[aP8 _ _ (by omega)]
 omega
theorem aU0 {s:ByteArray} {p:Int} (h0:0≤p) (h:p+8≤s.size) (hc:cD s p=43):jI s p=some (rdN (s.extract (p+1).toNat s.size) 7):=by unfold jI;rw[if_pos ⟨h0,h⟩,if_pos hc]
theorem aU7 {s:ByteArray} {p:Int} (h0:0≤p) (h:p+8≤s.size) (hc:cD s p=45) (hn:rdN (s.extract (p+1).toNat s.size) 7≠0):jI s p=some (-(rdN (s.extract (p+1).toNat s.size) 7)):=by unfold jI;rw[if_pos ⟨h0,h⟩,if_neg (by omega),if_pos ⟨hc,hn⟩]
theorem bBV {s:ByteArray} {p:Int} (h:¬ (0≤p∧p+8≤s.size)∨(cD s p≠43∧(cD s p≠45∨rdN (s.extract (p+1).toNat s.size) 7=0))):jI s p=none:=by
 unfold jI
 split
 ·rw[if_neg (by omega),if_neg (by omega)]
 ·rfl
theorem aM7 {s:ByteArray} {p lo hi:Int} (h:jI s p=none):(0,s,p,true)=gR (s,p,false) lo hi:=by
 unfold gR
 rw[if_neg (by simp)]
 simp only[h]
theorem aLD {s:ByteArray} {p lo hi n:Int} (h:jI s p=some n) (hn:n<lo∨hi<n):(0,s,p,true)=gR (s,p,false) lo hi:=by
 unfold gR
 rw[if_neg (by simp)]
 simp only[h]
 rw[if_neg (by omega)]
theorem aF8 {s:ByteArray} {p lo hi n:Int} (h:jI s p=some n) (h1:lo≤n) (h2:n≤hi):(n,s,p+8,false)=gR (s,p,false) lo hi:=by
 unfold gR
 rw[if_neg (by simp)]
 simp only[h]
 rw[if_pos ⟨h1,h2⟩]
theorem lQ (k:Nat) {r:kG} (h:r.2.2=true):jM k r=([],r):=by
 cases k with
 | zero=>rfl
 | succ k=>unfold jM;rw[if_pos h]
theorem aBX (k:Nat) {r:kG} (h:r.2.2=false):jM (k+1) r=((gR r (-1000000000000) 1000000000000).1 :: (jM k (gR r (-1000000000000) 1000000000000).2).1,(jM k (gR r (-1000000000000) 1000000000000).2).2):=by
 rw[jM,if_neg (by rw[h];simp)]
theorem aUH:(k:Nat)→{r:kG}→rQ r→rQ (jM k r).2∧(jM k r).2.1=r.1
 | 0,r,h=>⟨h,rfl⟩
 | k+1,r,h=>by
  cases hb:r.2.2 with
  | true=>rw[lQ _ hb];exact ⟨h,rfl⟩
  | false =>
   rw[aBX _ hb]
   have h1:=aCA h (-1000000000000) 1000000000000
   have h2:=aUH k h1.1
   exact ⟨h2.1,h2.2.trans h1.2⟩
theorem nQ {r:kG} (h:rQ r):rQ (gT r).2∧(gT r).2.1=r.1:=by
 have h1:=aCA h 0 200
 have h2:=aUH (gR r 0 200).1.toNat h1.1
 exact ⟨h2.1,h2.2.trans h1.2⟩
theorem aN9 (s:ByteArray):(k:Nat)→(p:Int)→match yM s k p with
  | some q=>jM k (s,p,false)=(q.1,s,q.2,false)
  | none=>(jM k (s,p,false)).2.2.2=true
 | 0,p=>rfl
 | k+1,p=>by
  rw[aBX k (r:=(s,p,false)) rfl,yM]
  cases hn:jI s p with
  | none =>
   rw[← aM7 hn]
   show (jM k (s,p,true)).2.2.2=true
   rw[lQ _ rfl]
  | some n =>
   dsimp only
   by_cases hs:iE n=true
   ·rw[if_pos hs]
    have h2:=(oL n).1 hs
    rw[← aF8 hn h2.1 h2.2]
    have ih:=aN9 s k (p+8)
    cases hq:yM s k (p+8) with
    | none=>rw[hq] at ih;exact ih
    | some q=>rw[hq] at ih;dsimp only [Option.map] at ih ⊢;rw[ih]
   ·rw[if_neg hs]
    rw[oL] at hs
    rw[← aLD hn (by omega)]
    show (jM k (s,p,true)).2.2.2=true
    rw[lQ _ rfl]
theorem aJV (s:ByteArray) (p:Int):match aM3 s p with
  | some q=>gT (s,p,false)=(q.1,s,q.2,false)
  | none=>(gT (s,p,false)).2.2.2=true:=by
 unfold aM3 gT
 cases hn:jI s p with
 | none =>
  rw[← aM7 hn]
  show (jM _ (s,p,true)).2.2.2=true
  rw[lQ _ rfl]
 | some n =>
  dsimp only
  by_cases hs:0≤n∧n≤200
  ·rw[if_pos hs,← aF8 hn hs.1 hs.2]
   exact aN9 s _ _
  ·rw[if_neg hs,← aLD hn (by omega)]
   show (jM _ (s,p,true)).2.2.2=true
   rw[lQ _ rfl]
noncomputable def cW:Con:=⟨55,(.bEL (.bEL .str (.bEL tI .bool)) aD),(.bEL tI (.bEL .str (.bEL tI .bool))),[.box 61 ⟨true,(.bEL .str (.bEL tI .bool)),[]⟩,.val ⟨false,tI,[]⟩,.val ⟨false,tI,[]⟩],[⟨false,tI,[0]⟩],false,none,
 ((fun x=>rQ x.1):(((ByteArray) × (Int × Bool)) × eY)→Prop),
 ((fun x=>gR x.1 x.2.1 x.2.2):(((ByteArray) × (Int × Bool)) × eY)→(Int × ((ByteArray) × (Int × Bool))))⟩
def kL:T:=.ite (aN (.bEL .str (.bEL tI .bool)) 2 (.p1 (.bEL .str (.bEL tI .bool)) aD (.Z 0))) (.ret (aY (.bEL tI (.bEL .str (.bEL tI .bool))) [(.ci .i64 0),(.p1 .str (.bEL tI .bool) (.p1 (.bEL .str (.bEL tI .bool)) aD (.Z 0))),(aI (.bEL .str (.bEL tI .bool)) 1 (.p1 (.bEL .str (.bEL tI .bool)) aD (.Z 0))),(.cb true)])) (
 .bEM .slen (.p1 .str (.bEL tI .bool) (.p1 (.bEL .str (.bEL tI .bool)) aD (.Z 0))) <|
 .bEM (.ar .sub .i64) (.bEN tI tI (.Z 1) (aI (.bEL .str (.bEL tI .bool)) 1 (.p1 (.bEL .str (.bEL tI .bool)) aD (.Z 0)))) <|
 .bEM (.cmp .lss .i64) (.bEN tI tI (.Z 2) (.ci .i64 8)) <|
 .ite (.Z 3) (
  .ret (aY (.bEL tI (.bEL .str (.bEL tI .bool))) [(.ci .i64 0),(.p1 .str (.bEL tI .bool) (.p1 (.bEL .str (.bEL tI .bool)) aD (.Z 0))),(aI (.bEL .str (.bEL tI .bool)) 1 (.p1 (.bEL .str (.bEL tI .bool)) aD (.Z 0))),(.cb true)])) (
  .bEM .sidx (.bEN .str tI (.p1 .str (.bEL tI .bool) (.p1 (.bEL .str (.bEL tI .bool)) aD (.Z 0))) (aI (.bEL .str (.bEL tI .bool)) 1 (.p1 (.bEL .str (.bEL tI .bool)) aD (.Z 0)))) <|
  .bEM (.ar .add .i64) (.bEN tI tI (aI (.bEL .str (.bEL tI .bool)) 1 (.p1 (.bEL .str (.bEL tI .bool)) aD (.Z 0))) (.ci .i64 1)) <|
  .bEM .slen (.p1 .str (.bEL tI .bool) (.p1 (.bEL .str (.bEL tI .bool)) aD (.Z 0))) <|
  .bEM .ssub (aY (.bEL .str aD) [(.p1 .str (.bEL tI .bool) (.p1 (.bEL .str (.bEL tI .bool)) aD (.Z 0))),(.Z 5),(.Z 6)]) <|
  .call 0 (.bEN .str tI (.Z 7) (.ci .i64 7)) <|
  .bEM (.cmp .eql .u8) (.bEN (.int .u8) (.int .u8) (.Z 4) (.ci .u8 45)) <|
  .ite (.Z 9) (
   .bEM (.neg .i64) (.p1 tI .bool (.Z 8)) <|
   .bEM (.cmp .neq .u8) (.bEN (.int .u8) (.int .u8) (.Z 4) (.ci .u8 43)) <|
   .ite (.Z 11) (
    .bEM (.cmp .neq .u8) (.bEN (.int .u8) (.int .u8) (.Z 4) (.ci .u8 45)) <|
    .ite (.Z 12) (
     .ret (aY (.bEL tI (.bEL .str (.bEL tI .bool))) [(.ci .i64 0),(.p1 .str (.bEL tI .bool) (.p1 (.bEL .str (.bEL tI .bool)) aD (.Z 0))),(aI (.bEL .str (.bEL tI .bool)) 1 (.p1 (.bEL .str (.bEL tI .bool)) aD (.Z 0))),(.cb true)])) (
     .bEM (.cmp .eql .i64) (.bEN tI tI (.Z 10) (.ci .i64 0)) <|
     .ite (.Z 13) (
      .ret (aY (.bEL tI (.bEL .str (.bEL tI .bool))) [(.ci .i64 0),(.p1 .str (.bEL tI .bool) (.p1 (.bEL .str (.bEL tI .bool)) aD (.Z 0))),(aI (.bEL .str (.bEL tI .bool)) 1 (.p1 (.bEL .str (.bEL tI .bool)) aD (.Z 0))),(.cb true)])) (
      .bEM (.cmp .lss .i64) (.bEN tI tI (.Z 10) (aI (.bEL (.bEL .str (.bEL tI .bool)) aD) 1 (.Z 0))) <|
      .ite (.Z 14) (
       .ret (aY (.bEL tI (.bEL .str (.bEL tI .bool))) [(.ci .i64 0),(.p1 .str (.bEL tI .bool) (.p1 (.bEL .str (.bEL tI .bool)) aD (.Z 0))),(aI (.bEL .str (.bEL tI .bool)) 1 (.p1 (.bEL .str (.bEL tI .bool)) aD (.Z 0))),(.cb true)])) (
       .bEM (.cmp .gtr .i64) (.bEN tI tI (.Z 10) (aN (.bEL (.bEL .str (.bEL tI .bool)) aD) 2 (.Z 0))) <|
       .ite (.Z 15) (
        .ret (aY (.bEL tI (.bEL .str (.bEL tI .bool))) [(.ci .i64 0),(.p1 .str (.bEL tI .bool) (.p1 (.bEL .str (.bEL tI .bool)) aD (.Z 0))),(aI (.bEL .str (.bEL tI .bool)) 1 (.p1 (.bEL .str (.bEL tI .bool)) aD (.Z 0))),(.cb true)])) (
        .bEM (.ar .add .i64) (.bEN tI tI (aI (.bEL .str (.bEL tI .bool)) 1 (.p1 (.bEL .str (.bEL tI .bool)) aD (.Z 0))) (.ci .i64 8)) <|
        .ret (aY (.bEL tI (.bEL .str (.bEL tI .bool))) [(.Z 10),(.p1 .str (.bEL tI .bool) (.p1 (.bEL .str (.bEL tI .bool)) aD (.Z 0))),(.Z 16),(aN (.bEL .str (.bEL tI .bool)) 2 (.p1 (.bEL .str (.bEL tI .bool)) aD (.Z 0)))])))))) (
    .bEM (.cmp .lss .i64) (.bEN tI tI (.Z 10) (aI (.bEL (.bEL .str (.bEL tI .bool)) aD) 1 (.Z 0))) <|
    .ite (.Z 12) (
     .ret (aY (.bEL tI (.bEL .str (.bEL tI .bool))) [(.ci .i64 0),(.p1 .str (.bEL tI .bool) (.p1 (.bEL .str (.bEL tI .bool)) aD (.Z 0))),(aI (.bEL .str (.bEL tI .bool)) 1 (.p1 (.bEL .str (.bEL tI .bool)) aD (.Z 0))),(.cb true)])) (
     .bEM (.cmp .gtr .i64) (.bEN tI tI (.Z 10) (aN (.bEL (.bEL .str (.bEL tI .bool)) aD) 2 (.Z 0))) <|
     .ite (.Z 13) (
      .ret (aY (.bEL tI (.bEL .str (.bEL tI .bool))) [(.ci .i64 0),(.p1 .str (.bEL tI .bool) (.p1 (.bEL .str (.bEL tI .bool)) aD (.Z 0))),(aI (.bEL .str (.bEL tI .bool)) 1 (.p1 (.bEL .str (.bEL tI .bool)) aD (.Z 0))),(.cb true)])) (
      .bEM (.ar .add .i64) (.bEN tI tI (aI (.bEL .str (.bEL tI .bool)) 1 (.p1 (.bEL .str (.bEL tI .bool)) aD (.Z 0))) (.ci .i64 8)) <|
      .ret (aY (.bEL tI (.bEL .str (.bEL tI .bool))) [(.Z 10),(.p1 .str (.bEL tI .bool) (.p1 (.bEL .str (.bEL tI .bool)) aD (.Z 0))),(.Z 14),(aN (.bEL .str (.bEL tI .bool)) 2 (.p1 (.bEL .str (.bEL tI .bool)) aD (.Z 0)))]))))) (
   .bEM (.cmp .neq .u8) (.bEN (.int .u8) (.int .u8) (.Z 4) (.ci .u8 43)) <|
   .ite (.Z 10) (
    .bEM (.cmp .neq .u8) (.bEN (.int .u8) (.int .u8) (.Z 4) (.ci .u8 45)) <|
    .ite (.Z 11) (
     .ret (aY (.bEL tI (.bEL .str (.bEL tI .bool))) [(.ci .i64 0),(.p1 .str (.bEL tI .bool) (.p1 (.bEL .str (.bEL tI .bool)) aD (.Z 0))),(aI (.bEL .str (.bEL tI .bool)) 1 (.p1 (.bEL .str (.bEL tI .bool)) aD (.Z 0))),(.cb true)])) (
     .bEM (.cmp .eql .i64) (.bEN tI tI (.p1 tI .bool (.Z 8)) (.ci .i64 0)) <|
     .ite (.Z 12) (
      .ret (aY (.bEL tI (.bEL .str (.bEL tI .bool))) [(.ci .i64 0),(.p1 .str (.bEL tI .bool) (.p1 (.bEL .str (.bEL tI .bool)) aD (.Z 0))),(aI (.bEL .str (.bEL tI .bool)) 1 (.p1 (.bEL .str (.bEL tI .bool)) aD (.Z 0))),(.cb true)])) (
      .bEM (.cmp .lss .i64) (.bEN tI tI (.p1 tI .bool (.Z 8)) (aI (.bEL (.bEL .str (.bEL tI .bool)) aD) 1 (.Z 0))) <|
      .ite (.Z 13) (
       .ret (aY (.bEL tI (.bEL .str (.bEL tI .bool))) [(.ci .i64 0),(.p1 .str (.bEL tI .bool) (.p1 (.bEL .str (.bEL tI .bool)) aD (.Z 0))),(aI (.bEL .str (.bEL tI .bool)) 1 (.p1 (.bEL .str (.bEL tI .bool)) aD (.Z 0))),(.cb true)])) (
       .bEM (.cmp .gtr .i64) (.bEN tI tI (.p1 tI .bool (.Z 8)) (aN (.bEL (.bEL .str (.bEL tI .bool)) aD) 2 (.Z 0))) <|
       .ite (.Z 14) (
        .ret (aY (.bEL tI (.bEL .str (.bEL tI .bool))) [(.ci .i64 0),(.p1 .str (.bEL tI .bool) (.p1 (.bEL .str (.bEL tI .bool)) aD (.Z 0))),(aI (.bEL .str (.bEL tI .bool)) 1 (.p1 (.bEL .str (.bEL tI .bool)) aD (.Z 0))),(.cb true)])) (
        .bEM (.ar .add .i64) (.bEN tI tI (aI (.bEL .str (.bEL tI .bool)) 1 (.p1 (.bEL .str (.bEL tI .bool)) aD (.Z 0))) (.ci .i64 8)) <|
        .ret (aY (.bEL tI (.bEL .str (.bEL tI .bool))) [(.p1 tI .bool (.Z 8)),(.p1 .str (.bEL tI .bool) (.p1 (.bEL .str (.bEL tI .bool)) aD (.Z 0))),(.Z 15),(aN (.bEL .str (.bEL tI .bool)) 2 (.p1 (.bEL .str (.bEL tI .bool)) aD (.Z 0)))])))))) (
    .bEM (.cmp .lss .i64) (.bEN tI tI (.p1 tI .bool (.Z 8)) (aI (.bEL (.bEL .str (.bEL tI .bool)) aD) 1 (.Z 0))) <|
    .ite (.Z 11) (
     .ret (aY (.bEL tI (.bEL .str (.bEL tI .bool))) [(.ci .i64 0),(.p1 .str (.bEL tI .bool) (.p1 (.bEL .str (.bEL tI .bool)) aD (.Z 0))),(aI (.bEL .str (.bEL tI .bool)) 1 (.p1 (.bEL .str (.bEL tI .bool)) aD (.Z 0))),(.cb true)])) (
     .bEM (.cmp .gtr .i64) (.bEN tI tI (.p1 tI .bool (.Z 8)) (aN (.bEL (.bEL .str (.bEL tI .bool)) aD) 2 (.Z 0))) <|
     .ite (.Z 12) (
      .ret (aY (.bEL tI (.bEL .str (.bEL tI .bool))) [(.ci .i64 0),(.p1 .str (.bEL tI .bool) (.p1 (.bEL .str (.bEL tI .bool)) aD (.Z 0))),(aI (.bEL .str (.bEL tI .bool)) 1 (.p1 (.bEL .str (.bEL tI .bool)) aD (.Z 0))),(.cb true)])) (
      .bEM (.ar .add .i64) (.bEN tI tI (aI (.bEL .str (.bEL tI .bool)) 1 (.p1 (.bEL .str (.bEL tI .bool)) aD (.Z 0))) (.ci .i64 8)) <|
      .ret (aY (.bEL tI (.bEL .str (.bEL tI .bool))) [(.p1 tI .bool (.Z 8)),(.p1 .str (.bEL tI .bool) (.p1 (.bEL .str (.bEL tI .bool)) aD (.Z 0))),(.Z 13),(aN (.bEL .str (.bEL tI .bool)) 2 (.p1 (.bEL .str (.bEL tI .bool)) aD (.Z 0)))])))))))
theorem aAZ:bJ Tryz.prog [jK] cW false 3000 ⟨[],[]⟩ = .ok kL:=by kernel_rfl
set_option maxHeartbeats 4000000 in
theorem aBT (x:((ByteArray) × (Int × Bool)) × eY) (hx:okD (.bEL (.bEL .str (.bEL tI .bool)) aD) x) (hp:(fun x=>rQ x.1) x):kL.wp [jK] [⟨(.bEL (.bEL .str (.bEL tI .bool)) aD),x⟩] [] (fun v=>v.as (.bEL tI (.bEL .str (.bEL tI .bool)))=(fun x=>gR x.1 x.2.1 x.2.2) x):=by
 obtain ⟨⟨s,p,b⟩,lo,hi⟩:=x
 obtain ⟨h1,h2⟩:0≤p∧p≤s.size:=hp
 have hs:s.size≤9223372036854775807:=by have:s.size≤maxLen:=hx.1.1;unfold maxLen at this;omega
 delta kL jK;refine eE ?_
 cases b with
 | true=>exact ⟨fun _=>by unfold gR;rw[if_pos rfl],fun h=>by cases h⟩
 | false =>
  by_cases hc:p+8≤s.size
  ·have e:=bA6 h1 hc
   have a1:=aU0 h1 hc
   have a2:=aU7 h1 hc
   have a3:=bBV (s:=s) (p:=p)
   have hb:=aMU (s.extract (p+1).toNat s.size) (show 7≤7 by decide)
   have e1:((s.size:Int)).toNat=s.size:=by omega
   have es:=aP8 s (p+1).toNat (by omega)
   rw[e1,e]
   generalize rdN (s.extract (p+1).toNat s.size) 7=N at a1 a2 a3 hb ⊢
   (refine fJ ?_;try with_reducible exact True.intro)
   (repeat' first|intro _|(with_reducible apply And.intro))
   all_goals first|omega|contradiction|exact aM7 (a3 (by omega))|exact aLD (a1 (by omega)) (by omega)|exact aLD (a2 (by omega) (by omega)) (by omega)|exact aF8 (a1 (by omega)) (by omega) (by omega)|exact aF8 (a2 (by omega) (by omega)) (by omega) (by omega)
  ·(refine fJ ?_;try with_reducible exact True.intro)
   have a3:jI s p=none:=aRK (by omega)
   exact ⟨fun h=>(by cases h),fun _ _=>⟨by omega,fun _=>⟨fun _=>aM7 a3,fun h=>(by omega)⟩⟩⟩
set_option maxHeartbeats 4000000 in
theorem qQ:Con.Holds Tryz.prog cW:=aQ aR (aG aI0 aO) aAZ aBT
noncomputable def cB:Con:=⟨26,(.bEL .str (.bEL tI .bool)),(.bEL aA (.bEL .str (.bEL tI .bool))),[.box 61 ⟨true,(.bEL .str (.bEL tI .bool)),[]⟩],[⟨false,aA,[2]⟩],false,none,
 ((fun x=>rQ x):((ByteArray) × (Int × Bool))→Prop),
 ((fun x=>gT x):((ByteArray) × (Int × Bool))→(aW × ((ByteArray) × (Int × Bool))))⟩
def oP:T:=.call 0 (aY (.bEL (.bEL .str (.bEL tI .bool)) aD) [(.Z 0),(.ci .i64 0),(.ci .i64 200)]) <|.loop (.bEL tI (.bEL .str (.bEL tI (.bEL .bool aA)))) (aY (.bEL tI (.bEL .str (.bEL tI (.bEL .bool aA)))) [(.ci .i64 0),(aI (.bEL tI (.bEL .str (.bEL tI .bool))) 1 (.Z 1)),(aI (.bEL tI (.bEL .str (.bEL tI .bool))) 2 (.Z 1)),(aN (.bEL tI (.bEL .str (.bEL tI .bool))) 3 (.Z 1)),(.nl 3 tI)]) <|
 .bEM (.cmp .lss .i64) (.bEN tI tI (.p1 tI (.bEL .str (.bEL tI (.bEL .bool aA))) (.Z 2)) (.p1 tI (.bEL .str (.bEL tI .bool)) (.Z 1))) <|
 .ite (.Z 3) (
  .bEM .not (aI (.bEL tI (.bEL .str (.bEL tI (.bEL .bool aA)))) 3 (.Z 2)) <|
  .ite (.Z 4) (
   .call 0 (aY (.bEL (.bEL .str (.bEL tI .bool)) aD) [(aY (.bEL .str (.bEL tI .bool)) [(aI (.bEL tI (.bEL .str (.bEL tI (.bEL .bool aA)))) 1 (.Z 2)),(aI (.bEL tI (.bEL .str (.bEL tI (.bEL .bool aA)))) 2 (.Z 2)),(aI (.bEL tI (.bEL .str (.bEL tI (.bEL .bool aA)))) 3 (.Z 2))]),(.ci .i64 (-1000000000000)),(.ci .i64 1000000000000)]) <|
   .bEM (.lit 3 tI 1) (.p1 tI (.bEL .str (.bEL tI .bool)) (.Z 5)) <|
   .bEM (.bES 3 tI 8) (.bEN aA aA (aN (.bEL tI (.bEL .str (.bEL tI (.bEL .bool aA)))) 4 (.Z 2)) (.Z 6)) <|
   .bEM (.ar .add .i64) (.bEN tI tI (.p1 tI (.bEL .str (.bEL tI (.bEL .bool aA))) (.Z 2)) (.ci .i64 1)) <|
   .bEO 0 (aY (.bEL tI (.bEL .str (.bEL tI (.bEL .bool aA)))) [(.Z 8),(aI (.bEL tI (.bEL .str (.bEL tI .bool))) 1 (.Z 5)),(aI (.bEL tI (.bEL .str (.bEL tI .bool))) 2 (.Z 5)),(aN (.bEL tI (.bEL .str (.bEL tI .bool))) 3 (.Z 5)),(.Z 7)])) (
   .ret (aY (.bEL aA (.bEL .str (.bEL tI .bool))) [(aN (.bEL tI (.bEL .str (.bEL tI (.bEL .bool aA)))) 4 (.Z 2)),(aI (.bEL tI (.bEL .str (.bEL tI (.bEL .bool aA)))) 1 (.Z 2)),(aI (.bEL tI (.bEL .str (.bEL tI (.bEL .bool aA)))) 2 (.Z 2)),(aI (.bEL tI (.bEL .str (.bEL tI (.bEL .bool aA)))) 3 (.Z 2))]))) (
  .ret (aY (.bEL aA (.bEL .str (.bEL tI .bool))) [(aN (.bEL tI (.bEL .str (.bEL tI (.bEL .bool aA)))) 4 (.Z 2)),(aI (.bEL tI (.bEL .str (.bEL tI (.bEL .bool aA)))) 1 (.Z 2)),(aI (.bEL tI (.bEL .str (.bEL tI (.bEL .bool aA)))) 2 (.Z 2)),(aI (.bEL tI (.bEL .str (.bEL tI (.bEL .bool aA)))) 3 (.Z 2))]))
theorem aFL:bJ Tryz.prog [cW] cB false 3000 ⟨[(2989,1002,jT 8 6++[.tm 5 0,.on 3,.bx 1 0,.bx 1 1,.bx 1 2,.sl 2])],[]⟩ = .ok oP:=by kernel_rfl
theorem aG5 (x:(ByteArray) × (Int × Bool)) (hx:okD (.bEL .str (.bEL tI .bool)) x) (hp:(fun x=>rQ x) x):oP.wp [cW] [⟨(.bEL .str (.bEL tI .bool)),x⟩] [] (fun v=>v.as (.bEL aA (.bEL .str (.bEL tI .bool)))=(fun x=>gT x) x):=by
 have hp:rQ x:=hp
 delta oP cW;refine eE ?_
 have h1:=aCA hp 0 200
 have hb:=aR1 x 0 200
 refine ⟨hp,fun _=>?_⟩
 refine ⟨fun t=>∃ k:Nat,t.1=(k:Int)∧(k:Int)≤(gR x 0 200).1∧List.length t.2.2.2.2≤k∧rQ (t.2.1,t.2.2.1,t.2.2.2.1)∧gT x=(t.2.2.2.2++(jM ((gR x 0 200).1.toNat - k) (t.2.1,t.2.2.1,t.2.2.2.1)).1,(jM ((gR x 0 200).1.toNat - k) (t.2.1,t.2.2.1,t.2.2.2.1)).2),fun t=>((gR x 0 200).1 - t.1:Int).toNat,⟨0,rfl,by omega,Nat.le_refl _,h1.1,rfl⟩,fun t _ hI=>?_⟩
 obtain ⟨i,s,p,b,acc⟩:Int × (ByteArray × (Int × (Bool × List Int))):=t
 obtain ⟨k,rfl,hk,hl,hP,hv⟩:=hI
 dsimp only at hk hl hP hv ⊢
 generalize hn:(gR x 0 200).1=n at hb hk hv ⊢
 constructor
 ·intro hlt
  rw[decide_eq_true_eq] at hlt
  constructor
  ·intro hb2
   obtain rfl:b=false:=by simpa using hb2
   have hP2:=aCA hP (-1000000000000) 1000000000000
   obtain ⟨m,hm⟩:∃ m,n.toNat - k=m+1:=⟨n.toNat - k - 1,by omega⟩
   rw[hm,aBX m rfl] at hv
   (refine fJ ?_;try with_reducible exact True.intro)
   (repeat' first|intro _|(with_reducible apply And.intro))
   all_goals first|omega|exact hP|(unfold maxLen;omega)|skip
   refine ⟨k+1,rfl,by omega,Nat.succ_le_succ hl,hP2.1,?_⟩
   rw[show n.toNat - (k+1)=m by omega,hv]
   simp
  ·intro hb2
   obtain rfl:b=true:=by simpa using hb2
   rw[lQ _ rfl] at hv
   rw[hv];simp
 ·intro hge
  rw[decide_eq_false_iff_not] at hge
  rw[show n.toNat - k=0 by omega] at hv
  rw[hv];simp[jM]
theorem kW:Con.Holds Tryz.prog cB:=aQ aR (aG qQ aO) aFL aG5
noncomputable def mS:Con:=⟨8,.str,(.bEL aA (.bEL tI .bool)),[.val ⟨false,.str,[]⟩],[⟨false,aA,[2]⟩,⟨false,tI,[0]⟩,⟨false,.bool,[0]⟩],false,none,
 ((fun _=>True):(ByteArray)→Prop),
 ((fun x=>wS x):(ByteArray)→(aW × (Int × Bool)))⟩
def wP:T:=.call 0 (aY (.bEL .str (.bEL tI .bool)) [(.Z 0),(.ci .i64 0),(.cb false)]) <|.ite (aN (.bEL aA (.bEL .str (.bEL tI .bool))) 3 (.Z 1)) (.ret (aY (.bEL aA (.bEL tI .bool)) [(.nl 3 tI),(.ci .i64 0),(.cb false)])) (.ret (aY (.bEL aA (.bEL tI .bool)) [(.p1 aA (.bEL .str (.bEL tI .bool)) (.Z 1)),(aI (.bEL aA (.bEL .str (.bEL tI .bool))) 2 (.Z 1)),(.cb true)]))
theorem aPC:bJ Tryz.prog [cB] mS false 3000 ⟨[],[]⟩ = .ok wP:=by kernel_rfl
theorem aPD (x:ByteArray) (hx:okD .str x) (hp:(fun _=>True) x):wP.wp [cB] [⟨.str,x⟩] [] (fun v=>v.as (.bEL aA (.bEL tI .bool))=(fun x=>wS x) x):=by
 delta wP cB;refine eE ?_
 have h:=aJV x 0
 refine ⟨⟨Int.le_refl _,by show (0:Int)≤x.size;omega⟩,fun _=>?_⟩
 unfold wS
 cases hv:aM3 x 0 with
 | none=>rw[hv] at h;dsimp only at h;rw[h];exact ⟨fun _=>rfl,fun h=>(by cases h)⟩
 | some q=>rw[hv] at h;dsimp only at h;rw[h];exact ⟨fun h=>(by cases h),fun _=>rfl⟩
theorem aPL:Con.Holds Tryz.prog mS:=aQ aR (aG kW aO) aPC aPD
end Go.Proofs.YtdeobhdbmehpgaaGreat
