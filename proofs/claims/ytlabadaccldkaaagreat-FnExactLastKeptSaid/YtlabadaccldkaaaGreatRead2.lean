/- Read2: lemmas. No conditions. -/
import Derived.Test.YtlabadaccldkaaaGreatVec2
namespace Go.Proofs.YtlabadaccldkaaaGreat
noncomputable section
set_option maxRecDepth 100000
open Go.ChangeShapes Go.WideShapes Go.ChangeAt Go.RowKit Go.Deep
set_option linter.unusedVariables false
set_option linter.unusedSimpArgs false
def gX (s:ByteArray) (p:Int):Option Int :=
 if 0≤p∧p+8≤s.size then
  if cV s p=43 then some (rdN (s.extract (p+1).toNat s.size) 7)
  else if cV s p=45∧rdN (s.extract (p+1).toNat s.size) 7≠0 then some (-(rdN (s.extract (p+1).toNat s.size) 7))
  else none
 else none
theorem aCJ {s:ByteArray} {p:Int} (h:¬ (0≤p∧p+8≤s.size)):gX s p=none:=by unfold gX;rw[if_neg h]
theorem kF {s:ByteArray} {p n:Int} (h:gX s p=some n):0≤p∧p+8≤s.size:=by
 unfold gX at h
 split at h
 ·assumption
 ·cases h
abbrev fA:=ByteArray × (Int × Bool)
def fM (r:fA) (lo hi:Int):Int × fA :=
 match (if r.2.2=true then none else gX r.1 r.2.1) with
 | some n=>if lo≤n∧n≤hi then (n,(r.1,r.2.1+8,false)) else (0,(r.1,r.2.1,true))
 | none=>(0,(r.1,r.2.1,true))
def jG:Nat→fA→List Int × fA
 | 0,r=>([],r)
 | k+1,r=>if r.2.2=true then ([],r) else ((fM r (-1000000000000) 1000000000000).1 :: (jG k (fM r (-1000000000000) 1000000000000).2).1,(jG k (fM r (-1000000000000) 1000000000000).2).2)
def eB (r:fA):List Int × fA:=jG (fM r 0 200).1.toNat (fM r 0 200).2
def lM (r:fA):Prop:=0≤r.2.1∧r.2.1≤r.1.size
theorem aAC {r:fA} (h:lM r) (lo hi:Int):lM (fM r lo hi).2∧(fM r lo hi).2.1=r.1:=by
 unfold fM
 split
 ·rename_i n hn
  split at hn
  ·cases hn
  ·have:=kF hn
   split
   ·exact ⟨⟨by show 0≤r.2.1+8;omega,by show r.2.1+8≤(r.1.size:Int);omega⟩,rfl⟩
   ·exact ⟨h,rfl⟩
 ·exact ⟨h,rfl⟩
theorem aNO (r:fA) (lo hi:Int):(fM r lo hi).1=0∨(lo≤(fM r lo hi).1∧(fM r lo hi).1≤hi):=by
 unfold fM
 split
 ·split
  ·right;assumption
  ·left;rfl
 ·left;rfl
def nQ (s:ByteArray) (p:Int):Int × Int:=match gX s p with
 | some n=>(n,p+8)
 | none=>(0,-1)
def nN (s:ByteArray):Nat→Int→Option (List Int × Int)
 | 0,p=>some ([],p)
 | k+1,p=>match gX s p with
  | some n=>if gG n=true then (nN s k (p+8)).map fun q=>(n :: q.1,q.2) else none
  | none=>none
def yS (s:ByteArray) (p:Int):Option (List Int × Int):=match gX s p with
 | some n=>if 0≤n∧n≤200 then nN s n.toNat (p+8) else none
 | none=>none
def fI (s:ByteArray) (p:Int):List Int × Int:=(yS s p).getD ([],-1)
theorem aDY (s:ByteArray) (a:Nat) (h:a≤s.size):(s.extract a s.size).size=s.size - a:=by rw[ByteArray.size_extract];omega
theorem aJO {s:ByteArray} {p:Int} (h0:0≤p) (h:p+8≤s.size):vV (s.extract (p+1).toNat s.size)=(rdN (s.extract (p+1).toNat s.size) 7,true):=by
 unfold vV
 rw[if_pos]
 rw[aDY _ _ (by omega)]
 omega
theorem aGQ {s:ByteArray} {p:Int} (h0:0≤p) (h:p+8≤s.size) (hc:cV s p=43):gX s p=some (rdN (s.extract (p+1).toNat s.size) 7):=by unfold gX;rw[if_pos ⟨h0,h⟩,if_pos hc]
theorem aH4 {s:ByteArray} {p:Int} (h0:0≤p) (h:p+8≤s.size) (hc:cV s p=45) (hn:rdN (s.extract (p+1).toNat s.size) 7≠0):gX s p=some (-(rdN (s.extract (p+1).toNat s.size) 7)):=by unfold gX;rw[if_pos ⟨h0,h⟩,if_neg (by omega),if_pos ⟨hc,hn⟩]
theorem aO5 {s:ByteArray} {p:Int} (h:¬ (0≤p∧p+8≤s.size)∨(cV s p≠43∧(cV s p≠45∨rdN (s.extract (p+1).toNat s.size) 7=0))):gX s p=none:=by
 unfold gX
 split
 ·rw[if_neg (by omega),if_neg (by omega)]
 ·rfl
theorem aH9 {s:ByteArray} {p lo hi:Int} (h:gX s p=none):(0,s,p,true)=fM (s,p,false) lo hi:=by
 unfold fM
 rw[if_neg (by simp)]
 simp only[h]
theorem aHV {s:ByteArray} {p lo hi n:Int} (h:gX s p=some n) (hn:n<lo∨hi<n):(0,s,p,true)=fM (s,p,false) lo hi:=by
 unfold fM
 rw[if_neg (by simp)]
 simp only[h]
 rw[if_neg (by omega)]
theorem aD4 {s:ByteArray} {p lo hi n:Int} (h:gX s p=some n) (h1:lo≤n) (h2:n≤hi):(n,s,p+8,false)=fM (s,p,false) lo hi:=by
 unfold fM
 rw[if_neg (by simp)]
 simp only[h]
 rw[if_pos ⟨h1,h2⟩]
theorem kR (k:Nat) {r:fA} (h:r.2.2=true):jG k r=([],r):=by
 cases k with
 | zero=>rfl
 | succ k=>unfold jG;rw[if_pos h]
theorem uO (k:Nat) {r:fA} (h:r.2.2=false):jG (k+1) r=((fM r (-1000000000000) 1000000000000).1 :: (jG k (fM r (-1000000000000) 1000000000000).2).1,(jG k (fM r (-1000000000000) 1000000000000).2).2):=by
 rw[jG,if_neg (by rw[h];simp)]
theorem aOX:(k:Nat)→{r:fA}→lM r→lM (jG k r).2∧(jG k r).2.1=r.1
 | 0,r,h=>⟨h,rfl⟩
 | k+1,r,h=>by
  cases hb:r.2.2 with
  | true=>rw[kR _ hb];exact ⟨h,rfl⟩
  | false =>
   rw[uO _ hb]
   have h1:=aAC h (-1000000000000) 1000000000000
   have h2:=aOX k h1.1
   exact ⟨h2.1,h2.2.trans h1.2⟩
theorem jJ {r:fA} (h:lM r):lM (eB r).2∧(eB r).2.1=r.1:=by
 have h1:=aAC h 0 200
 have h2:=aOX (fM r 0 200).1.toNat h1.1
 exact ⟨h2.1,h2.2.trans h1.2⟩
theorem aLI (s:ByteArray):(k:Nat)→(p:Int)→match nN s k p with
  | some q=>jG k (s,p,false)=(q.1,s,q.2,false)
  | none=>(jG k (s,p,false)).2.2.2=true
 | 0,p=>rfl
 | k+1,p=>by
  rw[uO k (r:=(s,p,false)) rfl,nN]
  cases hn:gX s p with
  | none =>
   rw[← aH9 hn]
   show (jG k (s,p,true)).2.2.2=true
   rw[kR _ rfl]
  | some n =>
   dsimp only
   by_cases hs:gG n=true
   ·rw[if_pos hs]
    have h2:=(oD n).1 hs
    rw[← aD4 hn h2.1 h2.2]
    have ih:=aLI s k (p+8)
    cases hq:nN s k (p+8) with
    | none=>rw[hq] at ih;exact ih
    | some q=>rw[hq] at ih;dsimp only [Option.map] at ih ⊢;rw[ih]
   ·rw[if_neg hs]
    rw[oD] at hs
    rw[← aHV hn (by omega)]
    show (jG k (s,p,true)).2.2.2=true
    rw[kR _ rfl]
theorem aFP (s:ByteArray) (p:Int):match yS s p with
  | some q=>eB (s,p,false)=(q.1,s,q.2,false)
  | none=>(eB (s,p,false)).2.2.2=true:=by
 unfold yS eB
 cases hn:gX s p with
 | none =>
  rw[← aH9 hn]
  show (jG _ (s,p,true)).2.2.2=true
  rw[kR _ rfl]
 | some n =>
  dsimp only
  by_cases hs:0≤n∧n≤200
  ·rw[if_pos hs,← aD4 hn hs.1 hs.2]
   exact aLI s _ _
  ·rw[if_neg hs,← aHV hn (by omega)]
   show (jG _ (s,p,true)).2.2.2=true
   rw[kR _ rfl]
theorem aI0 (s:ByteArray):(k:Nat)→(p:Int)→0≤p→p≤s.size→∀ q,nN s k p=some q→q.1.length=k∧p≤q.2∧q.2≤s.size
 | 0,p,h0,h1,q,h=>by
  unfold nN at h
  cases h
  exact ⟨rfl,Int.le_refl _,h1⟩
 | k+1,p,h0,h1,q,h=>by
  rw[nN] at h
  split at h
  ·rename_i n hn
   have hp:=kF hn
   split at h
   ·rw[Option.map_eq_some_iff] at h
    obtain ⟨q',h2,rfl⟩:=h
    obtain ⟨i1,i2,i3⟩:=aI0 s k (p+8) (by omega) (by omega) q' h2
    exact ⟨by simp[i1],by show p≤q'.2;omega,i3⟩
   ·cases h
  ·cases h
theorem aVN {s:ByteArray} {p:Int} {q:List Int × Int} (h:yS s p=some q):q.1.length≤200∧p≤q.2∧q.2≤s.size∧0≤p:=by
 unfold yS at h
 split at h
 ·rename_i n hn
  have hp:=kF hn
  split at h
  ·obtain ⟨h1,h2,h3⟩:=aI0 s n.toNat (p+8) (by omega) (by omega) q h
   exact ⟨by omega,by omega,h3,hp.1⟩
  ·cases h
 ·cases h
def dL:Con:=⟨58,(.aWS (.aWS .str (.aWS tI .bool)) aJ),(.aWS tI (.aWS .str (.aWS tI .bool))),[.box 68 ⟨true,(.aWS .str (.aWS tI .bool)),[]⟩,.val ⟨false,tI,[]⟩,.val ⟨false,tI,[]⟩],[⟨false,tI,[0]⟩],false,none,
 ((fun x=>lM x.1):(((ByteArray) × (Int × Bool)) × jR)→Prop),
 ((fun x=>fM x.1 x.2.1 x.2.2):(((ByteArray) × (Int × Bool)) × jR)→(Int × ((ByteArray) × (Int × Bool))))⟩
def kY:T:=.ite (aG (.aWS .str (.aWS tI .bool)) 2 (.p1 (.aWS .str (.aWS tI .bool)) aJ (.Z 0))) (.ret (aQ (.aWS tI (.aWS .str (.aWS tI .bool))) [(.ci .i64 0),(.p1 .str (.aWS tI .bool) (.p1 (.aWS .str (.aWS tI .bool)) aJ (.Z 0))),(aO (.aWS .str (.aWS tI .bool)) 1 (.p1 (.aWS .str (.aWS tI .bool)) aJ (.Z 0))),(.cb true)])) (
 .aWT .slen (.p1 .str (.aWS tI .bool) (.p1 (.aWS .str (.aWS tI .bool)) aJ (.Z 0))) <|
 .aWT (.ar .sub .i64) (.aWU tI tI (.Z 1) (aO (.aWS .str (.aWS tI .bool)) 1 (.p1 (.aWS .str (.aWS tI .bool)) aJ (.Z 0)))) <|
 .aWT (.cmp .lss .i64) (.aWU tI tI (.Z 2) (.ci .i64 8)) <|
 .ite (.Z 3) (
  .ret (aQ (.aWS tI (.aWS .str (.aWS tI .bool))) [(.ci .i64 0),(.p1 .str (.aWS tI .bool) (.p1 (.aWS .str (.aWS tI .bool)) aJ (.Z 0))),(aO (.aWS .str (.aWS tI .bool)) 1 (.p1 (.aWS .str (.aWS tI .bool)) aJ (.Z 0))),(.cb true)])) (
  .aWT .sidx (.aWU .str tI (.p1 .str (.aWS tI .bool) (.p1 (.aWS .str (.aWS tI .bool)) aJ (.Z 0))) (aO (.aWS .str (.aWS tI .bool)) 1 (.p1 (.aWS .str (.aWS tI .bool)) aJ (.Z 0)))) <|
  .aWT (.ar .add .i64) (.aWU tI tI (aO (.aWS .str (.aWS tI .bool)) 1 (.p1 (.aWS .str (.aWS tI .bool)) aJ (.Z 0))) (.ci .i64 1)) <|
  .aWT .slen (.p1 .str (.aWS tI .bool) (.p1 (.aWS .str (.aWS tI .bool)) aJ (.Z 0))) <|
  .aWT .ssub (aQ (.aWS .str aJ) [(.p1 .str (.aWS tI .bool) (.p1 (.aWS .str (.aWS tI .bool)) aJ (.Z 0))),(.Z 5),(.Z 6)]) <|
  .call 0 (.aWU .str tI (.Z 7) (.ci .i64 7)) <|
  .aWT (.cmp .eql .u8) (.aWU (.int .u8) (.int .u8) (.Z 4) (.ci .u8 45)) <|
  .ite (.Z 9) (
   .aWT (.neg .i64) (.p1 tI .bool (.Z 8)) <|
   .aWT (.cmp .neq .u8) (.aWU (.int .u8) (.int .u8) (.Z 4) (.ci .u8 43)) <|
   .ite (.Z 11) (
    .aWT (.cmp .neq .u8) (.aWU (.int .u8) (.int .u8) (.Z 4) (.ci .u8 45)) <|
    .ite (.Z 12) (
     .ret (aQ (.aWS tI (.aWS .str (.aWS tI .bool))) [(.ci .i64 0),(.p1 .str (.aWS tI .bool) (.p1 (.aWS .str (.aWS tI .bool)) aJ (.Z 0))),(aO (.aWS .str (.aWS tI .bool)) 1 (.p1 (.aWS .str (.aWS tI .bool)) aJ (.Z 0))),(.cb true)])) (
     .aWT (.cmp .eql .i64) (.aWU tI tI (.Z 10) (.ci .i64 0)) <|
     .ite (.Z 13) (
      .ret (aQ (.aWS tI (.aWS .str (.aWS tI .bool))) [(.ci .i64 0),(.p1 .str (.aWS tI .bool) (.p1 (.aWS .str (.aWS tI .bool)) aJ (.Z 0))),(aO (.aWS .str (.aWS tI .bool)) 1 (.p1 (.aWS .str (.aWS tI .bool)) aJ (.Z 0))),(.cb true)])) (
      .aWT (.cmp .lss .i64) (.aWU tI tI (.Z 10) (aO (.aWS (.aWS .str (.aWS tI .bool)) aJ) 1 (.Z 0))) <|
      .ite (.Z 14) (
       .ret (aQ (.aWS tI (.aWS .str (.aWS tI .bool))) [(.ci .i64 0),(.p1 .str (.aWS tI .bool) (.p1 (.aWS .str (.aWS tI .bool)) aJ (.Z 0))),(aO (.aWS .str (.aWS tI .bool)) 1 (.p1 (.aWS .str (.aWS tI .bool)) aJ (.Z 0))),(.cb true)])) (
       .aWT (.cmp .gtr .i64) (.aWU tI tI (.Z 10) (aG (.aWS (.aWS .str (.aWS tI .bool)) aJ) 2 (.Z 0))) <|
       .ite (.Z 15) (
        .ret (aQ (.aWS tI (.aWS .str (.aWS tI .bool))) [(.ci .i64 0),(.p1 .str (.aWS tI .bool) (.p1 (.aWS .str (.aWS tI .bool)) aJ (.Z 0))),(aO (.aWS .str (.aWS tI .bool)) 1 (.p1 (.aWS .str (.aWS tI .bool)) aJ (.Z 0))),(.cb true)])) (
        .aWT (.ar .add .i64) (.aWU tI tI (aO (.aWS .str (.aWS tI .bool)) 1 (.p1 (.aWS .str (.aWS tI .bool)) aJ (.Z 0))) (.ci .i64 8)) <|
        .ret (aQ (.aWS tI (.aWS .str (.aWS tI .bool))) [(.Z 10),(.p1 .str (.aWS tI .bool) (.p1 (.aWS .str (.aWS tI .bool)) aJ (.Z 0))),(.Z 16),(aG (.aWS .str (.aWS tI .bool)) 2 (.p1 (.aWS .str (.aWS tI .bool)) aJ (.Z 0)))])))))) (
    .aWT (.cmp .lss .i64) (.aWU tI tI (.Z 10) (aO (.aWS (.aWS .str (.aWS tI .bool)) aJ) 1 (.Z 0))) <|
    .ite (.Z 12) (
     .ret (aQ (.aWS tI (.aWS .str (.aWS tI .bool))) [(.ci .i64 0),(.p1 .str (.aWS tI .bool) (.p1 (.aWS .str (.aWS tI .bool)) aJ (.Z 0))),(aO (.aWS .str (.aWS tI .bool)) 1 (.p1 (.aWS .str (.aWS tI .bool)) aJ (.Z 0))),(.cb true)])) (
     .aWT (.cmp .gtr .i64) (.aWU tI tI (.Z 10) (aG (.aWS (.aWS .str (.aWS tI .bool)) aJ) 2 (.Z 0))) <|
     .ite (.Z 13) (
      .ret (aQ (.aWS tI (.aWS .str (.aWS tI .bool))) [(.ci .i64 0),(.p1 .str (.aWS tI .bool) (.p1 (.aWS .str (.aWS tI .bool)) aJ (.Z 0))),(aO (.aWS .str (.aWS tI .bool)) 1 (.p1 (.aWS .str (.aWS tI .bool)) aJ (.Z 0))),(.cb true)])) (
      .aWT (.ar .add .i64) (.aWU tI tI (aO (.aWS .str (.aWS tI .bool)) 1 (.p1 (.aWS .str (.aWS tI .bool)) aJ (.Z 0))) (.ci .i64 8)) <|
      .ret (aQ (.aWS tI (.aWS .str (.aWS tI .bool))) [(.Z 10),(.p1 .str (.aWS tI .bool) (.p1 (.aWS .str (.aWS tI .bool)) aJ (.Z 0))),(.Z 14),(aG (.aWS .str (.aWS tI .bool)) 2 (.p1 (.aWS .str (.aWS tI .bool)) aJ (.Z 0)))]))))) (
   .aWT (.cmp .neq .u8) (.aWU (.int .u8) (.int .u8) (.Z 4) (.ci .u8 43)) <|
   .ite (.Z 10) (
    .aWT (.cmp .neq .u8) (.aWU (.int .u8) (.int .u8) (.Z 4) (.ci .u8 45)) <|
    .ite (.Z 11) (
     .ret (aQ (.aWS tI (.aWS .str (.aWS tI .bool))) [(.ci .i64 0),(.p1 .str (.aWS tI .bool) (.p1 (.aWS .str (.aWS tI .bool)) aJ (.Z 0))),(aO (.aWS .str (.aWS tI .bool)) 1 (.p1 (.aWS .str (.aWS tI .bool)) aJ (.Z 0))),(.cb true)])) (
     .aWT (.cmp .eql .i64) (.aWU tI tI (.p1 tI .bool (.Z 8)) (.ci .i64 0)) <|
     .ite (.Z 12) (
      .ret (aQ (.aWS tI (.aWS .str (.aWS tI .bool))) [(.ci .i64 0),(.p1 .str (.aWS tI .bool) (.p1 (.aWS .str (.aWS tI .bool)) aJ (.Z 0))),(aO (.aWS .str (.aWS tI .bool)) 1 (.p1 (.aWS .str (.aWS tI .bool)) aJ (.Z 0))),(.cb true)])) (
      .aWT (.cmp .lss .i64) (.aWU tI tI (.p1 tI .bool (.Z 8)) (aO (.aWS (.aWS .str (.aWS tI .bool)) aJ) 1 (.Z 0))) <|
      .ite (.Z 13) (
       .ret (aQ (.aWS tI (.aWS .str (.aWS tI .bool))) [(.ci .i64 0),(.p1 .str (.aWS tI .bool) (.p1 (.aWS .str (.aWS tI .bool)) aJ (.Z 0))),(aO (.aWS .str (.aWS tI .bool)) 1 (.p1 (.aWS .str (.aWS tI .bool)) aJ (.Z 0))),(.cb true)])) (
       .aWT (.cmp .gtr .i64) (.aWU tI tI (.p1 tI .bool (.Z 8)) (aG (.aWS (.aWS .str (.aWS tI .bool)) aJ) 2 (.Z 0))) <|
       .ite (.Z 14) (
        .ret (aQ (.aWS tI (.aWS .str (.aWS tI .bool))) [(.ci .i64 0),(.p1 .str (.aWS tI .bool) (.p1 (.aWS .str (.aWS tI .bool)) aJ (.Z 0))),(aO (.aWS .str (.aWS tI .bool)) 1 (.p1 (.aWS .str (.aWS tI .bool)) aJ (.Z 0))),(.cb true)])) (
        .aWT (.ar .add .i64) (.aWU tI tI (aO (.aWS .str (.aWS tI .bool)) 1 (.p1 (.aWS .str (.aWS tI .bool)) aJ (.Z 0))) (.ci .i64 8)) <|
        .ret (aQ (.aWS tI (.aWS .str (.aWS tI .bool))) [(.p1 tI .bool (.Z 8)),(.p1 .str (.aWS tI .bool) (.p1 (.aWS .str (.aWS tI .bool)) aJ (.Z 0))),(.Z 15),(aG (.aWS .str (.aWS tI .bool)) 2 (.p1 (.aWS .str (.aWS tI .bool)) aJ (.Z 0)))])))))) (
    .aWT (.cmp .lss .i64) (.aWU tI tI (.p1 tI .bool (.Z 8)) (aO (.aWS (.aWS .str (.aWS tI .bool)) aJ) 1 (.Z 0))) <|
    .ite (.Z 11) (
     .ret (aQ (.aWS tI (.aWS .str (.aWS tI .bool))) [(.ci .i64 0),(.p1 .str (.aWS tI .bool) (.p1 (.aWS .str (.aWS tI .bool)) aJ (.Z 0))),(aO (.aWS .str (.aWS tI .bool)) 1 (.p1 (.aWS .str (.aWS tI .bool)) aJ (.Z 0))),(.cb true)])) (
     .aWT (.cmp .gtr .i64) (.aWU tI tI (.p1 tI .bool (.Z 8)) (aG (.aWS (.aWS .str (.aWS tI .bool)) aJ) 2 (.Z 0))) <|
     .ite (.Z 12) (
      .ret (aQ (.aWS tI (.aWS .str (.aWS tI .bool))) [(.ci .i64 0),(.p1 .str (.aWS tI .bool) (.p1 (.aWS .str (.aWS tI .bool)) aJ (.Z 0))),(aO (.aWS .str (.aWS tI .bool)) 1 (.p1 (.aWS .str (.aWS tI .bool)) aJ (.Z 0))),(.cb true)])) (
      .aWT (.ar .add .i64) (.aWU tI tI (aO (.aWS .str (.aWS tI .bool)) 1 (.p1 (.aWS .str (.aWS tI .bool)) aJ (.Z 0))) (.ci .i64 8)) <|
      .ret (aQ (.aWS tI (.aWS .str (.aWS tI .bool))) [(.p1 tI .bool (.Z 8)),(.p1 .str (.aWS tI .bool) (.p1 (.aWS .str (.aWS tI .bool)) aJ (.Z 0))),(.Z 13),(aG (.aWS .str (.aWS tI .bool)) 2 (.p1 (.aWS .str (.aWS tI .bool)) aJ (.Z 0)))])))))))
theorem yR:cW Tryz.prog [jV] dL false 3000 ⟨[],[]⟩ = .ok kY:=by kernel_rfl
set_option maxHeartbeats 4000000 in
theorem xS (x:((ByteArray) × (Int × Bool)) × jR) (hx:okD (.aWS (.aWS .str (.aWS tI .bool)) aJ) x) (hp:(fun x=>lM x.1) x):kY.wp [jV] [⟨(.aWS (.aWS .str (.aWS tI .bool)) aJ),x⟩] [] (fun v=>v.as (.aWS tI (.aWS .str (.aWS tI .bool)))=(fun x=>fM x.1 x.2.1 x.2.2) x):=by
 obtain ⟨⟨s,p,b⟩,lo,hi⟩:=x
 obtain ⟨h1,h2⟩:0≤p∧p≤s.size:=hp
 have hs:s.size≤9223372036854775807:=by have:s.size≤maxLen:=hx.1.1;unfold maxLen at this;omega
 delta kY jV;refine jN ?_
 cases b with
 | true=>exact ⟨fun _=>by unfold fM;rw[if_pos rfl],fun h=>by cases h⟩
 | false =>
  by_cases hc:p+8≤s.size
  ·have e:=aJO h1 hc
   have a1:=aGQ h1 hc
   have a2:=aH4 h1 hc
   have a3:=aO5 (s:=s) (p:=p)
   have hb:=aF9 (s.extract (p+1).toNat s.size) (show 7≤7 by decide)
   have e1:((s.size:Int)).toNat=s.size:=by omega
   have es:=aDY s (p+1).toNat (by omega)
   rw[e1,e]
   generalize rdN (s.extract (p+1).toNat s.size) 7=N at a1 a2 a3 hb ⊢
   (refine gJ ?_;try with_reducible exact True.intro)
   (repeat' first|intro _|(with_reducible apply And.intro))
   all_goals first|omega|contradiction|exact aH9 (a3 (by omega))|exact aHV (a1 (by omega)) (by omega)|exact aHV (a2 (by omega) (by omega)) (by omega)|exact aD4 (a1 (by omega)) (by omega) (by omega)|exact aD4 (a2 (by omega) (by omega)) (by omega) (by omega)
  ·(refine gJ ?_;try with_reducible exact True.intro)
   have a3:gX s p=none:=aCJ (by omega)
   exact ⟨fun h=>(by cases h),fun _ _=>⟨by omega,fun _=>⟨fun _=>aH9 a3,fun h=>(by omega)⟩⟩⟩
set_option maxHeartbeats 4000000 in
theorem pS:Con.Holds Tryz.prog dL:=aX bI (aR aEI aY) yR xS
def bS:Con:=⟨31,(.aWS .str (.aWS tI .bool)),(.aWS aA (.aWS .str (.aWS tI .bool))),[.box 68 ⟨true,(.aWS .str (.aWS tI .bool)),[]⟩],[⟨false,aA,[2]⟩],false,none,
 ((fun x=>lM x):((ByteArray) × (Int × Bool))→Prop),
 ((fun x=>eB x):((ByteArray) × (Int × Bool))→(fN × ((ByteArray) × (Int × Bool))))⟩
def oK:T:=.call 0 (aQ (.aWS (.aWS .str (.aWS tI .bool)) aJ) [(.Z 0),(.ci .i64 0),(.ci .i64 200)]) <|.loop (.aWS tI (.aWS .str (.aWS tI (.aWS .bool aA)))) (aQ (.aWS tI (.aWS .str (.aWS tI (.aWS .bool aA)))) [(.ci .i64 0),(aO (.aWS tI (.aWS .str (.aWS tI .bool))) 1 (.Z 1)),(aO (.aWS tI (.aWS .str (.aWS tI .bool))) 2 (.Z 1)),(aG (.aWS tI (.aWS .str (.aWS tI .bool))) 3 (.Z 1)),(.nl 3 tI)]) <|
 .aWT (.cmp .lss .i64) (.aWU tI tI (.p1 tI (.aWS .str (.aWS tI (.aWS .bool aA))) (.Z 2)) (.p1 tI (.aWS .str (.aWS tI .bool)) (.Z 1))) <|
 .ite (.Z 3) (
  .aWT .not (aO (.aWS tI (.aWS .str (.aWS tI (.aWS .bool aA)))) 3 (.Z 2)) <|
  .ite (.Z 4) (
   .call 0 (aQ (.aWS (.aWS .str (.aWS tI .bool)) aJ) [(aQ (.aWS .str (.aWS tI .bool)) [(aO (.aWS tI (.aWS .str (.aWS tI (.aWS .bool aA)))) 1 (.Z 2)),(aO (.aWS tI (.aWS .str (.aWS tI (.aWS .bool aA)))) 2 (.Z 2)),(aO (.aWS tI (.aWS .str (.aWS tI (.aWS .bool aA)))) 3 (.Z 2))]),(.ci .i64 (-1000000000000)),(.ci .i64 1000000000000)]) <|
   .aWT (.lit 3 tI 1) (.p1 tI (.aWS .str (.aWS tI .bool)) (.Z 5)) <|
   .aWT (.aWZ 3 tI 8) (.aWU aA aA (aG (.aWS tI (.aWS .str (.aWS tI (.aWS .bool aA)))) 4 (.Z 2)) (.Z 6)) <|
   .aWT (.ar .add .i64) (.aWU tI tI (.p1 tI (.aWS .str (.aWS tI (.aWS .bool aA))) (.Z 2)) (.ci .i64 1)) <|
   .aWV 0 (aQ (.aWS tI (.aWS .str (.aWS tI (.aWS .bool aA)))) [(.Z 8),(aO (.aWS tI (.aWS .str (.aWS tI .bool))) 1 (.Z 5)),(aO (.aWS tI (.aWS .str (.aWS tI .bool))) 2 (.Z 5)),(aG (.aWS tI (.aWS .str (.aWS tI .bool))) 3 (.Z 5)),(.Z 7)])) (
   .ret (aQ (.aWS aA (.aWS .str (.aWS tI .bool))) [(aG (.aWS tI (.aWS .str (.aWS tI (.aWS .bool aA)))) 4 (.Z 2)),(aO (.aWS tI (.aWS .str (.aWS tI (.aWS .bool aA)))) 1 (.Z 2)),(aO (.aWS tI (.aWS .str (.aWS tI (.aWS .bool aA)))) 2 (.Z 2)),(aO (.aWS tI (.aWS .str (.aWS tI (.aWS .bool aA)))) 3 (.Z 2))]))) (
  .ret (aQ (.aWS aA (.aWS .str (.aWS tI .bool))) [(aG (.aWS tI (.aWS .str (.aWS tI (.aWS .bool aA)))) 4 (.Z 2)),(aO (.aWS tI (.aWS .str (.aWS tI (.aWS .bool aA)))) 1 (.Z 2)),(aO (.aWS tI (.aWS .str (.aWS tI (.aWS .bool aA)))) 2 (.Z 2)),(aO (.aWS tI (.aWS .str (.aWS tI (.aWS .bool aA)))) 3 (.Z 2))]))
theorem aCR:cW Tryz.prog [dL] bS false 3000 ⟨[(2989,1002,fG 8 6++[.tm 5 0,.on 3,.bx 1 0,.bx 1 1,.bx 1 2,.sl 2])],[]⟩ = .ok oK:=by kernel_rfl
theorem aC3 (x:(ByteArray) × (Int × Bool)) (hx:okD (.aWS .str (.aWS tI .bool)) x) (hp:(fun x=>lM x) x):oK.wp [dL] [⟨(.aWS .str (.aWS tI .bool)),x⟩] [] (fun v=>v.as (.aWS aA (.aWS .str (.aWS tI .bool)))=(fun x=>eB x) x):=by
 have hp:lM x:=hp
 delta oK dL;refine jN ?_
 have h1:=aAC hp 0 200
 have hb:=aNO x 0 200
 refine ⟨hp,fun _=>?_⟩
 refine ⟨fun t=>∃ k:Nat,t.1=(k:Int)∧(k:Int)≤(fM x 0 200).1∧List.length t.2.2.2.2≤k∧lM (t.2.1,t.2.2.1,t.2.2.2.1)∧eB x=(t.2.2.2.2++(jG ((fM x 0 200).1.toNat - k) (t.2.1,t.2.2.1,t.2.2.2.1)).1,(jG ((fM x 0 200).1.toNat - k) (t.2.1,t.2.2.1,t.2.2.2.1)).2),fun t=>((fM x 0 200).1 - t.1:Int).toNat,⟨0,rfl,by omega,Nat.le_refl _,h1.1,rfl⟩,fun t _ hI=>?_⟩
 obtain ⟨i,s,p,b,acc⟩:Int × (ByteArray × (Int × (Bool × List Int))):=t
 obtain ⟨k,rfl,hk,hl,hP,hv⟩:=hI
 dsimp only at hk hl hP hv ⊢
 generalize hn:(fM x 0 200).1=n at hb hk hv ⊢
 constructor
 ·intro hlt
  rw[decide_eq_true_eq] at hlt
  constructor
  ·intro hb2
   obtain rfl:b=false:=by simpa using hb2
   have hP2:=aAC hP (-1000000000000) 1000000000000
   obtain ⟨m,hm⟩:∃ m,n.toNat - k=m+1:=⟨n.toNat - k - 1,by omega⟩
   rw[hm,uO m rfl] at hv
   (refine gJ ?_;try with_reducible exact True.intro)
   (repeat' first|intro _|(with_reducible apply And.intro))
   all_goals first|omega|exact hP|(unfold maxLen;omega)|skip
   refine ⟨k+1,rfl,by omega,Nat.succ_le_succ hl,hP2.1,?_⟩
   rw[show n.toNat - (k+1)=m by omega,hv]
   simp
  ·intro hb2
   obtain rfl:b=true:=by simpa using hb2
   rw[kR _ rfl] at hv
   rw[hv];simp
 ·intro hge
  rw[decide_eq_false_iff_not] at hge
  rw[show n.toNat - k=0 by omega] at hv
  rw[hv];simp[jG]
theorem iY:Con.Holds Tryz.prog bS:=aX bI (aR pS aY) aCR aC3
def iX:Con:=⟨50,(.aWS .str tI),aJ,[.val ⟨false,.str,[]⟩,.val ⟨false,tI,[]⟩],[⟨false,tI,[0]⟩,⟨false,tI,[0]⟩],false,none,
 ((fun x=>-1≤x.2∧x.2≤x.1.size):((ByteArray) × Int)→Prop),
 ((fun x=>nQ x.1 x.2):((ByteArray) × Int)→(Int × Int))⟩
def xE:T :=
 .aWT (.cmp .lss .i64) (.aWU tI tI (aG (.aWS .str tI) 1 (.Z 0)) (.ci .i64 0)) <|
 .ite (.Z 1) (
  .ret (.aWU tI tI (.ci .i64 0) (.ci .i64 (-1)))) (
  .aWT .slen (.p1 .str tI (.Z 0)) <|
  .aWT (.ar .sub .i64) (.aWU tI tI (.Z 2) (aG (.aWS .str tI) 1 (.Z 0))) <|
  .aWT (.cmp .lss .i64) (.aWU tI tI (.Z 3) (.ci .i64 8)) <|
  .ite (.Z 4) (
   .ret (.aWU tI tI (.ci .i64 0) (.ci .i64 (-1)))) (
   .aWT .sidx (.aWU .str tI (.p1 .str tI (.Z 0)) (aG (.aWS .str tI) 1 (.Z 0))) <|
   .aWT (.cmp .neq .u8) (.aWU (.int .u8) (.int .u8) (.Z 5) (.ci .u8 43)) <|
   .ite (.Z 6) (
    .aWT .sidx (.aWU .str tI (.p1 .str tI (.Z 0)) (aG (.aWS .str tI) 1 (.Z 0))) <|
    .aWT (.cmp .neq .u8) (.aWU (.int .u8) (.int .u8) (.Z 7) (.ci .u8 45)) <|
    .ite (.Z 8) (
     .ret (.aWU tI tI (.ci .i64 0) (.ci .i64 (-1)))) (
     .aWT (.ar .add .i64) (.aWU tI tI (aG (.aWS .str tI) 1 (.Z 0)) (.ci .i64 1)) <|
     .aWT .slen (.p1 .str tI (.Z 0)) <|
     .aWT .ssub (aQ (.aWS .str aJ) [(.p1 .str tI (.Z 0)),(.Z 9),(.Z 10)]) <|
     .call 0 (.aWU .str tI (.Z 11) (.ci .i64 7)) <|
     .aWT .not (aG (.aWS tI .bool) 1 (.Z 12)) <|
     .ite (.Z 13) (
      .ret (.aWU tI tI (.ci .i64 0) (.ci .i64 (-1)))) (
      .aWT .sidx (.aWU .str tI (.p1 .str tI (.Z 0)) (aG (.aWS .str tI) 1 (.Z 0))) <|
      .aWT (.cmp .eql .u8) (.aWU (.int .u8) (.int .u8) (.Z 14) (.ci .u8 45)) <|
      .ite (.Z 15) (
       .aWT (.cmp .eql .i64) (.aWU tI tI (.p1 tI .bool (.Z 12)) (.ci .i64 0)) <|
       .ite (.Z 16) (
        .ret (.aWU tI tI (.ci .i64 0) (.ci .i64 (-1)))) (
        .aWT .sidx (.aWU .str tI (.p1 .str tI (.Z 0)) (aG (.aWS .str tI) 1 (.Z 0))) <|
        .aWT (.cmp .eql .u8) (.aWU (.int .u8) (.int .u8) (.Z 17) (.ci .u8 45)) <|
        .ite (.Z 18) (
         .aWT (.neg .i64) (.p1 tI .bool (.Z 12)) <|
         .aWT (.ar .add .i64) (.aWU tI tI (aG (.aWS .str tI) 1 (.Z 0)) (.ci .i64 8)) <|
         .ret (.aWU tI tI (.Z 19) (.Z 20))) (
         .aWT (.ar .add .i64) (.aWU tI tI (aG (.aWS .str tI) 1 (.Z 0)) (.ci .i64 8)) <|
         .ret (.aWU tI tI (.p1 tI .bool (.Z 12)) (.Z 19))))) (
       .aWT .sidx (.aWU .str tI (.p1 .str tI (.Z 0)) (aG (.aWS .str tI) 1 (.Z 0))) <|
       .aWT (.cmp .eql .u8) (.aWU (.int .u8) (.int .u8) (.Z 16) (.ci .u8 45)) <|
       .ite (.Z 17) (
        .aWT (.neg .i64) (.p1 tI .bool (.Z 12)) <|
        .aWT (.ar .add .i64) (.aWU tI tI (aG (.aWS .str tI) 1 (.Z 0)) (.ci .i64 8)) <|
        .ret (.aWU tI tI (.Z 18) (.Z 19))) (
        .aWT (.ar .add .i64) (.aWU tI tI (aG (.aWS .str tI) 1 (.Z 0)) (.ci .i64 8)) <|
        .ret (.aWU tI tI (.p1 tI .bool (.Z 12)) (.Z 18))))))) (
    .aWT (.ar .add .i64) (.aWU tI tI (aG (.aWS .str tI) 1 (.Z 0)) (.ci .i64 1)) <|
    .aWT .slen (.p1 .str tI (.Z 0)) <|
    .aWT .ssub (aQ (.aWS .str aJ) [(.p1 .str tI (.Z 0)),(.Z 7),(.Z 8)]) <|
    .call 0 (.aWU .str tI (.Z 9) (.ci .i64 7)) <|
    .aWT .not (aG (.aWS tI .bool) 1 (.Z 10)) <|
    .ite (.Z 11) (
     .ret (.aWU tI tI (.ci .i64 0) (.ci .i64 (-1)))) (
     .aWT .sidx (.aWU .str tI (.p1 .str tI (.Z 0)) (aG (.aWS .str tI) 1 (.Z 0))) <|
     .aWT (.cmp .eql .u8) (.aWU (.int .u8) (.int .u8) (.Z 12) (.ci .u8 45)) <|
     .ite (.Z 13) (
      .aWT (.cmp .eql .i64) (.aWU tI tI (.p1 tI .bool (.Z 10)) (.ci .i64 0)) <|
      .ite (.Z 14) (
       .ret (.aWU tI tI (.ci .i64 0) (.ci .i64 (-1)))) (
       .aWT .sidx (.aWU .str tI (.p1 .str tI (.Z 0)) (aG (.aWS .str tI) 1 (.Z 0))) <|
       .aWT (.cmp .eql .u8) (.aWU (.int .u8) (.int .u8) (.Z 15) (.ci .u8 45)) <|
       .ite (.Z 16) (
        .aWT (.neg .i64) (.p1 tI .bool (.Z 10)) <|
        .aWT (.ar .add .i64) (.aWU tI tI (aG (.aWS .str tI) 1 (.Z 0)) (.ci .i64 8)) <|
        .ret (.aWU tI tI (.Z 17) (.Z 18))) (
        .aWT (.ar .add .i64) (.aWU tI tI (aG (.aWS .str tI) 1 (.Z 0)) (.ci .i64 8)) <|
        .ret (.aWU tI tI (.p1 tI .bool (.Z 10)) (.Z 17))))) (
      .aWT .sidx (.aWU .str tI (.p1 .str tI (.Z 0)) (aG (.aWS .str tI) 1 (.Z 0))) <|
      .aWT (.cmp .eql .u8) (.aWU (.int .u8) (.int .u8) (.Z 14) (.ci .u8 45)) <|
      .ite (.Z 15) (
       .aWT (.neg .i64) (.p1 tI .bool (.Z 10)) <|
       .aWT (.ar .add .i64) (.aWU tI tI (aG (.aWS .str tI) 1 (.Z 0)) (.ci .i64 8)) <|
       .ret (.aWU tI tI (.Z 16) (.Z 17))) (
       .aWT (.ar .add .i64) (.aWU tI tI (aG (.aWS .str tI) 1 (.Z 0)) (.ci .i64 8)) <|
       .ret (.aWU tI tI (.p1 tI .bool (.Z 10)) (.Z 16))))))))
theorem aM8:cW Tryz.prog [jX] iX false 3000 ⟨[],[]⟩ = .ok xE:=by kernel_rfl
set_option maxHeartbeats 4000000 in
theorem aN7 (x:(ByteArray) × Int) (hx:okD (.aWS .str tI) x) (hp:(fun x=>-1≤x.2∧x.2≤x.1.size) x):xE.wp [jX] [⟨(.aWS .str tI),x⟩] [] (fun v=>v.as aJ=(fun x=>nQ x.1 x.2) x):=by
 obtain ⟨s,p⟩:=x
 obtain ⟨h1,h2⟩:-1≤p∧p≤s.size:=hp
 have hs:s.size≤9223372036854775807:=by have:s.size≤maxLen:=hx.1;unfold maxLen at this;omega
 delta xE jX;refine jN ?_
 have n0:gX s p=none→(0,-1)=nQ s p:=fun h=>by unfold nQ;rw[h]
 have n1:∀ n,gX s p=some n→(n,p+8)=nQ s p:=fun n h=>by unfold nQ;rw[h]
 by_cases hc:0≤p∧p+8≤s.size
 ·have e:=aJO hc.1 hc.2
  have a1:=aGQ hc.1 hc.2
  have a2:=aH4 hc.1 hc.2
  have a3:=aO5 (s:=s) (p:=p)
  have hb:=aF9 (s.extract (p+1).toNat s.size) (show 7≤7 by decide)
  have e1:((s.size:Int)).toNat=s.size:=by omega
  have es:=aDY s (p+1).toNat (by omega)
  rw[e1,e]
  generalize rdN (s.extract (p+1).toNat s.size) 7=N at a1 a2 a3 hb ⊢
  (refine gJ ?_;try with_reducible exact True.intro)
  (repeat' first|intro _|(with_reducible apply And.intro))
  all_goals first|omega|contradiction|exact n0 (a3 (by omega))|exact n1 _ (a1 (by omega))|exact n1 _ (a2 (by omega) (by omega))
 ·have a3:=n0 (aCJ hc)
  (refine gJ ?_;try with_reducible exact True.intro)
  (repeat' first|intro _|(with_reducible apply And.intro))
  all_goals first|omega|exact a3
set_option maxHeartbeats 4000000 in
theorem aDF:Con.Holds Tryz.prog iX:=aX bI (aR aEQ aY) aM8 aN7
def dE:Con:=⟨26,(.aWS .str tI),(.aWS aA tI),[.val ⟨false,.str,[]⟩,.val ⟨false,tI,[]⟩],[⟨false,aA,[2]⟩,⟨false,tI,[0]⟩],false,none,
 ((fun x=>-1≤x.2∧x.2≤x.1.size):((ByteArray) × Int)→Prop),
 ((fun x=>fI x.1 x.2):((ByteArray) × Int)→(fN × Int))⟩
def wG:T:=.call 0 (.Z 0) <|
 .aWT (.cmp .lss .i64) (.aWU tI tI (aG aJ 1 (.Z 1)) (.ci .i64 0)) <|
 .ite (.Z 2) (
  .ret (.aWU aA tI (.nl 3 tI) (.ci .i64 (-1)))) (
  .call 1 (aQ (.aWS tI aJ) [(.p1 tI tI (.Z 1)),(.ci .i64 0),(.ci .i64 200)]) <|
  .aWT .not (.Z 3) <|
  .ite (.Z 4) (
   .ret (.aWU aA tI (.nl 3 tI) (.ci .i64 (-1)))) (
   .loop (.aWS tI aP) (aQ (.aWS tI aP) [(.ci .i64 0),(aG aJ 1 (.Z 1)),(.nl 3 tI)]) <|
    .aWT (.cmp .lss .i64) (.aWU tI tI (.p1 tI aP (.Z 5)) (.p1 tI tI (.Z 1))) <|
    .ite (.Z 6) (
     .call 0 (.aWU .str tI (.p1 .str tI (.Z 0)) (aO (.aWS tI aP) 1 (.Z 5))) <|
     .aWT (.cmp .lss .i64) (.aWU tI tI (aG aJ 1 (.Z 7)) (.ci .i64 0)) <|
     .ite (.Z 8) (
      .ret (.aWU aA tI (.nl 3 tI) (.ci .i64 (-1)))) (
      .call 2 (.p1 tI tI (.Z 7)) <|
      .aWT .not (.Z 9) <|
      .ite (.Z 10) (
       .ret (.aWU aA tI (.nl 3 tI) (.ci .i64 (-1)))) (
       .aWT (.lit 3 tI 1) (.p1 tI tI (.Z 7)) <|
       .aWT (.aWZ 3 tI 8) (.aWU aA aA (aG (.aWS tI aP) 2 (.Z 5)) (.Z 11)) <|
       .aWT (.ar .add .i64) (.aWU tI tI (.p1 tI aP (.Z 5)) (.ci .i64 1)) <|
       .aWV 0 (aQ (.aWS tI aP) [(.Z 13),(aG aJ 1 (.Z 7)),(.Z 12)])))) (
     .ret (.aWU aA tI (aG (.aWS tI aP) 2 (.Z 5)) (aO (.aWS tI aP) 1 (.Z 5))))))
theorem aNJ:cW Tryz.prog [iX,bO,fS] dE false 3000 ⟨[(2984,4005,fG 25 16++[.dr 12]++fG 15 13++[.dr 1,.tm 9 0,.on 8,.tm 7 0,.sl 1])],[]⟩ = .ok wG:=by kernel_rfl
theorem aM7 (x:(ByteArray) × Int) (hx:okD (.aWS .str tI) x) (hp:(fun x=>-1≤x.2∧x.2≤x.1.size) x):wG.wp [iX,bO,fS] [⟨(.aWS .str tI),x⟩] [] (fun v=>v.as (.aWS aA tI)=(fun x=>fI x.1 x.2) x):=by
 obtain ⟨s,p⟩:=x
 obtain ⟨h1,h2⟩:-1≤p∧p≤s.size:=hp
 delta wG iX bO fS;refine jN ?_
 refine ⟨⟨h1,h2⟩,fun _=>?_⟩
 cases hn:gX s p with
 | none =>
  have e:nQ s p=(0,-1):=by unfold nQ;rw[hn]
  have v:fI s p=([],-1):=by unfold fI yS;rw[hn];rfl
  rw[e,v]
  exact ⟨fun _=>rfl,fun h=>(by simp at h)⟩
 | some n =>
  have e:nQ s p=(n,p+8):=by unfold nQ;rw[hn]
  have hq:=kF hn
  rw[e]
  dsimp only
  refine ⟨fun h=>by rw[decide_eq_true_eq] at h;omega,fun _=>⟨fun h=>?_,fun h=>?_⟩⟩
  ·simp only[dzx] at h
   unfold fI yS
   rw[hn]
   dsimp only
   rw[if_neg (by omega)]
   rfl
  ·simp only[dzx] at h
   refine ⟨fun t=>∃ k:Nat,t.1=(k:Int)∧(k:Int)≤n∧List.length t.2.2=k∧@LE.le Int Int.instLEInt 0 t.2.1∧@LE.le Int Int.instLEInt t.2.1 s.size∧fI s p=((nN s (n.toNat - k) t.2.1).map fun q=>(t.2.2++q.1,q.2)).getD ([],-1),fun t=>(n - t.1:Int).toNat,⟨0,rfl,by omega,rfl,(show (0:Int)≤p+8 by omega),hq.2,?_⟩,fun t _ hI=>?_⟩
   ·unfold fI yS
    rw[hn]
    dsimp only
    rw[if_pos (by omega)]
    show _=(Option.map (fun q=>(q.1,q.2)) (nN s (n.toNat - 0) (p+8))).getD _
    rw[show n.toNat - 0=n.toNat by omega]
    cases nN s n.toNat (p+8) <;> rfl
   obtain ⟨i,pos,out⟩:Int × (Int × List Int):=t
   obtain ⟨k,rfl,hk,hl,hp1,hp2,hv⟩:=hI
   dsimp only at hk hl hp1 hp2 hv ⊢
   constructor
   ·intro hlt
    rw[decide_eq_true_eq] at hlt
    obtain ⟨m,hm⟩:∃ m,n.toNat - k=m+1:=⟨n.toNat - k - 1,by omega⟩
    rw[hm,nN] at hv
    refine ⟨⟨(show (-1:Int)≤pos by omega),hp2⟩,fun _=>?_⟩
    cases hx:gX s pos with
    | none =>
     have e:nQ s pos=(0,-1):=by unfold nQ;rw[hx]
     rw[hx] at hv
     rw[e,hv]
     exact ⟨fun _=>rfl,fun h=>(by simp at h)⟩
    | some y =>
     have e:nQ s pos=(y,pos+8):=by unfold nQ;rw[hx]
     have hy:=kF hx
     rw[hx] at hv
     rw[e]
     dsimp only at hv ⊢
     by_cases hs:gG y=true
     ·rw[if_pos hs] at hv
      (refine gJ ?_;try with_reducible exact True.intro)
      (repeat' first|intro _|(with_reducible apply And.intro))
      all_goals first|omega|(unfold maxLen;omega)|(simp_all;done)|skip
      refine ⟨k+1,rfl,by omega,congrArg (· + 1) hl,(show (0:Int)≤pos+8 by omega),(show pos+8≤(s.size:Int) by omega),?_⟩
      rw[show n.toNat - (k+1)=m by omega,hv]
      cases nN s m (pos+8) <;> simp
     ·rw[if_neg hs] at hv
      rw[hv]
      (refine gJ ?_;try with_reducible exact True.intro)
      (repeat' first|intro _|(with_reducible apply And.intro))
      all_goals first|omega|rfl|(simp_all;done)
   ·intro hge
    rw[decide_eq_false_iff_not] at hge
    rw[hv,show n.toNat - k=0 by omega]
    simp[nN]
theorem oW:Con.Holds Tryz.prog dE:=aX bI (aR aDF (aR iI (aR xM aY))) aNJ aM7
end
end Go.Proofs.YtlabadaccldkaaaGreat
