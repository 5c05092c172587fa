/- Read7: lemmas. No conditions. -/
import Derived.Test.YtlabadaccldkaaaGreatRead6
namespace Go.Proofs.YtlabadaccldkaaaGreat
set_option maxRecDepth 100000
open Go.ChangeShapes Go.WideShapes Go.ChangeAt Go.RowKit Go.Deep
set_option linter.unusedVariables false
set_option linter.unusedSimpArgs false
def PB (s:ByteArray) (p:Int):Prop:=-1≤p∧p≤s.size
def GdQ {α:Type} (s:ByteArray) (f:Int→α × Int):Prop:=∀ p,PB s p→PB s (f p).2∧(0≤(f p).2→0≤p∧p≤(f p).2)
def jP (s:ByteArray) (n p:Int):List Int × Int:=if (fI s p).2<0∨¬ ((fI s p).1.length:Int)=n then (List.replicate n.toNat 0,-1) else fI s p
def cU {α:Type} (f:Int→α × Int):Nat→Int→List α × Int
 | 0,p=>([],p)
 | k+1,p=>if p<0 then ([],p) else ((f p).1 :: (cU f k (f p).2).1,(cU f k (f p).2).2)
def cX (s:ByteArray) (p:Int):eT × Int:=cU (fI s) (min (nQ s p).1.toNat 100) (nQ s p).2
def aEE (s:ByteArray) (p:Int):jR × Int:=(((jP s 2 p).1.getD 0 0,(jP s 2 p).1.getD 1 0),(jP s 2 p).2)
def opQ (s:ByteArray) (p:Int):jT × Int:=(((jP s 3 p).1.getD 0 0,(jP s 3 p).1.getD 1 0,(jP s 3 p).1.getD 2 0,(fI s (jP s 3 p).2).1),(fI s (jP s 3 p).2).2)
def aES (s:ByteArray) (p:Int):fO × Int:=(((jP s 1 p).1.getD 0 0,(cX s (jP s 1 p).2).1),(cX s (jP s 1 p).2).2)
theorem aRR (s:ByteArray):GdQ s (nQ s):=fun p hp=>by
 unfold nQ
 cases h:gX s p with
 | none=>exact ⟨⟨by show (-1:Int)≤-1;omega,by show (-1:Int)≤s.size;omega⟩,fun h=>absurd (show (0:Int)≤-1 from h) (by decide)⟩
 | some n=>have:=kF h;exact ⟨⟨by show -1≤p+8;omega,by show p+8≤(s.size:Int);omega⟩,fun _=>⟨by omega,by show p≤p+8;omega⟩⟩
theorem jH (s:ByteArray):GdQ s (fI s):=fun p hp=>by
 unfold fI
 cases h:yS s p with
 | none=>exact ⟨⟨by decide,by show (-1:Int)≤s.size;omega⟩,fun h=>absurd h (by decide)⟩
 | some q=>have:=aVN h;exact ⟨⟨by show -1≤q.2;omega,by show q.2≤(s.size:Int);omega⟩,fun _=>⟨by omega,by show p≤q.2;omega⟩⟩
theorem qS (s:ByteArray) (n:Int):GdQ s (jP s n):=fun p hp=>by
 have h:=jH s p hp
 unfold jP
 split
 ·exact ⟨⟨by show (-1:Int)≤-1;omega,by show (-1:Int)≤s.size;omega⟩,fun h=>absurd (show (0:Int)≤-1 from h) (by decide)⟩
 ·exact h
theorem vE {α:Type} {s:ByteArray} {f:Int→α × Int} (hf:GdQ s f):(k:Nat)→GdQ s (cU f k)
 | 0=>fun p hp=>⟨hp,fun h=>⟨h,Int.le_refl _⟩⟩
 | k+1=>fun p hp=>by
  unfold cU
  split
  ·exact ⟨hp,fun h=>⟨h,Int.le_refl _⟩⟩
  ·have h1:=hf p hp
   have h2:=vE hf k _ h1.1
   exact ⟨h2.1,fun h=>by have:=h2.2 h;have:=h1.2 (by omega);exact ⟨by omega,by show p≤(cU f k (f p).2).2;omega⟩⟩
theorem mX (s:ByteArray):GdQ s (cX s):=fun p hp=>by
 have h1:=aRR s p hp
 have h2:=vE (jH s) (min (nQ s p).1.toNat 100) _ h1.1
 exact ⟨h2.1,fun h=>by have:=h2.2 h;have:=h1.2 (by omega);exact ⟨by omega,by show p≤(cU (fI s) _ _).2;omega⟩⟩
theorem tS {α β:Type} {s:ByteArray} {f:Int→α × Int} {g:Int→β × Int} (hf:GdQ s f) (hg:GdQ s g) {p:Int} (hp:PB s p):PB s (g (f p).2).2∧(0≤(g (f p).2).2→0≤p∧p≤(g (f p).2).2):=by
 have h1:=hf p hp
 have h2:=hg _ h1.1
 exact ⟨h2.1,fun h=>by have:=h2.2 h;have:=h1.2 (by omega);exact ⟨by omega,by omega⟩⟩
theorem aRL (s:ByteArray):GdQ s (aEE s):=fun p hp=>qS s 2 p hp
theorem aVD (s:ByteArray):GdQ s (opQ s):=fun p hp=>tS (qS s 3) (jH s) hp
theorem aS8 (s:ByteArray):GdQ s (aES s):=fun p hp=>tS (qS s 1) (mX s) hp
theorem rL {s:ByteArray} {n p:Int} (h:0≤n):((jP s n p).1.length:Int)=n:=by
 unfold jP
 split
 ·rw[List.length_replicate];omega
 ·rename_i h2;omega
theorem kS {α:Type} (f:Int→α × Int) (k:Nat) {p:Int} (h:p<0):cU f k p=([],p):=by
 cases k with
 | zero=>rfl
 | succ k=>unfold cU;rw[if_pos h]
theorem lD {α:Type} (f:Int→α × Int) (k:Nat) {p:Int} (h:0≤p):cU f (k+1) p=((f p).1 :: (cU f k (f p).2).1,(cU f k (f p).2).2):=by
 rw[cU,if_neg (by omega)]
def aHP (s:ByteArray) (h:List Int) (a:List jR) (b:List jT) (c:List fO) (p:Int):bA × Int :=
 ((h.getD 0 0,a,b,decide (h.getD 1 0=1),decide (h.getD 2 0=1),c,(cX s p).1,(fI s (cX s p).2).1,(fI s (fI s (cX s p).2).2).1,(fI s (fI s (fI s (cX s p).2).2).2).1,(fI s (fI s (fI s (fI s (cX s p).2).2).2).2).1,
  (cX s (fI s (fI s (fI s (fI s (cX s p).2).2).2).2).2).1,h.getD 3 0,decide (h.getD 4 0=1)),(cX s (fI s (fI s (fI s (fI s (cX s p).2).2).2).2).2).2)
def K3Q (s:ByteArray) (h:List Int) (a:List jR) (b:List jT) (acc:List fO) (q:List fO × Int):bA × Int:=aHP s h a b (acc++q.1) q.2
def K2Q (s:ByteArray) (h:List Int) (a:List jR) (acc:List jT) (q:List jT × Int):bA × Int:=K3Q s h a (acc++q.1) [] (cU (aES s) (min (h.getD 7 0).toNat 5) q.2)
def K1Q (s:ByteArray) (h:List Int) (acc:List jR) (q:List jR × Int):bA × Int:=K2Q s h (acc++q.1) [] (cU (opQ s) (min (h.getD 6 0).toNat 8) q.2)
def dT (s:ByteArray) (p:Int):bA × Int:=K1Q s (jP s 8 p).1 [] (cU (aEE s) (min ((jP s 8 p).1.getD 5 0).toNat 100) (jP s 8 p).2)
def aT2:bA:=aV aB
def kI (s:ByteArray) (p:Int):bA × Int:=if (dT s p).2<0∨¬ dF (dT s p).1=s.extract p.toNat (dT s p).2.toNat then (aT2,-1) else dT s p
theorem aFK {s:ByteArray} {p:Int} (h:(dT s p).2<0∨¬ dF (dT s p).1=s.extract p.toNat (dT s p).2.toNat):(aT2,(-1:Int))=kI s p:=by unfold kI;rw[if_pos h]
theorem aE3 {s:ByteArray} {p:Int} (h1:0≤(dT s p).2) (h2:dF (dT s p).1=s.extract p.toNat (dT s p).2.toNat):dT s p=kI s p:=by unfold kI;rw[if_neg (fun h=>h.elim (by omega) (fun h=>h h2))]
noncomputable def gT:Con:=⟨25,(.aWS .str aJ),(.aWS aA tI),[.val ⟨false,.str,[]⟩,.val ⟨false,tI,[]⟩,.val ⟨false,tI,[]⟩],[⟨false,aA,[2]⟩,⟨false,tI,[0]⟩],false,none,
 ((fun x=>PB x.1 x.2.1∧0≤x.2.2∧x.2.2≤100):((ByteArray) × jR)→Prop),
 ((fun x=>jP x.1 x.2.2 x.2.1):((ByteArray) × jR)→(fN × Int))⟩
def zV:T:=.call 0 (.aWU .str tI (.p1 .str aJ (.Z 0)) (aO (.aWS .str aJ) 1 (.Z 0))) <|
 .aWT (.cmp .lss .i64) (.aWU tI tI (aG (.aWS aA tI) 1 (.Z 1)) (.ci .i64 0)) <|
 .ite (.Z 2) (
  .aWT (.rep 3 tI 8) (aG (.aWS .str aJ) 2 (.Z 0)) <|
  .ret (.aWU aA tI (.Z 3) (.ci .i64 (-1)))) (
  .aWT (.aWW 3 tI) (.p1 aA tI (.Z 1)) <|
  .aWT (.cmp .neq .i64) (.aWU tI tI (.Z 3) (aG (.aWS .str aJ) 2 (.Z 0))) <|
  .ite (.Z 4) (
   .aWT (.rep 3 tI 8) (aG (.aWS .str aJ) 2 (.Z 0)) <|
   .ret (.aWU aA tI (.Z 5) (.ci .i64 (-1)))) (
   .ret (.Z 1)))
theorem aQT:cW Tryz.prog [dE] gT false 3000 ⟨[],[]⟩ = .ok zV:=by kernel_rfl
theorem aPW (x:(ByteArray) × jR) (hx:okD (.aWS .str aJ) x) (hp:(fun x=>PB x.1 x.2.1∧0≤x.2.2∧x.2.2≤100) x):zV.wp [dE] [⟨(.aWS .str aJ),x⟩] [] (fun v=>v.as (.aWS aA tI)=(fun x=>jP x.1 x.2.2 x.2.1) x):=by
 obtain ⟨s,p,n⟩:=x
 obtain ⟨h1,h2,h3⟩:PB s p∧0≤n∧n≤100:=hp
 delta zV dE;refine jN ?_
 refine gJ ?_
 refine ⟨h1,fun _=>⟨fun h=>?_,fun h _=>⟨fun h4=>?_,fun h4=>?_⟩⟩⟩
 ·(repeat' first|intro _|(with_reducible apply And.intro))
  all_goals first|omega|skip
  unfold jP;rw[if_pos (.inl h)];rfl
 ·(repeat' first|intro _|(with_reducible apply And.intro))
  all_goals first|omega|skip
  unfold jP;rw[if_pos (.inr h4)];rfl
 ·unfold jP;rw[if_neg (fun hh=>hh.elim (by omega) (fun hh=>hh h4))]
theorem zZ:Con.Holds Tryz.prog gT:=aX bI (aR oW aY) aQT aPW
noncomputable def iG:Con:=⟨53,(.aWS .str tI),(.aWS aF tI),[.val ⟨false,.str,[]⟩,.val ⟨false,tI,[]⟩],[⟨false,aF,[2]⟩,⟨false,tI,[0]⟩],false,none,
 ((fun x=>PB x.1 x.2):((ByteArray) × Int)→Prop),
 ((fun x=>cX x.1 x.2):((ByteArray) × Int)→(eT × Int))⟩
def nH:T:=.call 0 (.Z 0) <|.loop (.aWS tI aD) (aQ (.aWS tI aD) [(.ci .i64 0),(aG aJ 1 (.Z 1)),(.nl 117 aA)]) <|
 .aWT (.cmp .lss .i64) (.aWU tI tI (.p1 tI aD (.Z 2)) (.p1 tI tI (.Z 1))) <|
 .ite (.Z 3) (
  .aWT (.cmp .lss .i64) (.aWU tI tI (.p1 tI aD (.Z 2)) (.ci .i64 100)) <|
  .ite (.Z 4) (
   .aWT (.cmp .geq .i64) (.aWU tI tI (aO (.aWS tI aD) 1 (.Z 2)) (.ci .i64 0)) <|
   .ite (.Z 5) (
    .call 1 (.aWU .str tI (.p1 .str tI (.Z 0)) (aO (.aWS tI aD) 1 (.Z 2))) <|
    .aWT (.lit 117 aA 1) (.p1 aA tI (.Z 6)) <|
    .aWT (.aWZ 117 aA 24) (.aWU aF aF (aG (.aWS tI aD) 2 (.Z 2)) (.Z 7)) <|
    .aWT (.ar .add .i64) (.aWU tI tI (.p1 tI aD (.Z 2)) (.ci .i64 1)) <|
    .aWV 0 (aQ (.aWS tI aD) [(.Z 9),(aG (.aWS aA tI) 1 (.Z 6)),(.Z 8)])) (
    .ret (.aWU aF tI (aG (.aWS tI aD) 2 (.Z 2)) (aO (.aWS tI aD) 1 (.Z 2))))) (
   .ret (.aWU aF tI (aG (.aWS tI aD) 2 (.Z 2)) (aO (.aWS tI aD) 1 (.Z 2))))) (
  .ret (.aWU aF tI (aG (.aWS tI aD) 2 (.Z 2)) (aO (.aWS tI aD) 1 (.Z 2))))
theorem aBK:cW Tryz.prog [iX,dE] iG false 3000 ⟨[(2989,1002,fG 18 16++[.dr 12]++fG 15 13++[.dr 1,.tm 9 0,.on 8,.tm 7 0,.sl 1])],[(2978,15007,[],[2])]⟩ = .ok nH:=by kernel_rfl
theorem aBS (x:(ByteArray) × Int) (hx:okD (.aWS .str tI) x) (hp:(fun x=>PB x.1 x.2) x):nH.wp [iX,dE] [⟨(.aWS .str tI),x⟩] [] (fun v=>v.as (.aWS aF tI)=(fun x=>cX x.1 x.2) x):=by
 obtain ⟨s,p⟩:=x
 have hp:PB s p:=hp
 delta nH iX dE;refine jN ?_
 have g1:=aRR s p hp
 refine ⟨hp,fun _=>?_⟩
 have hv0:cX s p=cU (fI s) (min (nQ s p).1.toNat 100) (nQ s p).2:=rfl
 generalize (nQ s p).1=n at *
 generalize (nQ s p).2=p0 at *
 refine ⟨fun t=>∃ k:Nat,t.1=(k:Int)∧(t.2.2:eT).length=k∧k≤min n.toNat 100∧PB s t.2.1∧cX s p=(t.2.2++(cU (fI s) (min n.toNat 100 - k) t.2.1).1,(cU (fI s) (min n.toNat 100 - k) t.2.1).2),fun t=>(100 - (t.1:Int)).toNat,⟨0,rfl,rfl,by omega,g1.1,hv0⟩,fun t _ hI=>?_⟩
 obtain ⟨i,pos,acc⟩:Int × (Int × eT):=t
 obtain ⟨k,rfl,hl,hk,hP,hv⟩:=hI
 dsimp only at hl hk hP hv ⊢
 have hPa:-1≤pos:=hP.1
 have hPb:pos≤(s.size:Int):=hP.2
 refine gJ ?_
 have ex:n.toNat≤k∨100≤k∨pos<0→(acc,pos)=cX s p:=fun h=>by
  rw[hv]
  by_cases h0:pos<0
  ·rw[kS _ _ h0];simp
  ·rw[show min n.toNat 100 - k=0 by omega];simp[cU]
 refine ⟨fun h1=>⟨fun h2=>⟨fun h3=>?_,fun h3=>ex (.inr (.inr h3))⟩,fun h2=>ex (.inr (.inl (by omega)))⟩,fun h1=>ex (.inl (by omega))⟩
 obtain ⟨m,hm⟩:∃ m,min n.toNat 100 - k=m+1:=⟨min n.toNat 100 - k - 1,by omega⟩
 rw[hm,lD _ m h3] at hv
 have g2:=jH s pos hP
 (repeat' first|intro _|(with_reducible apply And.intro))
 all_goals first|omega|exact hP|(unfold maxLen;omega)|skip
 refine ⟨k+1,rfl,by (first|omega|(simp only[List.length_append,List.length_cons,List.length_nil];omega)),by omega,g2.1,?_⟩
 rw[show min n.toNat 100 - (k+1)=m by omega,hv]
 simp
theorem aBR:Con.Holds Tryz.prog iG:=aX bI (aR aDF (aR oW aY)) aBK aBS
end Go.Proofs.YtlabadaccldkaaaGreat
