/- EFnLearns: lemmas. No conditions. -/
import Derived.Test.YtlhaoiaieiladaaGreatLearnC
namespace Go.Proofs.YtlhaoiaieiladaaGreat
open Go.ChangeShapes Go.WideShapes Go.ChangeAt Go.RowKit Go.Deep
set_option linter.unusedVariables false
set_option linter.unusedSimpArgs false
theorem bVE {w:World} {c:Array Value} {T:TypeId} {n k:Nat} {v:Value} (h:n=w.heap.size) (hv:c[k]?=some v):(w.alloc (.cells c T)).cell? ⟨n,k,none⟩=some v:=by
 subst h;unfold World.cell?
 rw[show (w.alloc (.cells c T)).heap[(⟨w.heap.size,k,none⟩:Addr).block]?=some (.cells c T) from Go.heap_alloc_new w _]
 exact hv
theorem bML {w:World} {c:Array Value} {T:TypeId} {n k:Nat} (h:n=w.heap.size):(w.alloc (.cells c T)).frozen? ⟨n,k,none⟩=false:=by
 subst h;unfold World.frozen?
 rw[show (w.alloc (.cells c T)).heap[(⟨w.heap.size,k,none⟩:Addr).block]?=some (.cells c T) from Go.heap_alloc_new w _]
 rfl
theorem bWI (x:Int):-9223372036854775808<=(aTL x).1/\(aTL x).1<=9223372036854775807:=by have:=qS x;show _<=lD x/\lD x<=_;omega
def LB (w:World) (n:Nat) (a b c:Value) (wk:World):Prop:=w.heap.size+1+1<n/\n<wk.heap.size/\wk.cell? ⟨w.heap.size,0,none⟩=some a/\wk.cell? ⟨w.heap.size+1,0,none⟩=some b/\(∃ u,wk.cell? ⟨w.heap.size+1+1,0,none⟩=some u)/\wk.frozen? ⟨w.heap.size+1+1,0,none⟩=false/\wk.cell? ⟨n,0,none⟩=some c
theorem LB.keep {w wk w':World} {n:Nat} {a b c:Value} (h:LB w n a b c wk) (hk:∀ q,q=w.heap.size\/q=w.heap.size+1\/q=w.heap.size+1+1\/q=n->w'.heap[q]?=wk.heap[q]?) (hs:wk.heap.size<=w'.heap.size):LB w n a b c w':=by
 obtain ⟨h1,h2,h3,h4,⟨u,h5⟩,h6,h7⟩:=h
 exact ⟨h1,by omega,(World.cell?_of_block (hk _ (.inl rfl))).trans h3,(World.cell?_of_block (hk _ (.inr (.inl rfl)))).trans h4,⟨u,(World.cell?_of_block (hk _ (.inr (.inr (.inl rfl))))).trans h5⟩,(World.frozen?_of_block (hk _ (.inr (.inr (.inl rfl))))).trans h6,(World.cell?_of_block (hk _ (.inr (.inr (.inr rfl))))).trans h7⟩
theorem LB.below {w wk w':World} {n:Nat} {a b c:Value} (h:LB w n a b c wk) (hb:Below wk.heap.size wk w'):LB w n a b c w' :=
 h.keep (fun q hq=>hb.block q (by have:=h.1;have:=h.2.1;omega)) hb.size
theorem LB.only {w wk w':World} {n:Nat} {a b c:Value} {bl:List Nat} (h:LB w n a b c wk) (hb:Only bl wk w') (hn:∀ q∈bl,w.heap.size+1+1<q/\q≠n):LB w n a b c w' :=
 h.keep (fun q hq=>hb.block q (fun hm=>by have:=hn q hm;omega) (by have:=h.1;have:=h.2.1;omega)) hb.size
theorem aML {w wk:World} {n:Nat} {a b v:Value} {R R':List dU × Bool} (hL:LB w n a b v wk) (hB:Below w.heap.size w wk) (hF:∃ lo hi,w.heap.size+1+1<lo/\FrA aB lo hi wk [v] R'.1) (hR:R=R') :
  bIS w R (.returned (.tuple #[.agg #[v],.bool R'.2])) (wk.setCell ⟨w.heap.size+1+1,0,none⟩ v):=by
 subst hR
 obtain ⟨lo,hi,hlo,hF⟩:=hF
 refine ⟨_,rfl,?_,?_⟩
 ·exact ((hF.set1 (.inl (by show w.heap.size+1+1<lo;omega)) _)).mono (by omega) (by have:=hF.hi_le;simp[World.setCell];omega) (by simp[World.setCell])
 ·exact hB.setCell (by show w.heap.size<=w.heap.size+1+1;omega) _
set_option maxRecDepth 100000 in
set_option maxHeartbeats 4000000 in
theorem bMU (cs gs:Array Value) (m:aB.D) (g:aG.D) (rate:Int) (w:World) (h0:rd aB w cs.toList m) (h1:rd aG w gs.toList g) (hr:(Lit.int .i64 rate).wf=true) (hP1:bC aB m<=1000000000) (hP2:bC aG g<=1000000000) :
  Calls Tryz.prog 53 #[.agg cs,.agg gs,.int .i64 rate] w (bIS w (vN m g rate)):=by
 obtain ⟨p0,c0,rfl,s0⟩:=bJ8 h0
 obtain ⟨pg,cg,rfl,sg,wg⟩:=bX3 h1
 obtain ⟨r1,r2⟩:=bNW hr
 have H0:=Lib.hid h0;have HG:=Lib.hid h1;have HS:=Lib.hid sg;have HR:=Lib.hid hr
 clear h0 h1 s0 sg hr
 go_enter Tryz.func53,Tryz.ntmps53
 go_wp2_with fail
 refine (bI4 _ m _ (by exact xU H0.out jL) hP1).mono ?_
 rintro e w1 ⟨cs1,rfl,f1,b1⟩
 obtain ⟨p1,c1,rfl,-⟩:=bJ8 f1.rd
 have y0:=b1.size
 simp only[vE] at y0
 have B1:Below w.heap.size w (w1.alloc (.cells #[.slice p1 (List.length m) c1] 37)):=jL
 have L1:LB w w1.heap.size (.slice p0 (List.length m) c0) (.slice pg (List.length g.1) cg) (.slice p1 (List.length m) c1) (w1.alloc (.cells #[.slice p1 (List.length m) c1] 37)):=by
  refine ⟨by omega,by simp,?_,?_,⟨.slice none 0 0,?_⟩,?_,by simp⟩
  ·exact (pA (a:=⟨w.heap.size,0,none⟩) bE).trans ((b1.cell (p:=⟨w.heap.size,0,none⟩) bE).trans ((pA (a:=⟨w.heap.size,0,none⟩) bE).trans ((pA (a:=⟨w.heap.size,0,none⟩) bE).trans (by simp))))
  ·exact (pA (a:=⟨w.heap.size+1,0,none⟩) bE).trans ((b1.cell (p:=⟨w.heap.size+1,0,none⟩) bE).trans ((pA (a:=⟨w.heap.size+1,0,none⟩) bE).trans (by simp)))
  ·refine (pA (a:=⟨w.heap.size+1+1,0,none⟩) bE).trans ((b1.cell (p:=⟨w.heap.size+1+1,0,none⟩) bE).trans ?_)
   exact bVE (by simp) rfl
  ·refine (bF2 (a:=⟨w.heap.size+1+1,0,none⟩) bE).trans ((b1.frozen (p:=⟨w.heap.size+1+1,0,none⟩) bE).trans ?_)
   exact bML (by simp)
 have F1:=Lib.hid f1;clear f1
 have HL1:=Lib.hid L1
 obtain ⟨l1,l2,l3,l4,⟨l5u,l5⟩,l6,l7⟩:=L1
 go_wp2_with fail
 refine (bR8 _ m _ (by exact xU H0.out B1) True.intro).mono ?_
 rintro e w2 ⟨rfl,b2⟩
 have HL2:=Lib.hid (HL1.out.below b2)
 have B2:Below w.heap.size w w2:=Below.trans B1 (b2.mono bE)
 clear l1 l2 l3 l4 l5 l5u l6 l7
 obtain ⟨l1,l2,l3,l4,⟨l5u,l5⟩,l6,l7⟩:=HL2.out
 cases hB:bY m
 ·go_wp2
  refine bodyPost_ret (v:=.tuple #[.agg #[.slice p1 (List.length m) c1],.bool false]) (by simp[results,Tryz.results53,go_sem,l5]) rfl ?_
  exact aML (R':=(m,false)) HL2.out B2 ⟨_,_,bE,F1.out.below (Below.trans (b:=w1.alloc (.cells #[.slice p1 (List.length m) c1] 37)) jL (b2.mono bE)) (Nat.le_refl _)⟩ (aE7 (by rw[hB];simp)).symm
 have BB2:Below w1.heap.size w1 w2:=Below.trans (b:=w1.alloc (.cells #[.slice p1 (List.length m) c1] 37)) jL (b2.mono bE)
 go_wp2_with fail
 refine (bXF rate _ HR.out True.intro).mono ?_
 rintro e w3 ⟨rfl,b3⟩
 have HL3:=Lib.hid (HL2.out.below b3)
 have B3:Below w.heap.size w w3:=Below.trans B2 (b3.mono bE)
 have BB3:Below w1.heap.size w1 w3:=Below.trans BB2 (b3.mono bE)
 clear l1 l2 l3 l4 l5 l5u l6 l7 HL2
 obtain ⟨l1,l2,l3,l4,⟨l5u,l5⟩,l6,l7⟩:=HL3.out
 cases hF:mK rate
 ·go_wp2
  refine bodyPost_ret (v:=.tuple #[.agg #[.slice p1 (List.length m) c1],.bool false]) (by simp[results,Tryz.results53,go_sem,l5]) rfl ?_
  exact aML (R':=(m,false)) HL3.out B3 ⟨_,_,bE,F1.out.below BB3 (Nat.le_refl _)⟩ (aE7 (by rw[hF];simp)).symm
 go_wp2_with fail
 refine (cBS _ m _ _ g.1 _ (by exact xU H0.out B3) (by exact HS.out.below B3) True.intro).mono ?_
 rintro e w4 ⟨rfl,b4⟩
 have HL4:=Lib.hid (HL3.out.below b4)
 have B4:Below w.heap.size w w4:=Below.trans B3 (b4.mono bE)
 have BB4:Below w1.heap.size w1 w4:=Below.trans BB3 (b4.mono bE)
 clear l1 l2 l3 l4 l5 l5u l6 l7 HL3
 obtain ⟨l1,l2,l3,l4,⟨l5u,l5⟩,l6,l7⟩:=HL4.out
 cases hG:aIM m g.1
 ·go_wp2
  refine bodyPost_ret (v:=.tuple #[.agg #[.slice p1 (List.length m) c1],.bool false]) (by simp[results,Tryz.results53,go_sem,l5]) rfl ?_
  exact aML (R':=(m,false)) HL4.out B4 ⟨_,_,bE,F1.out.below BB4 (Nat.le_refl _)⟩ (aE7 (by rw[hG];simp)).symm
 obtain ⟨bl,un,nd,rng⟩:=(F1.out.below BB4 (Nat.le_refl _)).un
 simp only[World.size_alloc] at rng
 have hml:=(aL3 un).2
 unfold maxLen at hml
 have HU:=Lib.hid un
 have HFIT:=Lib.hid ((xN m g.1).1 hG)
 have hlen:=(HFIT.out).1
 have HE:=Lib.hid (bDM (g:=g) (r:=rate) hB hF hG)
 have HN:Hid (∀ q∈bl,w.heap.size+1+1<q/\q≠w1.heap.size):=fun q hq=>by have:=rng q hq;omega
 clear un hG hB hF b1 b2 b3 b4 B2 B3 BB2 BB3 y0
 go_wp2_with fail
 go_loopw [9,38] (fun o i wr=>∃ k:Nat,k<=List.length m/\i = .int .i64 k/\o = .bool (aSX rate m g.1 k)/\Only bl w4 wr/\Hid (Un aB wr [.slice p1 (List.length m) c1] (xJ rate m g.1 k) bl)) (fun _ i _=>List.length m - (intOf i).toNat)
 case atStart=>exact ⟨0,by omega,rfl,rfl,Only.refl _ _,by show Un _ _ _ _ _;rw[bDL];exact HU.out⟩
 case round =>
  obtain ⟨k,hk,rfl,rfl,ho,hf⟩:=hrel
  have HLk:=Lib.hid (HL4.out.only ho HN.out)
  have Bk:Below w.heap.size w wr:=Below.trans B4 (ho.below (fun q hq=>by have:=HN.out q hq;omega) bE)
  clear l1 l2 l3 l4 l5 l5u l6 l7
  obtain ⟨l1,l2,l3,l4,⟨l5u,l5⟩,l6,l7⟩:=HLk.out
  by_cases hlt:k<List.length m
  ·obtain ⟨o,hoD⟩:∃ o:dU,o=List.getD m k nO:=⟨_,rfl⟩
   have hkl:k<(xJ rate m g.1 k).length:=by rw[zM];exact hlt
   have hMk:(xJ rate m g.1 k)[k]=o:=by rw[hoD,<- aO hkl (d:=nO)];exact bK9 rate m g.1 hlt
   have hf0:Un (.slice 98 bQ) wr [.slice p1 (List.length m) c1] ((xJ rate m g.1 k).set k o) bl:=by rw[<- hMk,List.set_getElem_self];exact hf.out
   obtain ⟨b3,cap3,cu3,bu3,hv3,hbm3,hfz3,hc3,hR3,hn3,hs3,hA3,-⟩:=zH hf0 nd hkl [true,true,true]
   simp only[Value.slice.injEq] at hv3
   obtain ⟨rfl,-,-⟩:=hv3
   obtain ⟨p3,n3,q3,rfl⟩:=aIU hR3
   obtain ⟨P,hP⟩:∃ P:List Int,P=o.2.2.2:=⟨_,rfl⟩
   have hR4:Un aA wr [.slice p3 n3 q3] P bu3:=by rw[hP];exact hR3
   obtain ⟨rfl,hpm⟩:=aL3 hR4
   unfold maxLen at hpm
   have e3:wr.cell? ⟨b3,k * 4+3,none⟩=some (.slice p3 P.length q3):=hc3 0 Nat.zero_lt_one
   obtain ⟨G,hGd⟩:∃ G:List Int,G=g.1.getD k []:=⟨_,rfl⟩
   have hkg:k<g.1.length:=by omega
   have hGk:g.1[k]=G:=by rw[hGd,aO hkg]
   obtain ⟨b4,off4,p4,c4,hpg,hz4,e4w,sl4⟩:=cAX HS.out k hkg G hGk
   subst hpg
   have hGP:G.length=P.length:=by
    have h1:=(aCT m g.1 hlt hkg).1 (HFIT.out.2 k hlt)
    rw[hP,hoD,<- hGk,h1,aO hlt]
   have HA:=Lib.hid hA3;have HR3:=Lib.hid hR4;have HSL:=Lib.hid sl4
   have HoD:=Lib.hid hoD;have HPo:=Lib.hid hP;have HGd:=Lib.hid hGd
   have HM:=Lib.hid (bE0 rate m g.1 hlt (bBY rate o G) (by rw[hoD,hGd]))
   have HNa:=Lib.hid (rF k (fun i=>aSC rate (m.getD i nO).2.2.2 (g.1.getD i []) (m.getD i nO).2.2.2.length))
   have HBU:Hid (∀ q∈bu3,q∈bl):=hs3
   have HV:=Lib.hid (eX P.length (fun k=>(fC (P.getD k 0) (gO rate (G.getD k 0)).1).1))
   clear hA3 hR4 hR3 sl4 hoD hP hGd hf0 hMk hf hc3 hfz3 hs3
   have HGk:=Lib.hid hGk;clear hGk
   go_wp2_with fail
   obtain ⟨wo,hwo⟩:∃ wo,wo=wr:=⟨_,rfl⟩
   have HO:=Lib.hid hwo
   rw[<- hwo] at HLk Bk HA ho
   have HR':=HR3
   clear l1 l2 l3 l4 l5 l5u l6 l7 e3 hwo HR3
   go_loopw [9,49] (fun o i wj=>∃ j:Nat,j<=P.length/\i = .int .i64 j/\o = .bool (aSX rate m g.1 k || aSC rate P G j)/\Only bu3 wo wj/\Hid (Un aA wj [.slice p3 P.length q3] ((aKL rate P G P.length).take j++P.drop j) bu3)) (fun _ i _=>P.length - (intOf i).toNat)
   case atStart=>exact ⟨0,by omega,rfl,by rw[show aSC rate P G 0=false from rfl,Bool.or_false],by rw[HO.out];exact Only.refl _ _,by show Un _ _ _ _ _;simpa using HR'.out⟩
   case round =>
    obtain ⟨j,hj,rfl,rfl,ho2,hg⟩:=hrel
    clear HR' HO
    have HLj:=Lib.hid (HLk.out.only ho2 (fun q hq=>HN.out q (HBU.out q hq)))
    have Bj:Below w.heap.size w wr:=Below.trans Bk (ho2.below (fun q hq=>by have:=HN.out q (HBU.out q hq);omega) (by have:=Bk.size;omega))
    obtain ⟨l1,l2,l3,l4,⟨l5u,l5⟩,l6,l7⟩:=HLj.out
    by_cases hjl:j<P.length
    ·have HC:Hid ((aKL rate P G P.length).length=P.length):=eX _ _
     have hjj:j<((aKL rate P G P.length).take j++P.drop j).length:=by simp only[List.length_append,List.length_take,List.length_drop,HC.out];omega
     obtain ⟨b5,cap5,c5,bk5,hv5,hbm5,-,hfz5,hcl5,hc5,hR5,-,-,-,-,-⟩:=aQ8 hg.out hn3 j hjj
     simp only[Value.slice.injEq] at hv5
     obtain ⟨rfl,-,-⟩:=hv5
     obtain ⟨rfl,hwf,rfl⟩:=hR5
     rw[aEW _ _ _ hjl HC.out] at hwf
     have e5:wr.cell? ⟨b5,j,none⟩=some (.int .i64 P[j]):=by
      have:=hc5 0 (by simp)
      simp only[Ty.n,Nat.mul_one,Nat.add_zero,List.getElem_cons_zero] at this
      rw[this,aEW _ _ _ hjl HC.out]
     have hjG:j<G.length:=by omega
     obtain ⟨b6,off6,rfl,hz6,e7w,y1,y2⟩:=bA5 HSL.out j hjG
     obtain ⟨x,hx⟩:∃ x,x=P[j]:=⟨_,rfl⟩
     obtain ⟨y,hy⟩:∃ y,y=G[j]:=⟨_,rfl⟩
     have HAj:Hid ((aKL rate P G P.length)[j]'(by rw[HC.out];exact hjl)=(fC x (gO rate y).1).1):=by
      show _=_
      rw[<- aO (l:=aKL rate P G P.length) (d:=0)]
      unfold aKL
      rw[tJ _ _ _ hjl,aO hjl,aO hjG,hx,hy]
     have HBj:Hid (aSC rate P G (j+1)=(aSC rate P G j || ((gO rate y).2 || (fC x (gO rate y).1).2))):=by
      show _=_
      rw[hx,hy,<- aO hjl (d:=0),<- aO hjG (d:=0)]
      exact rF j _
     rw[<- hx] at e5 hwf
     rw[<- hy] at e7w y1 y2
     have HWX:=Lib.hid hwf;have HWY:Hid ((Lit.int .i64 y).wf=true):=aJA ⟨y1,y2⟩
     have e7:wr.cell? ⟨b6,off6+j,none⟩=some (.int .i64 y):=(Bj.cell (p:=⟨b6,off6+j,none⟩) hz6).trans e7w
     have e4:wr.cell? ⟨b4,off4+k,none⟩=some (.slice (some ⟨b6,off6,none⟩) G.length c4):=(Bj.cell (p:=⟨b4,off4+k,none⟩) hz4).trans e4w
     have HE7:=Lib.hid e7w;have HE4:=Lib.hid e4w
     clear hx hy hc5 hfz5 hwf e7w e4w
     go_wp2_with fail
     refine (bWN rate y _ HR.out HWY.out True.intro).mono ?_
     rintro e w5 ⟨rfl,b5'⟩
     have e5_5:w5.cell? ⟨b5,j,none⟩=some (.int .i64 x):=(b5'.cell (p:=⟨b5,j,none⟩) (aF2 _ _ _ _ _ hg.out b5 hbm5)).trans e5
     have HL5:=Lib.hid (HLj.out.below b5')
     have HWM:=Lib.hid (aJA (bWI _):(Lit.int .i64 (gO rate y).1).wf=true)
     clear l1 l2 l3 l4 l5 l5u l6 l7 e5 e4 e7
     go_wp2_with fail
     refine (bT5 x (gO rate y).1 _ HWX.out HWM.out True.intro).mono ?_
     rintro e w6 ⟨rfl,b6'⟩
     have Bx:Below wr.heap.size wr w6:=Below.trans b5' (b6'.mono b5'.size)
     have hg6:Un aA w6 [.slice (some ⟨b5,0,none⟩) P.length q3] ((aKL rate P G P.length).take j++P.drop j) bu3:=Un.keep _ _ _ _ (fun q hq=>Bx.block q (aF2 _ _ _ _ _ hg.out q hq)) hg.out
     obtain ⟨b9,cap9,c9,bk9,hv9,hbm9,-,hfz9,hcl9,hc9,hR9,-,-,-,-,hU9⟩:=aQ8 hg6 hn3 j hjj
     simp only[Value.slice.injEq,fL,Addr.mk.injEq,and_true] at hv9
     obtain ⟨hb9,-,-⟩:=hv9
     subst hb9
     obtain ⟨rfl,-,rfl⟩:=hR9
     have e9:w6.cell? ⟨b5,j,none⟩=some (.int .i64 x):=(b6'.cell (p:=⟨b5,j,none⟩) (Nat.lt_of_lt_of_le (aF2 _ _ _ _ _ hg.out b5 hbm5) b5'.size)).trans e5_5
     have g9:=hfz9 j
     have HV9:=Lib.hid (hU9 0 (.int .i64 (fC x (gO rate y).1).1) (fC x (gO rate y).1).1 (by simp) ⟨rfl,aJA (bWI _),rfl⟩)
     have HS9:=Lib.hid (aJ0 (aKL rate P G P.length) P j hjl HC.out _ HAj.out)
     have HO9:=Lib.hid (Only.setCell (p:=⟨b5,j,none⟩) (ho2.bel Bx ho2.size) hbm5 (.int .i64 (fC x (gO rate y).1).1))
     clear e5_5 hU9 hc9 hfz9 hg6
     cases hO:(aSX rate m g.1 k || aSC rate P G j)
     all_goals cases hF2:(gO rate y).2
     all_goals
      go_wp2
      go_roundw
      case rel =>
       refine ⟨j+1,by omega,by go_num,by rw[HBj.out,<- Bool.or_assoc,hO];simp[hF2],HO9.out,?_⟩
       show Un _ _ _ _ _
       have h2:=HV9.out
       rw[HS9.out] at h2
       simpa [Ty.n] using h2
      case measure=>simp[intOf];omega
    ·go_wp2
     go_roundw
     case rel =>
      obtain rfl:j=P.length:=by omega
      have hg':=hg.out
      rw[List.drop_length,List.append_nil,List.take_of_length_le (Nat.le_of_eq (show (aKL rate P G P.length).length=P.length from eX _ _))] at hg'
      refine ⟨k+1,by omega,by go_num,?_,ho.trans (ho2.mono HBU.out),?_⟩
      ·have h1:aSX rate m g.1 (k+1)=(aSX rate m g.1 k || aSC rate (m.getD k nO).2.2.2 (g.1.getD k []) (m.getD k nO).2.2.2.length):=HNa.out
       rw[h1,<- HoD.out,<- HGd.out,<- HPo.out]
      ·show Un _ _ _ _ _
       have h2:=HA.out wr _ (fun q hq hz=>ho2.block q hq hz) hg'
       have h3:(xJ rate m g.1 k).set k (aVI bQ [true,true,true] o (aKL rate P G P.length))=xJ rate m g.1 (k+1):=by rw[HPo.out];exact HM.out
       rw[h3] at h2
       exact h2
     case measure=>simp[intOf];omega
  ·go_wp2
   obtain rfl:k=List.length m:=by omega
   refine bodyPost_ret (v:=.tuple #[.agg #[.slice p1 (List.length m) c1],.bool (aSX rate m g.1 (List.length m))]) (by simp[results,Tryz.results53,go_sem,l5]) rfl ?_
   exact aML (R':=(xJ rate m g.1 (List.length m),aSX rate m g.1 (List.length m))) HLk.out Bk ⟨w.heap.size+1+1+1,w1.heap.size,by omega,bl,hf.out,nd,fun q hq=>by have:=rng q hq;omega,by omega⟩ HE.out.symm
theorem fD.inv {w:World} {m:MV} {ms:List AM} {vs:List Value} {y:m.t.D} {ds:List SV} (h:fD w (.val m :: ms) vs (⟨m.t,y⟩ :: ds)):∃ v vs',vs=v :: vs'/\v=mkV m.ag v.cells.toList/\rd m.t w v.cells.toList y/\fD w ms vs' ds:=by
 obtain ⟨v,vs',d,ds',rfl,hd,_,hv,hr,h⟩:=h
 obtain ⟨rfl,rfl⟩:=List.cons.inj hd
 rw[SV.as_self] at hr
 exact ⟨v,vs',rfl,hv,hr,h⟩
theorem cCS {w w':World} {cs:Array Value} {t:Ty} {fl:List Nat} {d:t.D} {bl:List Nat} (h:Un t w' cs.toList d bl) (hb:∀ b∈bl,w.heap.size<=b/\b<w'.heap.size):aIJ w w' ⟨true,t,fl⟩ (.agg cs) d bl :=
 ⟨by simp[mkV,Value.cells],⟨(Un.rdg _ _ _ _ h).mono hb (fun _ _=>rfl),Nat.le_refl _⟩,fun _=>h⟩
theorem cCU {w w':World} {fl:List Nat} {b:Bool}:aIJ w w' ⟨false,.bool,fl⟩ (.bool b) b []:=⟨rfl,⟨rfl,Nat.le_refl _⟩,fun _=>⟨rfl,rfl⟩⟩
theorem tT.mk {w w':World} {m:MV} {ms:List MV} {r:Value} {rs:List Value} {y:m.t.D} {ds:List SV} {b1 b2:List Nat} (h:aIJ w w' m r y b1) (hs:tT w w' ms rs ds b2):tT w w' (m :: ms) (r :: rs) (⟨m.t,y⟩ :: ds) (b1++b2) :=
 ⟨r,rs,b1,b2,rfl,rfl,by rw[SV.as_self];exact h,hs⟩
noncomputable def zB:Con:=⟨53,(.cD0 aB (.cD0 aG tI)),(.cD0 aB .bool),[.val ⟨true,aB,[]⟩,.val ⟨true,aG,[]⟩,.val ⟨false,tI,[]⟩],[⟨true,aB,[1]⟩,⟨false,.bool,[0]⟩],false,none,
 ((fun x=>bV2 x):aS × (dV × Int)->Prop),
 ((fun x=>vN x.1 x.2.1 x.2.2):aS × (dV × Int)->aS × Bool)⟩
theorem bC3:Con.Holds Tryz.prog zB:=by
 refine Con.holds_walk rfl rfl rfl rfl (fun x hp hx=>bDP.ok x hp hx) ⟨Tryz.f53,Tryz.func53,by kernel_rfl,by kernel_rfl⟩ fun w vs x _ hp hx ha=>?_
 obtain ⟨m,g,rate⟩:=x
 have e:SV.as (cV (zB.ams.map (·.mv.t))) ⟨zB.argTy,(m,g,rate)⟩=(m,g,rate):=SV.as_self _ _
 rw[e] at ha
 obtain ⟨v0,vs,rfl,hv0,hr0,ha⟩:=fD.inv ha
 obtain ⟨v1,vs,rfl,hv1,hr1,ha⟩:=fD.inv ha
 obtain ⟨v2,vs,rfl,hv2,hr2,rfl,-⟩:=fD.inv ha
 obtain ⟨c2,w2⟩:=hr2
 rw[c2] at hv2
 rw[hv0,hv1,hv2]
 refine (bMU v0.cells v1.cells m g rate w hr0 hr1 w2 hp.1 hp.2).mono ?_
 rintro e w' ⟨cs',rfl,⟨bl,un,nd,rng,hs⟩,hB⟩
 have e2:SV.as (cV (zB.rms.map (·.t))) ⟨zB.resTy,zB.fn (m,g,rate)⟩=vN m g rate:=SV.as_self _ _
 rw[e2]
 exact ⟨[.agg cs',.bool (vN m g rate).2],bl++([]++[]),rfl,tT.mk (cCS un rng) (tT.mk cCU ⟨rfl,rfl⟩),by simpa using nd,by simpa using rng,hB⟩
theorem bYX (r:Int) (m:List dU) (g:dG) (k:Nat):(xJ r m g k).map (bC bQ)=m.map (bC bQ):=by
 refine List.ext_getElem (by rw[List.length_map,List.length_map,zM]) fun i h1 h2=>?_
 rw[List.length_map] at h2
 have hk:i<(xJ r m g k).length:=by rw[zM];exact h2
 have e:(xJ r m g k)[i]=if i<k then bBY r (m.getD i nO) (g.getD i []) else m.getD i nO:=by
  rw[<- aO hk (d:=nO)];exact tJ _ _ _ h2
 rw[List.getElem_map,List.getElem_map,e,<- aO h2 (d:=nO)]
 split
 ·show 0+(0+(0+bC aA (aKL r (m.getD i nO).2.2.2 (g.getD i []) (m.getD i nO).2.2.2.length)))=0+(0+(0+bC aA (m.getD i nO).2.2.2))
  rw[gY,gY]
  show 0+(0+(0+(mp _ _).length))=_
  rw[eX]
 ·rfl
theorem bDT (m:List dU) (g:dV) (r:Int):bC aB (vN m g r).1=bC aB m:=by
 unfold vN
 split
 ·show (xJ r m g.1 m.length).length+((xJ r m g.1 m.length).map (bC bQ)).sum=m.length+(m.map (bC bQ)).sum
  rw[bYX,zM]
 ·rfl
set_option maxRecDepth 100000
def aC3 (B:Nat->Bool):Nat->Nat
 | 0=>0
 | n+1=>if aC3 B n=n/\B n=true then n+1 else aC3 B n
theorem bHG (B:Nat->Bool):(k:Nat)->(∀ i,i<k->B i=true)->aC3 B k=k
 | 0,_=>rfl
 | k+1,h=>by show (if _ then _ else _)=_;rw[if_pos ⟨bHG B k fun i hi=>h i (by omega),h k (by omega)⟩]
theorem bFJ (B:Nat->Bool) (k:Nat):(n:Nat)->k<=n->(∀ i,i<k->B i=true)->(k=n\/B k=false)->aC3 B n=k
 | 0,h,_,_=>by show 0=k;omega
 | n+1,h,ha,hb=>by
  by_cases hk:k=n+1
  ·subst hk;exact bHG B _ ha
  ·have hbk:B k=false:=hb.resolve_left hk
   have ih:=bFJ B k n (by omega) ha (Or.inr hbk)
   show (if _ then _ else _)=_
   rw[ih,if_neg]
   rintro ⟨rfl,h2⟩
   rw[hbk] at h2;exact Bool.noConfusion h2
def taK (m:List dU) (bs:List (List bA)) (r:Int):Nat->List dU × (List Int × Bool)
 | 0=>(m,[],false)
 | k+1=>((vN (taK m bs r k).1 (aM0 (taK m bs r k).1 (bs.getD k [])) r).1,(taK m bs r k).2.1++[(aM0 (taK m bs r k).1 (bs.getD k [])).2.1],((taK m bs r k).2.2 || (vN (taK m bs r k).1 (aM0 (taK m bs r k).1 (bs.getD k [])) r).2) || (aM0 (taK m bs r k).1 (bs.getD k [])).2.2)
def taB (m:List dU) (bs:List (List bA)) (r:Int) (k:Nat):Bool:=iQ (taK m bs r k).1 (bs.getD k [])
def taF (m:List dU) (bs:List (List bA)) (r:Int):List dU × (List Int × Bool):=taK m bs r (aC3 (taB m bs r) (min bs.length 20))
theorem bWS {m:List dU} {bs:List (List bA)} {r:Int} {k:Nat} (h1:k<=min bs.length 20) (h2:∀ i,i<k->taB m bs r i=true) (h3:k=min bs.length 20\/taB m bs r k=false):taK m bs r k=taF m bs r:=by
 unfold taF;rw[bFJ _ k _ h1 h2 h3]
theorem bNC (m:List dU) (bs:List (List bA)) (r:Int):(k:Nat)->bC aB (taK m bs r k).1=bC aB m
 | 0=>rfl
 | k+1=>(bDT _ _ _).trans (bNC m bs r k)
theorem bEU (m:List dU) (bs:List (List bA)) (r:Int):(k:Nat)->(taK m bs r k).2.1.length=k
 | 0=>rfl
 | k+1=>by show (_++[_]).length=_;rw[List.length_append,bEU m bs r k];rfl
theorem cBK (l:dG) (h:∀ r∈l,List.length r<=36):bC aJ l<=l.length * 37:=by
 show l.length+(l.map (bC aA)).sum<=_
 induction l with
 | nil=>exact Nat.le_refl _
 | cons a l ih =>
  have h1:=ih fun r hr=>h r (List.mem_cons_of_mem _ hr)
  have h2:=h a List.mem_cons_self
  rw[List.map_cons,List.sum_cons,gY,List.length_cons]
  omega
theorem bG6 (m:List dU) (b:List bA):bC aG (aM0 m b)<=1000000000:=by
 have h:GB (aM0 m b):=by
  unfold aM0
  split
  ·exact aW0 m b _
  ·exact ⟨Nat.zero_le _,fun r hr=>by cases hr⟩
 have h1:=cBK _ h.2
 have h2:=h.1
 show bC aJ (aM0 m b).1+(0+0)<=_
 omega
noncomputable def aDN:Con:=⟨21,(.cD0 aB (.cD0 aA1 tI)),(.cD0 aB yP),[.val ⟨true,aB,[]⟩,.val ⟨false,aA1,[]⟩,.val ⟨false,tI,[]⟩],[⟨true,aB,[1]⟩,⟨false,aA,[1]⟩,⟨false,.bool,[0]⟩],false,none,
 ((fun x=>bC aB x.1<=1000000000):(aS × ((List bW) × Int))->Prop),
 ((fun x=>taF x.1 x.2.1 x.2.2):(aS × ((List bW) × Int))->(aS × (cK × Bool)))⟩
def aJR:T:=lC (jO aB dF tI 0) <| kI 73 aE (gQ aB dF tI 1 0) aI0 2 20 <| aGP 73 aE dF (gQ aB dF tI 1 0) aM 3 <| iN 73 aE gD lZ (mkA lZ [aM,cL,aX,aX,aT]) <| kR bM (jX (rS aB aA) 6) 5 7 (iV 73 aE dF gD (rS aB aA) 6 <| dC 1 (.cD2 aB aE (aBT lZ 6) gP) 9 10 (cO (aIO aB) (aBT lZ 6) (fV lZ 4 6) (cQ lZ 6)) <| yJ 2 aB aE (aBT lZ 6) gP <| nV 3 (cO (rS aG tI) (aBT lZ 6) iX (qJ dF tI 0)) 3 tI (cQ aG 11) <| kB 3 8 aA aA (fV lZ 4 6) 13 <| sJ lZ 6 (gZ (rS aB aA) 6 1 0 lZ [iL,bK,lS aB 12,lS aB 12,gW]) <| jJ aB 1 12 (gZ (rS aB aA) 6 1 0 lZ [iL,bK,lS aB 12,lS aB 12,gW]) <| gZ (rS aB aA) 6 1 0 lZ [iL,dD aG 11,lS aB 12,lS aB 12,gW]) (cO (aIO aB) (aBT lZ 6) (fV lZ 4 6) (cQ lZ 6))
theorem aZY:Con.Holds Tryz.prog aDN:=tk ⟨[(2987,1006,oS 22 16++[.dr 0,.dr 1,.tm 25 0,.tm 10 0,.on 9,.sl 4,.bx 1 0,.sl 5])],[]⟩ aJR (aD aGM (aD aK7 (aD aYS (aD bC3 aL)))) fun (x:aS × ((List bW) × Int)) hx hp=>by
 dsimp only [aDN] at hx hp ⊢
 obtain ⟨m,bs,rate⟩:=x
 have hq:bC aB m<=1000000000:=hp
 delta aJR jM aBP aD1 zB;refine gH ?_
 refine iC ?_
 refine ⟨hq,fun _ hbl _=>⟨by omega,fun _ _=>?_⟩⟩
 obtain ⟨L,hL⟩:∃ L,L=min bs.length 20:=⟨_,rfl⟩
 have eL:(min (bs.length:Int) 20).toNat=L:=by omega
 have hLl:(bs.take L).length=L:=by rw[List.length_take];omega
 rw[eL,List.drop_zero]
 refine xL (fun k=>((k:Int),(taK m bs rate k).2.2,(taK m bs rate k).1,(taK m bs rate k).1,(taK m bs rate k).2.1)) (fun k=>∀ i,i<k->taB m bs rate i=true) L rfl (by omega) fun I μ k hk hG _ go=>?_
 dsimp only
 refine iC ?_
 have hfin:=fun h3=>bWS (m:=m) (bs:=bs) (r:=rate) (k:=k) (by omega) hG h3
 have hlen:=bEU m bs rate k
 have hsz:=bNC m bs rate k
 have hT:k<L->(bs.take L).getD k (aK aE)=bs.getD k []:=fun h=>by
  rw[aO (by omega),aO (by omega),List.getElem_take]
 by_cases hkL:k<L
 ·rw[hT hkL,hLl]
  have hB:taB m bs rate k=iQ (taK m bs rate k).1 (bs.getD k []):=rfl
  have hnext:taB m bs rate k=true->∀ i,i<k+1->taB m bs rate i=true:=fun h i hi=>by
   rcases Nat.lt_or_eq_of_le (Nat.le_of_lt_succ hi) with h'|rfl
   ·exact hG i h'
   ·exact h
  have hs2:=bG6 (taK m bs rate k).1 (bs.getD k [])
  have hF1:k=min bs.length 20->taK m bs rate k=taF m bs rate:=fun h=>hfin (.inl h)
  have hF2:iQ (taK m bs rate k).1 (bs.getD k [])=false->taK m bs rate k=taF m bs rate:=fun h=>hfin (.inr h)
  rw[hB] at hnext
  simp only[taK] at go
  clear hfin hB hG
  generalize bs.getD k []=b at *
  generalize taK m bs rate k=s at *
  obtain ⟨sm,sl,sf⟩:=s
  dsimp only at *
  (repeat' first|intro _|(refine go2 _ ?_ ?_ ?_)|(refine go2 _ ?_ ?_)|(refine go _ ?_ ?_ ?_)|(refine go _ ?_ ?_)|(with_reducible apply And.intro))
  all_goals first|omega|(unfold maxLen;omega)|exact ⟨by show bC aB sm<=_;omega,hs2⟩|exact hF2 (by assumption)|exact hF1 (by omega)|exact hnext (by assumption) _ (by assumption)|skip
  all_goals first|exact Prod.ext rfl (Prod.ext (bE4 (by assumption)) rfl)|exact Prod.ext rfl (Prod.ext (bCK (by assumption) (by assumption)) rfl)|exact Prod.ext rfl (Prod.ext (bDR (by assumption) (by assumption)) rfl)|skip
 ·exact ⟨fun h=>by omega,fun _=>hfin (.inl (by omega))⟩
noncomputable def aDV:Con:=⟨22,(.cD0 aB (.cD0 aA1 tI)),(.cD0 aB yP),[.val ⟨true,aB,[]⟩,.val ⟨false,aA1,[]⟩,.val ⟨false,tI,[]⟩],[⟨true,aB,[2]⟩,⟨false,aA,[2]⟩,⟨false,.bool,[0]⟩],false,none,
 ((fun x=>bC aB x.1<=1000000000):(aS × ((List bW) × Int))->Prop),
 ((fun x=>taF x.1 x.2.1 x.2.2):(aS × ((List bW) × Int))->(aS × (cK × Bool)))⟩
def aKM:T:=lC (jO aB dF tI 0) <| dX (kL nE) (vQ nE [aM,cL,aX,aT]) 73 aE (gQ aB dF tI 1 0) <| nR nE 2 3 4 (iS bM (bO nE 2) 20 <| fY 5 (cR 73 aE dF (gQ aB dF tI 1 0) nE 2 <| dC 1 (.cD2 aB aE (cJ nE 2 2) fB) 7 8 (cO (aIO aB) (cJ nE 2 2) (fQ nE 3 2) (cJ nE 1 2)) <| cR 73 aE dF (gQ aB dF tI 1 0) nE 2 <| yJ 2 aB aE (cJ nE 2 2) mT <| uH 3 aG tI [cJ nE 2 2,gN,qJ dF tI 0] <| .ite (cJ nE 1 2) (oP 3 tI (cQ aG 10) <| kB 3 8 aA aA (fQ nE 3 2) 12 <| uM (bO nE 2) 1 0 nE [gW,bK,lS aB 11,jC]) <| jJ aB 1 11 (oP 3 tI (cQ aG 10) <| kB 3 8 aA aA (fQ nE 3 2) 12 <| uM (bO nE 2) 1 0 nE [gW,bK,lS aB 11,jC]) <| oP 3 tI (cQ aG 10) <| kB 3 8 aA aA (fQ nE 3 2) 12 <| uM (bO nE 2) 1 0 nE [gW,dD aG 10,lS aB 11,jC]) (cO (aIO aB) (cJ nE 2 2) (fQ nE 3 2) (cJ nE 1 2))) (cO (aIO aB) (cJ nE 2 2) (fQ nE 3 2) (cJ nE 1 2))
theorem aY2:Con.Holds Tryz.prog aDV:=tk ⟨[(2987,1002,oS 19 15++[.dr 0,.tm 11 0,.tm 10 0,.on 9,.sl 4,.sl 5])],[]⟩ aKM (aD aI2 (aD aF0 (aD aZC (aD bDP aL)))) fun (x:aS × ((List bW) × Int)) hx hp=>by
 dsimp only [aDV] at hx hp ⊢
 obtain ⟨m,bs,rate⟩:=x
 have hq:bC aB m<=1000000000:=hp
 delta aKM aAH yN aDF aT6;refine gH ?_
 refine iC ?_
 refine ⟨hq,fun _=>?_⟩
 refine xL (fun k=>((k:Int),(taK m bs rate k).2.2,(taK m bs rate k).1,(taK m bs rate k).2.1)) (fun k=>∀ i,i<k->taB m bs rate i=true) (min bs.length 20) rfl (by omega) fun I μ k hk hG _ go=>?_
 dsimp only
 refine iC ?_
 have hfin:=fun h3=>bWS (m:=m) (bs:=bs) (r:=rate) (k:=k) hk hG h3
 have hlen:=bEU m bs rate k
 have hsz:=bNC m bs rate k
 rw[show bs.getD k (aK aE)=bs.getD k [] from rfl]
 have hB:taB m bs rate k=iQ (taK m bs rate k).1 (bs.getD k []):=rfl
 have hnext:taB m bs rate k=true->∀ i,i<k+1->taB m bs rate i=true:=fun h i hi=>by
  rcases Nat.lt_or_eq_of_le (Nat.le_of_lt_succ hi) with h'|rfl
  ·exact hG i h'
  ·exact h
 have hs2:=bG6 (taK m bs rate k).1 (bs.getD k [])
 have hF1:k=min bs.length 20->taK m bs rate k=taF m bs rate:=fun h=>hfin (.inl h)
 have hF2:iQ (taK m bs rate k).1 (bs.getD k [])=false->taK m bs rate k=taF m bs rate:=fun h=>hfin (.inr h)
 rw[hB] at hnext
 simp only[taK] at go
 clear hfin hB hG
 generalize bs.getD k []=b at *
 generalize taK m bs rate k=s at *
 obtain ⟨sm,sl,sf⟩:=s
 dsimp only at *
 (repeat' first|intro _|(refine go2 _ ?_ ?_ ?_)|(refine go2 _ ?_ ?_)|(refine go _ ?_ ?_ ?_)|(refine go _ ?_ ?_)|(with_reducible apply And.intro))
 all_goals first|omega|(unfold maxLen;omega)|exact ⟨by show bC aB sm<=_;omega,hs2⟩|exact hF2 (by assumption)|exact hF1 (by omega)|exact hnext (by assumption) _ (by assumption)|skip
 all_goals first|exact Prod.ext rfl (Prod.ext (bE4 (by assumption)) rfl)|exact Prod.ext rfl (Prod.ext (bCK (by assumption) (by assumption)) rfl)|exact Prod.ext rfl (Prod.ext (bDR (by assumption) (by assumption)) rfl)|skip
theorem cAG {r:Int} {o:dU} {g:List Int} (h:opB o=true):opB (bBY r o g)=true:=by
 obtain ⟨h1,h2⟩:=(lQ o).1 h
 have hl:(bBY r o g).2.2.2.length=o.2.2.2.length:=eX _ _
 refine (lQ _).2 ⟨⟨h1.1,h1.2.1,h1.2.2.1,h1.2.2.2.1,h1.2.2.2.2.1,h1.2.2.2.2.2.1,h1.2.2.2.2.2.2.1,?_⟩,List.all_eq_true.2 fun v hv=>?_⟩
 ·rw[hl];exact h1.2.2.2.2.2.2.2
 ·obtain ⟨k,hk,rfl⟩:=List.getElem_of_mem hv
  have hk':k<o.2.2.2.length:=by rw[hl] at hk;exact hk
  rw[<- aO hk (d:=0)]
  have e:(bBY r o g).2.2.2.getD k 0=(fC (o.2.2.2.getD k 0) (gO r (g.getD k 0)).1).1:=tJ _ _ _ hk'
  rw[e]
  exact aFI _
theorem aYZ {m:List dU} {g:dV} {r:Int} (hm:bY m=true):bY (vN m g r).1=true/\(vN m g r).1.length=m.length:=by
 unfold vN
 split
 ·obtain ⟨h1,h2,h3⟩:=(bR m).1 hm
  have hl:(xJ r m g.1 m.length).length=m.length:=zM _ _ _ _
  have e:∀ i,i<m.length->(xJ r m g.1 m.length).getD i nO=bBY r (m.getD i nO) (g.1.getD i []):=fun i hi=>by unfold xJ;rw[tJ _ _ _ hi,if_pos hi]
  refine ⟨(bR _).2 ⟨by rw[hl];exact h1,by rw[hl];exact h2,fun i hi=>?_⟩,hl⟩
  rw[hl] at hi
  have:=h3 i hi
  unfold aVF at this ⊢
  rw[e i hi,e (i - 1) (by omega)]
  rw[Bool.and_eq_true] at this ⊢
  exact ⟨cAG this.1,this.2⟩
 ·exact ⟨hm,rfl⟩
theorem bD6 (B:Nat->Bool):(n:Nat)->aC3 B n<=n/\(∀ i,i<aC3 B n->B i=true)/\(aC3 B n=n\/B (aC3 B n)=false)
 | 0=>⟨Nat.le_refl _,fun i h=>absurd h (Nat.not_lt_zero _),.inl rfl⟩
 | n+1=>by
  obtain ⟨h1,h2,h3⟩:=bD6 B n
  by_cases h:aC3 B n=n/\B n=true
  ·have e:aC3 B (n+1)=n+1:=by show (if _ then _ else _)=_;rw[if_pos h]
   rw[e]
   refine ⟨Nat.le_refl _,fun i hi=>?_,.inl rfl⟩
   rcases Nat.lt_or_eq_of_le (Nat.le_of_lt_succ hi) with h'|rfl
   ·exact h2 i (by omega)
   ·exact h.2
  ·have e:aC3 B (n+1)=aC3 B n:=by show (if _ then _ else _)=_;rw[if_neg h]
   rw[e]
   refine ⟨by omega,h2,.inr ?_⟩
   rcases h3 with h3|h3
   ·cases hb:B (aC3 B n) with
    | false=>rfl
    | true=>exact absurd ⟨h3,by rw[h3] at hb;exact hb⟩ h
   ·exact h3
noncomputable def trK (c:bB) (bs:List (List bA)) (r:Int):Nat->List dU × (List Int × Bool)
 | 0=>(c.1,[],false)
 | k+1=>((vN (trK c bs r k).1 (jG ((trK c bs r k).1,c.2) (bs.getD k [])).1 r).1,(trK c bs r k).2.1++[(jG ((trK c bs r k).1,c.2) (bs.getD k [])).1.2.1],((trK c bs r k).2.2 || (vN (trK c bs r k).1 (jG ((trK c bs r k).1,c.2) (bs.getD k [])).1 r).2) || (jG ((trK c bs r k).1,c.2) (bs.getD k [])).1.2.2)
noncomputable def trB (c:bB) (bs:List (List bA)) (r:Int) (k:Nat):Bool:=decide (cH ((trK c bs r k).1,c.2) (bs.getD k [])=0)
noncomputable def trF (c:bB) (bs:List (List bA)) (r:Int):List dU × (List Int × Bool):=trK c bs r (aC3 (trB c bs r) (min bs.length 20))
theorem bU6 {c:bB} {bs:List (List bA)} {r:Int} {k:Nat} (h1:k<=min bs.length 20) (h2:∀ i,i<k->trB c bs r i=true) (h3:k=min bs.length 20\/trB c bs r k=false):trK c bs r k=trF c bs r:=by
 unfold trF;rw[bFJ _ k _ h1 h2 h3]
theorem bTH (c:bB) (bs:List (List bA)) (r:Int):(k:Nat)->bC aB (trK c bs r k).1=bC aB c.1
 | 0=>rfl
 | k+1=>(bDT _ _ _).trans (bTH c bs r k)
theorem bQD (c:bB) (bs:List (List bA)) (r:Int):(k:Nat)->(trK c bs r k).2.1.length=k
 | 0=>rfl
 | k+1=>by show (_++[_]).length=_;rw[List.length_append,bQD c bs r k];rfl
theorem bVX (c:bB) (b:List bA):bC aG (jG c b).1<=1000000000:=by
 by_cases h:cH c b=0
 ·rw[bIA h];exact bG6 _ _
 ·unfold jG;rw[if_neg h];exact Nat.zero_le _
def Wd (c:bB):Prop:=bY c.1=true/\∀ (m:List dU) (b:List bA),bY m=true->m.length=List.length c.1->iQ m b=true->cH (m,c.2) b=0
theorem bVI {c:bB} {b:List bA} (hb:iQ c.1 b=false):¬ cH c b=0:=fun h=>by
 have:=(pV h).2.1
 rw[hb] at this;cases this
theorem cC9 {c:bB} (hW:Wd c) (bs:List (List bA)) (r:Int):trF c bs r=taF c.1 bs r:=by
 have key:∀ k,(∀ i,i<k->taB c.1 bs r i=true)->trK c bs r k=taK c.1 bs r k/\bY (taK c.1 bs r k).1=true/\(taK c.1 bs r k).1.length=List.length c.1:=fun k=>by
  induction k with
  | zero=>intro _;exact ⟨rfl,hW.1,rfl⟩
  | succ k ih =>
   intro h
   obtain ⟨i1,i2,i3⟩:=ih fun i hi=>h i (by omega)
   have hb:iQ (taK c.1 bs r k).1 (bs.getD k [])=true:=h k (Nat.lt_succ_self _)
   have ha:=hW.2 _ _ i2 i3 hb
   have hg:jG ((taK c.1 bs r k).1,c.2) (bs.getD k [])=(aM0 (taK c.1 bs r k).1 (bs.getD k []),0):=bIA ha
   refine ⟨?_,?_,?_⟩
   ·rw[trK,taK,i1,hg]
   ·exact (aYZ i2).1
   ·exact (aYZ i2).2.trans i3
 have eB:∀ k,(∀ i,i<k->taB c.1 bs r i=true)->trB c bs r k=taB c.1 bs r k:=fun k hk=>by
  obtain ⟨i1,i2,i3⟩:=key k hk
  unfold trB
  rw[i1]
  cases hb:taB c.1 bs r k with
  | true=>exact decide_eq_true (hW.2 _ _ i2 i3 hb)
  | false=>exact decide_eq_false (bVI (c:=((taK c.1 bs r k).1,c.2)) hb)
 obtain ⟨s1,s2,s3⟩:=bD6 (taB c.1 bs r) (min bs.length 20)
 have e:trK c bs r (aC3 (taB c.1 bs r) (min bs.length 20))=trF c bs r:=bU6 s1 (fun i hi=>by rw[eB i fun j hj=>s2 j (by omega)];exact s2 i hi) (s3.imp id fun h=>by rw[eB _ s2];exact h)
 rw[<- e,(key _ s2).1];rfl
noncomputable section
set_option maxRecDepth 100000
theorem bYV {m:aS} {cuts:List Int} {d:Int} {rd:List Bool} {cp lm lm':List Int} {b:List bA} (h:cH (m,cuts,d,rd,cp,lm) b=0) (hl:lm'.length=lm.length) (hv:∀ i,i<lm'.length->lm'.getD i 0=100000):Wd (m,cuts,d,rd,cp,lm'):=by
 obtain ⟨a1,a2,a3,a4,a5,a6,a7,a8⟩:=pV h
 have hd:=bJ3 h
 have hc:=aHG a7
 change bY m=true at a1
 change rU m cuts=true at a3
 change bP m cuts=(cuts.length:Int)+1 at a4
 change bP m cuts<=4 at a5
 change (rd.length:Int)=bP m cuts at a6
 change cp.length=cuts.length at hc
 unfold aA3 at a7
 rw[Bool.and_eq_true] at a7
 unfold wN at a8
 rw[Bool.and_eq_true,decide_eq_true_eq] at a8
 have h8:(lm.length:Int)=bP m cuts:=a8.1
 refine ⟨a1,fun m' b' h1 h2 h3=>?_⟩
 change m'.length=List.length m at h2
 refine bIH h1 h3 ((yV m' cuts).2 ⟨h1,?_⟩) (by omega) hd (by omega) hc (fun v hv=>of_decide_eq_true (List.all_eq_true.1 a7.2 v hv)) (by omega) fun k hk=>?_
 ·rw[h2];exact ((yV m cuts).1 a3).2
 ·have hp:=bUI (m',cuts,d,rd,cp,[]) (k:Int) (b'.length:Int)
  rw[hv k hk];omega
theorem cCQ {l:List bA} (h1:l.length<=4) (h2:∀ p∈l,List.length p.1<=6/\List.length p.2<=6):bC aE l<=1000:=by
 have e:bC aE l=List.length l+((l:List bA).map (bC aF)).sum:=rfl
 have key:∀ l:List bA,(∀ p∈l,List.length p.1<=6/\List.length p.2<=6)->(l.map (bC aF)).sum<=12 * l.length:=fun l=>by
  induction l with
  | nil=>intro _;exact Nat.zero_le _
  | cons p l ih =>
   intro h
   have i1:=ih fun q hq=>h q (List.mem_cons_of_mem _ hq)
   have i2:=h p List.mem_cons_self
   have e2:bC aF p=bC aA p.1+bC aA p.2:=rfl
   rw[gY,gY] at e2
   rw[List.map_cons,List.sum_cons,List.length_cons];omega
 have:=key l h2
 omega
def aJZ:Con:=⟨48,hZ,(.cD0 aH hZ),[.box 119 ⟨true,hZ,[]⟩],[⟨true,aH,[1,1,0,1,1,1]⟩],false,none,
 ((fun x=>0<=x.2.1):(aW)->Prop),
 ((fun _=>aK (.cD0 aH (.cD0 (.slice 5 (.int .u8)) aQ))):(aW)->(bB × aW))⟩
def aKC:T:=dE 0 0 <| dX bF (gM aA (prA aH 5 (qT aH (eK aE cF aQ) 1))) 3 tI (kD 2) <| nR aA 2 3 4 (cR 3 tI aA (kD 2) aA 2 <| bFG 3 tI (bFT aA) (iO (kD 2) (bO aA 2) 100000) <| fE aA 2 1 0 aA 7 6) (.cD2 aH cD (mkA aH [pG aB aA bZ aF aH (eK aE cF aQ) 1,aTI aH 1 aH (eK aE cF aQ) 1,aTI aH 2 aH (eK aE cF aQ) 1,aTI aH 3 aH (eK aE cF aQ) 1,aTI aH 4 aH (eK aE cF aQ) 1,kD 2]) (bAP aH (eK aE cF aQ) 2 1))
theorem bIF (f:(aW)->(bB × aW)):aGU Tryz.prog [aAX] { aJZ with fn:=f } false 3000 ⟨[(2991,1002,[.dr 4,.dr 10,.dr 9,.dr 6,.dr 8,.dr 7,.tm 5 0,.sl 12])],[]⟩ = .ok aKC:=by kernel_rfl
theorem bHS (x:aW) (hx:okD (.cD0 (.slice 5 (.int .u8)) aQ) x) (hp:(fun x=>0<=x.2.1) x):aKC.wp [aAX] [⟨(.cD0 (.slice 5 (.int .u8)) aQ),x⟩] [] (fun v=>(fun x r=>(aNC 6 3 4 r.1 []/\Wd r.1)/\0<=r.2.2.1:(aW)->(bB × aW)->Prop) x (v.as (.cD0 aH (.cD0 (.slice 5 (.int .u8)) aQ)))):=by
 have q1:=bC0 x hx hp
 delta aKC aAX;refine gH ?_
 refine iC ?_
 generalize xH x=r at q1 ⊢;obtain ⟨c,b,c1⟩:=r;obtain ⟨k1,u1⟩:=q1;dsimp only at u1 ⊢
 obtain ⟨m,cuts,d,rd,cp,lm⟩:=c
 obtain ⟨⟨⟨h1,h2,h3,h4,h5,h6,h7,h8⟩,hA⟩,w1,w2,w3,w4⟩:=u1
 change List Int at lm
 dsimp only at h1 h2 h3 h4 h5 h6 w4 ⊢
 have hW:=fun lm'=>bYV (lm':=lm') hA
 clear w1 w2 w3 hA
 refine ⟨hp,fun _=>⟨fun s=>@LE.le Int _ 0 s.1/\List.length s.2=List.length lm/\∀ i:Nat,(i:Int)<s.1->i<List.length s.2->List.getD s.2 i 0=100000,fun s=>List.length s.2 - (s.1:Int).toNat,⟨Int.le_refl _,rfl,fun i h=>by omega⟩,fun s hs hI=>?_⟩⟩
 obtain ⟨t,l⟩:=s
 obtain ⟨e1,e2,e3⟩:=hI
 change Int at t
 change List Int at l
 change (0:Int)<=t at e1
 change List.length l=List.length lm at e2
 change ∀ i:Nat,(i:Int)<t->i<List.length l->List.getD l i 0=100000 at e3
 have e4:∀ i:Nat,(i:Int)<t+1->i<List.length (List.set l t.toNat 100000)->List.getD (List.set l t.toNat 100000) i 0=100000:=fun i a b=>by
  rw[List.length_set] at b
  rw[lG]
  split
  ·rfl
  ·rename_i hh
   exact e3 i (by omega) b
 try dsimp only
 (refine iC ?_;try with_reducible exact True.intro)
 (repeat' first|intro _|(with_reducible apply And.intro))
 all_goals first|omega|exact e4 _ (by assumption) (by assumption)|(rw[List.length_set];omega)|skip
 all_goals first|exact ⟨h1,h2,h3,h4,h5,by show List.length l<=4;omega,Nat.zero_le _,fun p hp=>(by cases hp)⟩|exact hW l e2 (fun i hi=>e3 i (by omega) hi)|(dsimp only;omega)|skip
theorem aM2:∃ f:(aW)->(bB × aW),(∀ x,okD (.cD0 (.slice 5 (.int .u8)) aQ) x->(fun x=>0<=x.2.1) x->(fun x r=>(aNC 6 3 4 r.1 []/\Wd r.1)/\0<=r.2.2.1:(aW)->(bB × aW)->Prop) x (f x))/\Con.Holds Tryz.prog { aJZ with fn:=f }:=zN (C:=aJZ) yL (aD aNV aL) bIF (fun x r=>(aNC 6 3 4 r.1 []/\Wd r.1)/\0<=r.2.2.1:(aW)->(bB × aW)->Prop) bHS
def aBL:(aW)->(bB × aW):=Classical.choose aM2
def aF9:Con:=⟨48,hZ,(.cD0 aH hZ),[.box 119 ⟨true,hZ,[]⟩],[⟨true,aH,[1,1,0,1,1,1]⟩],false,none,
 ((fun x=>0<=x.2.1):(aW)->Prop),
 ((aBL):(aW)->(bB × aW))⟩
theorem bJE:∀ x,okD (.cD0 (.slice 5 (.int .u8)) aQ) x->(fun x=>0<=x.2.1) x->(fun x r=>(aNC 6 3 4 r.1 []/\Wd r.1)/\0<=r.2.2.1:(aW)->(bB × aW)->Prop) x (aBL x):=(Classical.choose_spec aM2).1
theorem aV6:Con.Holds Tryz.prog aF9:=(Classical.choose_spec aM2).2
theorem bIC (x:aW) (hx:okD (.cD0 (.slice 5 (.int .u8)) aQ) x) (hp:(fun x=>0<=x.2.1) x):okD (.cD0 aH (.cD0 (.slice 5 (.int .u8)) aQ)) (aBL x)/\(fun x r=>(aNC 6 3 4 r.1 []/\Wd r.1)/\0<=r.2.2.1:(aW)->(bB × aW)->Prop) x (aBL x):=⟨aV6.ok x hp hx,bJE x hx hp⟩
def aE8:Con:=⟨49,bDY,(.cD0 aA1 hZ),[.box 119 ⟨true,hZ,[]⟩,.val ⟨true,aB,[]⟩],[⟨false,aA1,[3]⟩],false,none,
 ((fun x=>0<=x.1.2.1):(aW × aS)->Prop),
 ((fun _=>aK (.cD0 (.slice 73 aE) (.cD0 (.slice 5 (.int .u8)) aQ))):(aW × aS)->((List bW) × aW))⟩
def aDU:T:=cI 0 cD (dT cD aB) (dR 4) <| .loop (aPD nS) (mkA (aPD nS) [nJ 1,nI cF aQ 1 1,nI cF aQ 2 1,dH mQ 1,.nl 73 aE]) <| dY (aWZ tI nS 2) 0 <| fY 3 (yJ 1 cD aB (cO cD (nI cF nS 1 2) (nI cF nS 2 2) (nI cF nS 3 2)) (gK cD aB 1) <| bT 77 aF (lJ aE 4) <| eM aI0 (dR 2) 5 <| cI 0 cD (eH (eK aE cF aQ) 4) fB <| bX cC gF (nJ 7) <| aGP 77 aF aE (lJ aE 4) aM 8 <| oP 73 aE mT <| dM (tH 73 aE) dF dF (fV (aPD nS) 4 2) 10 <| aKR fJ (aWZ tI nS 2) 1 0 (mkA (aPD nS) [kO,nI cF aQ 1 7,nI cF aQ 2 7,dH mQ 7,iX])) (mkA (eK dF cF aQ) [fV (aPD nS) 4 2,nI cF nS 1 2,nI cF nS 2 2,nI cF nS 3 2])
theorem aXQ (f:(aW × aS)->((List bW) × aW)):aGU Tryz.prog [dZ,uX] { aE8 with fn:=f } false 3000 ⟨[(2991,1002,oS 10 8++[.dr 1,.tm 6 0,.on 5,.bx 1 0,.bx 1 1,.bx 1 2,.sl 3,.nq 3])],[(2981,3005,[],[4])]⟩ = .ok aDU:=by kernel_rfl
theorem aYM (x:aW × aS) (hx:okD (.cD0 (.cD0 (.slice 5 (.int .u8)) aQ) aB) x) (hp:(fun x=>0<=x.1.2.1) x):aDU.wp [dZ,uX] [⟨(.cD0 (.cD0 (.slice 5 (.int .u8)) aQ) aB),x⟩] [] (fun v=>(fun x r=>(List.length r.1<=3/\∀ b∈r.1,bC aE b<=1000)/\0<=r.2.2.1:(aW × aS)->((List bW) × aW)->Prop) x (v.as (.cD0 (.slice 73 aE) (.cD0 (.slice 5 (.int .u8)) aQ)))):=by
 obtain ⟨c,m⟩:=x
 have q1:=kN (c,4) ⟨hx.1,okI (by omega) (by omega)⟩ hp
 delta aDU dZ uX;refine gH ?_
 refine iC ?_
 refine ⟨hp,fun _=>?_⟩
 generalize iK (c,4)=r at q1 ⊢;obtain ⟨n1,c1⟩:=r;obtain ⟨k1,u1⟩:=q1;replace k1:okD aES c1:=k1.2;dsimp only at u1 ⊢
 have hn1:0<=n1/\n1<4:=⟨u1.1,u1.2.1 (by decide)⟩
 refine ⟨fun s=>@LE.le Int _ 0 s.1/\(List.length s.2.2.2.2:Int)+s.1<=3/\(∀ b∈s.2.2.2.2,bC aE b<=1000)/\@LE.le Int _ 0 s.2.2.1,fun s=>(s.1:Int).toNat,⟨hn1.1,by show (0:Int)+n1<=3;omega,fun b hb=>(by cases hb),u1.2.2.2⟩,fun s hs hI=>?_⟩
 obtain ⟨j,bf,i,h,l⟩:=s
 obtain ⟨e1,e2,e3,e4⟩:=hI
 change Int at j
 change List (List bA) at l
 change 0<=j at e1
 change (l.length:Int)+j<=3 at e2
 change ∀ b∈l,bC aE b<=1000 at e3
 change 0<=(i:Int) at e4
 try dsimp only
 refine ⟨fun hlt=>⟨e4,fun _=>?_⟩,fun hge=>⟨⟨by omega,e3⟩,e4⟩⟩
 have q2:=aUY ((bf,i,h),m) ⟨⟨hs.2.1,hs.2.2.1,hs.2.2.2.1⟩,hx.2⟩ e4
 generalize yW ((bf,i,h),m)=r at q2 ⊢;obtain ⟨b2,c2⟩:=r;obtain ⟨k2,u2⟩:=q2;replace k2:okD aES c2:=k2.2;dsimp only at u2 ⊢
 change List bA at b2
 have hb1:1<=List.length b2:=u2.1.1
 have hb4:List.length b2<=4:=u2.2.1
 have hb6:∀ p∈b2,List.length p.1<=6/\List.length p.2<=6:=u2.2.2.1
 have hc2:=u2.2.2.2
 clear u2
 intro _ hmn
 refine ⟨hc2,fun _=>?_⟩
 have q3:=kN (c2,min 2 ((List.length b2:Nat):Int)) ⟨k2,hmn⟩ hc2
 generalize iK (c2,min 2 ((List.length b2:Nat):Int))=r at q3 ⊢;obtain ⟨n3,c3⟩:=r;obtain ⟨k3,u3⟩:=q3;dsimp only at u3 ⊢
 have hn3:0<=n3/\n3<min 2 ((List.length b2:Nat):Int):=⟨u3.1,u3.2.1 (by show (0:Int)<min 2 _;omega)⟩
 have hc3:=u3.2.2.2
 clear u3
 have hsl:bC aE (List.drop 0 (List.take (1+n3).toNat b2))<=1000:=cCQ (by rw[List.drop_zero,List.length_take];omega) fun p hp=>hb6 p (List.mem_of_mem_take (List.mem_of_mem_drop hp))
 have e5:∀ b∈l++[List.drop 0 (List.take (1+n3).toNat b2)],bC aE b<=1000:=fun b hb=>by
  rcases List.mem_append.1 hb with hb|hb
  ·exact e3 b hb
  ·rw[List.mem_singleton] at hb
   subst hb;exact hsl
 (repeat' first|intro _|(with_reducible apply And.intro))
 all_goals first|omega|(unfold maxLen;omega)|exact hc3|exact e5 _ (by assumption)|(rw[List.length_append,List.length_singleton];omega)|skip
theorem aD4:∃ f:(aW × aS)->((List bW) × aW),(∀ x,okD (.cD0 (.cD0 (.slice 5 (.int .u8)) aQ) aB) x->(fun x=>0<=x.1.2.1) x->(fun x r=>(List.length r.1<=3/\∀ b∈r.1,bC aE b<=1000)/\0<=r.2.2.1:(aW × aS)->((List bW) × aW)->Prop) x (f x))/\Con.Holds Tryz.prog { aE8 with fn:=f }:=zN (C:=aE8) yL (aD rI (aD aKF aL)) aXQ (fun x r=>(List.length r.1<=3/\∀ b∈r.1,bC aE b<=1000)/\0<=r.2.2.1:(aW × aS)->((List bW) × aW)->Prop) aYM
def vT:(aW × aS)->((List bW) × aW):=Classical.choose aD4
def zI:Con:=⟨49,bDY,(.cD0 aA1 hZ),[.box 119 ⟨true,hZ,[]⟩,.val ⟨true,aB,[]⟩],[⟨false,aA1,[3]⟩],false,none,
 ((fun x=>0<=x.1.2.1):(aW × aS)->Prop),
 ((vT):(aW × aS)->((List bW) × aW))⟩
theorem bAC:∀ x,okD (.cD0 (.cD0 (.slice 5 (.int .u8)) aQ) aB) x->(fun x=>0<=x.1.2.1) x->(fun x r=>(List.length r.1<=3/\∀ b∈r.1,bC aE b<=1000)/\0<=r.2.2.1:(aW × aS)->((List bW) × aW)->Prop) x (vT x):=(Classical.choose_spec aD4).1
theorem aL0:Con.Holds Tryz.prog zI:=(Classical.choose_spec aD4).2
theorem bBA (x:aW × aS) (hx:okD (.cD0 (.cD0 (.slice 5 (.int .u8)) aQ) aB) x) (hp:(fun x=>0<=x.1.2.1) x):okD (.cD0 (.slice 73 aE) (.cD0 (.slice 5 (.int .u8)) aQ)) (vT x)/\(fun x r=>(List.length r.1<=3/\∀ b∈r.1,bC aE b<=1000)/\0<=r.2.2.1:(aW × aS)->((List bW) × aW)->Prop) x (vT x):=⟨aL0.ok x hp hx,bAC x hx hp⟩
def aG9:Con:=⟨19,bCA,(.cD0 aH (.cD0 aA1 tI)),[.val ⟨false,bCA,[]⟩],[⟨true,aH,[0,0,0,0,0,0]⟩,⟨false,aA1,[0]⟩,⟨false,tI,[0]⟩],false,none,
 ((fun x=>x.length<=1048576):(List Int)->Prop),
 ((fun _=>aK (.cD0 aH (.cD0 (.slice 73 aE) tI))):(List Int)->(bB × ((List bW) × Int)))⟩
def aGC:T:=dE 0 0 <| dE 1 1 <| yJ 2 cD aB (eH (eK aH cF aQ) 2) (.p1 aB (bH6 aA bZ aF) (lJ aH 2)) <| bT 73 aE (lJ dF 3) <| dY gD 0 <| cG 5 (cI 3 cD (eH (eK dF cF aQ) 3) (dR 10) <| .ite (lJ .bool 6) (kI 73 aE (lJ dF 3) fJ 7 1 <| bN 73 aE dF (lJ dF 3) 8 <| mG 73 aE dF aE [lJ dF 3,gP,.nl 77 aF] <| aLU (.lit 3 tI 3) aEO (iO (dR 655) (dR 8192) 65536) <| eI 4 cD (eH (oJ cF aQ) 6) iX <| fA (eK aH dF tI) (lJ aH 2) gN (nJ 12)) <| aLU (.lit 3 tI 3) aEO (iO (dR 655) (dR 8192) 65536) <| eI 4 cD (eH (oJ cF aQ) 6) lN <| fA (eK aH dF tI) (lJ aH 2) (lJ dF 3) (nJ 8)) <| aLU (.lit 3 tI 3) aEO (iO (dR 655) (dR 8192) 65536) <| eI 4 cD (eH (eK dF cF aQ) 3) fB <| fA (eK aH dF tI) (lJ aH 2) (lJ dF 3) (nJ 7)
theorem bBK (f:(List Int)->(bB × ((List bW) × Int))):aGU Tryz.prog [qG,aF9,zI,rQ,mN] { aG9 with fn:=f } false 3000 ⟨[],[(2985,7011,[32],[]),(2985,5007,[32],[]),(2985,2006,[32],[])]⟩ = .ok aGC:=by kernel_rfl
theorem bBZ (x:List Int) (hx:okD (.slice 5 (.int .u8)) x) (hp:(fun x=>x.length<=1048576) x):aGC.wp [qG,aF9,zI,rQ,mN] [⟨(.slice 5 (.int .u8)),x⟩] [] (fun v=>(fun x r=>(aNC 6 3 4 r.1 []/\Wd r.1)/\List.length r.2.1<=3/\∀ b∈r.2.1,bC aE b<=1000:(List Int)->(bB × ((List bW) × Int))->Prop) x (v.as (.cD0 aH (.cD0 (.slice 73 aE) tI)))):=by
 have hp':List.length x<=1048576:=hp
 delta aGC qG aF9 zI rQ mN;refine gH ?_
 refine iC ?_
 refine ⟨hp',fun hc=>⟨Int.le_refl _,fun _=>?_⟩⟩
 have q1:=bIC (aWT x) hc (Int.le_refl _)
 generalize aBL (aWT x)=r at q1 ⊢;obtain ⟨c,c1⟩:=r;obtain ⟨k1,u1⟩:=q1;have kc:=k1.1;replace k1:okD aES c1:=k1.2;dsimp only at u1 ⊢
 obtain ⟨⟨hCf,hW⟩,hc1⟩:=u1
 obtain ⟨m,cf⟩:=c
 refine ⟨hc1,fun _=>?_⟩
 have q2:=bBA (c1,m) ⟨k1,kc.1⟩ hc1
 generalize vT (c1,m)=r at q2 ⊢;obtain ⟨l,c2⟩:=r;obtain ⟨k2,u2⟩:=q2;replace k2:okD aES c2:=k2.2;dsimp only at u2 ⊢
 change List (List bA) at l
 obtain ⟨⟨hl3,hlz⟩,hc2⟩:=u2
 change List.length l<=3 at hl3
 change ∀ b∈l,bC aE b<=1000 at hlz
 have q3:=(aPH (c2,10) ⟨k2,okI (by omega) (by omega)⟩ hc2).2
 generalize yC (c2,10)=r at q3 ⊢;obtain ⟨o3,c3⟩:=r;dsimp only at q3 ⊢
 have hset:∀ (k:Nat),∀ b∈List.set l k [],bC aE b<=1000:=fun k b hb=>by
  rcases List.mem_or_eq_of_mem_set hb with hb|rfl
  ·exact hlz b hb
  ·exact Nat.zero_le _
 (repeat' first|intro _|(with_reducible apply And.intro))
 all_goals first|omega|exact hc2|exact q3|exact hCf|exact hW|exact hlz _ (by assumption)|exact hset _ _ (by assumption)|(rw[List.length_set];omega)|(rename_i hh;cases hh;done)|(simp;done)|skip
theorem aFZ:∃ f:(List Int)->(bB × ((List bW) × Int)),(∀ x,okD (.slice 5 (.int .u8)) x->(fun x=>x.length<=1048576) x->(fun x r=>(aNC 6 3 4 r.1 []/\Wd r.1)/\List.length r.2.1<=3/\∀ b∈r.2.1,bC aE b<=1000:(List Int)->(bB × ((List bW) × Int))->Prop) x (f x))/\Con.Holds Tryz.prog { aG9 with fn:=f }:=zN (C:=aG9) yL (aD bR0 (aD aV6 (aD aL0 (aD aJ1 (aD aB0 aL))))) bBK (fun x r=>(aNC 6 3 4 r.1 []/\Wd r.1)/\List.length r.2.1<=3/\∀ b∈r.2.1,bC aE b<=1000:(List Int)->(bB × ((List bW) × Int))->Prop) bBZ
def xF:(List Int)->(bB × ((List bW) × Int)):=Classical.choose aFZ
def aO4:Con:=⟨19,bCA,(.cD0 aH (.cD0 aA1 tI)),[.val ⟨false,bCA,[]⟩],[⟨true,aH,[0,0,0,0,0,0]⟩,⟨false,aA1,[0]⟩,⟨false,tI,[0]⟩],false,none,
 ((fun x=>x.length<=1048576):(List Int)->Prop),
 ((xF):(List Int)->(bB × ((List bW) × Int)))⟩
theorem bBX:∀ x,okD (.slice 5 (.int .u8)) x->(fun x=>x.length<=1048576) x->(fun x r=>(aNC 6 3 4 r.1 []/\Wd r.1)/\List.length r.2.1<=3/\∀ b∈r.2.1,bC aE b<=1000:(List Int)->(bB × ((List bW) × Int))->Prop) x (xF x):=(Classical.choose_spec aFZ).1
theorem aO6:Con.Holds Tryz.prog aO4:=(Classical.choose_spec aFZ).2
theorem bBT (x:List Int) (hx:okD (.slice 5 (.int .u8)) x) (hp:(fun x=>x.length<=1048576) x):okD (.cD0 aH (.cD0 (.slice 73 aE) tI)) (xF x)/\(fun x r=>(aNC 6 3 4 r.1 []/\Wd r.1)/\List.length r.2.1<=3/\∀ b∈r.2.1,bC aE b<=1000:(List Int)->(bB × ((List bW) × Int))->Prop) x (xF x):=⟨aO6.ok x hp hx,bBX x hx hp⟩
end
theorem bN4 (c:bB) (b:List bA):(jG c b).2=cH c b:=by
 unfold jG
 split
 ·rename_i h;exact h.symm
 ·rfl
noncomputable def aTM:Con:=⟨20,(.cD0 aH (.cD0 aA1 tI)),(.cD0 aB yP),[.val ⟨true,aH,[]⟩,.val ⟨false,aA1,[]⟩,.val ⟨false,tI,[]⟩],[⟨true,aB,[1]⟩,⟨false,aA,[1]⟩,⟨false,.bool,[0]⟩],false,none,
 ((fun x=>bC aH x.1<=2000000/\∀ b∈x.2.1,bC aE b<=2000000):(bB × ((List bW) × Int))->Prop),
 ((fun x=>trF x.1 x.2.1 x.2.2):(bB × ((List bW) × Int))->(aS × (cK × Bool)))⟩
def bD5:T:=lC (.p1 aB (bH6 aA bZ aF) (jO aH dF tI 0)) <| kI 73 aE (gQ aH dF tI 1 0) aI0 2 20 <| aGP 73 aE dF (gQ aH dF tI 1 0) aM 3 <| iN 73 aE gD lZ (mkA lZ [aM,cL,aX,aX,aT]) <| kR bM (jX (rS aB aA) 6) 5 7 (iV 73 aE dF gD (rS aB aA) 6 <| yJ 1 aH aE (.cD2 aB (bH6 aA bZ aF) (aBT lZ 6) (prA aH 1 (jO aH dF tI 0))) gP <| wA (iD aG 1 9) 0 <| cE 10 (cO (aIO aB) (aBT lZ 6) (fV lZ 4 6) (cQ lZ 6)) <| nV 2 (cO (rS aG tI) (aBT lZ 6) (qT aG tI 9) (dD (eK aH dF tI) 0)) 3 tI (aTI aG 1 aG tI 9) <| kB 3 8 aA aA (fV lZ 4 6) 12 <| sJ lZ 6 (gZ (rS aB aA) 6 1 0 lZ [gW,bK,lS aB 11,lS aB 11,jC]) <| jJ aB 1 11 (gZ (rS aB aA) 6 1 0 lZ [gW,bK,lS aB 11,lS aB 11,jC]) <| gZ (rS aB aA) 6 1 0 lZ [gW,prA aG 2 (qT aG tI 9),lS aB 11,lS aB 11,jC]) (cO (aIO aB) (aBT lZ 6) (fV lZ 4 6) (cQ lZ 6))
set_option maxRecDepth 100000 in
theorem bR6:Con.Holds Tryz.prog aTM:=tk ⟨[(2987,1006,oS 25 17++[.dr 0,.dr 1,.tm 28 0,.tm 10 0,.on 9,.sl 4,.bx 1 0,.sl 5])],[]⟩ bD5 (aD aGM (aD aNH (aD bC3 aL))) fun (x:bB × ((List bW) × Int)) hx hp=>by
 dsimp only [aTM] at hx hp ⊢
 obtain ⟨c,bs,rate⟩:=x
 obtain ⟨hp1,hp2⟩:bC aH c<=2000000/\∀ b∈(bs:List (List bA)),bC aE b<=2000000:=hp
 have hcm:bC aB c.1<=bC aH c:=Nat.le_add_right _ _
 delta bD5 jM aB9 zB;refine gH ?_
 refine iC ?_
 refine ⟨by omega,fun _ hbl _=>⟨by omega,fun _ _=>?_⟩⟩
 obtain ⟨L,hL⟩:∃ L,L=min bs.length 20:=⟨_,rfl⟩
 have eL:(min (bs.length:Int) 20).toNat=L:=by omega
 have hLl:(bs.take L).length=L:=by rw[List.length_take];omega
 rw[eL,List.drop_zero]
 refine xL (fun k=>((k:Int),(trK c bs rate k).2.2,(trK c bs rate k).1,(trK c bs rate k).1,(trK c bs rate k).2.1)) (fun k=>∀ i,i<k->trB c bs rate i=true) L rfl (by omega) fun I μ k hk hG _ go=>?_
 dsimp only
 refine iC ?_
 have hfin:=fun h3=>bU6 (c:=c) (bs:=bs) (r:=rate) (k:=k) (by omega) hG h3
 have hlen:=bQD c bs rate k
 have hsz:=bTH c bs rate k
 have hcz:bC aH ((trK c bs rate k).1,c.2)=bC aH c:=by
  have e:∀ (m:List dU),bC aH (m,c.2)=bC aB m+(bC aH c - bC aB c.1):=fun m=>by
   have e2:bC aH c=bC aB c.1+bC (.cD0 aA (.cD0 tI (.cD0 bZ aF))) c.2:=rfl
   rw[e2,Nat.add_sub_cancel_left];rfl
  rw[e,hsz];omega
 have hT:k<L->(bs.take L).getD k (aK aE)=bs.getD k []:=fun h=>by
  rw[aO (by omega),aO (by omega),List.getElem_take]
 by_cases hkL:k<L
 ·rw[hT hkL,hLl]
  have hB:trB c bs rate k=decide ((jG ((trK c bs rate k).1,c.2) (bs.getD k [])).2=0):=by unfold trB;rw[bN4]
  have hnext:trB c bs rate k=true->∀ i,i<k+1->trB c bs rate i=true:=fun h i hi=>by
   rcases Nat.lt_or_eq_of_le (Nat.le_of_lt_succ hi) with h'|rfl
   ·exact hG i h'
   ·exact h
  have hs2:=bVX ((trK c bs rate k).1,c.2) (bs.getD k [])
  have hbz:bC aE (bs.getD k [])<=2000000:=by
   rw[aO (show k<bs.length by omega)];exact hp2 _ (List.getElem_mem _)
  have hF1:k=min bs.length 20->trK c bs rate k=trF c bs rate:=fun h=>hfin (.inl h)
  have hF2:trB c bs rate k=false->trK c bs rate k=trF c bs rate:=fun h=>hfin (.inr h)
  rw[hB] at hnext hF2
  simp only[trK] at go
  clear hfin hB hG
  generalize bs.getD k []=b at *
  generalize trK c bs rate k=s at *
  obtain ⟨sm,sl,sf⟩:=s
  dsimp only at *
  generalize jG (sm,c.2) b=g at *
  (repeat' first|intro _|(refine go2 _ ?_ ?_ ?_)|(refine go2 _ ?_ ?_)|(refine go _ ?_ ?_ ?_)|(refine go _ ?_ ?_)|(with_reducible apply And.intro))
  all_goals first|omega|(unfold maxLen;omega)|exact ⟨by show bC aB sm<=_;omega,hs2⟩|exact hF2 (decide_eq_false (by assumption))|exact hF1 (by omega)|exact hnext (decide_eq_true (by assumption)) _ (by assumption)|skip
  all_goals first|exact Prod.ext rfl (Prod.ext (bE4 (by assumption)) rfl)|exact Prod.ext rfl (Prod.ext (bCK (by assumption) (by assumption)) rfl)|exact Prod.ext rfl (Prod.ext (bDR (by assumption) (by assumption)) rfl)|skip
 ·exact ⟨fun h=>by omega,fun _=>hfin (.inl (by omega))⟩
set_option maxRecDepth 100000
theorem sumB9 {B:Nat}:{l:List Nat}->(∀ x∈l,x<=B)->l.sum<=l.length * B
 | [],_=>by simp
 | x :: l,h=>by
  have h1:=sumB9 (fun y hy=>h y (List.mem_cons_of_mem _ hy)) (l:=l)
  have h2:=h x (by simp)
  rw[List.sum_cons,List.length_cons,Nat.succ_mul];omega
theorem cf_sz {c:bB} {l:bW} (h:aNC 9 4 6 c l):bC aH c<=2000000/\bC aE l<=2000000:=by
 obtain ⟨h1,h2,h3,h4,h5,h6,h7,h8⟩:=h
 constructor
 ·have e:bC aH c=(List.length c.1+((c.1:List dU).map (bC bQ)).sum)+(bC aA c.2.1+(0+((List.length c.2.2.2.1+((c.2.2.2.1:List Bool).map (bC .bool)).sum)+(bC aA c.2.2.2.2.1+bC aA c.2.2.2.2.2)))):=rfl
  have g1:=sumB9 (B:=40) (l:=(c.1:List dU).map (bC bQ)) (fun x hx=>by
   obtain ⟨o,ho,rfl⟩:=List.mem_map.1 hx
   have e2:bC bQ o=0+(0+(0+bC aA o.2.2.2)):=rfl
   have:=h2 o ho
   rw[e2,gY];omega)
  rw[List.length_map] at g1
  have g2:=sumB9 (B:=0) (l:=(c.2.2.2.1:List Bool).map (bC .bool)) (fun x hx=>by
   obtain ⟨o,ho,rfl⟩:=List.mem_map.1 hx
   exact Nat.le_refl _)
  rw[List.length_map] at g2
  rw[e,gY,gY,gY];omega
 ·have e:bC aE l=List.length l+((l:List bA).map (bC aF)).sum:=rfl
  have g1:=sumB9 (B:=14) (l:=(l:List bA).map (bC aF)) (fun x hx=>by
   obtain ⟨o,ho,rfl⟩:=List.mem_map.1 hx
   have e2:bC aF o=bC aA o.1+bC aA o.2:=rfl
   have:=h8 o ho
   rw[e2,gY,gY];omega)
  rw[List.length_map] at g1
  rw[e];omega
noncomputable def aG4:Con:=⟨23,(.cD0 aB aB),.bool,[.val ⟨true,aB,[]⟩,.val ⟨true,aB,[]⟩],[⟨false,.bool,[0]⟩],false,none,
 ((fun _=>True):(aS × aS)->Prop),
 ((fun x=>eqB x.1 x.2):(aS × aS)->(Bool))⟩
def t_s_SameModel:T :=
 .cD1 (.cD4 98 bQ) (.p1 aB aB (.Z 0)) <|
 .cD1 (.cD4 98 bQ) (prA (.cD0 aB aB) 1 (.Z 0)) <|
 .cD1 (.cmp .neq .i64) (.cD2 tI tI (.Z 1) (.Z 2)) <|
 .ite (.Z 3) (
  .ret (.cb false)) (
  .loop tI (.ci .i64 0) <|
   .cD1 (.cD4 98 bQ) (.p1 aB aB (.Z 0)) <|
   .cD1 (.cmp .lss .i64) (.cD2 tI tI (.Z 4) (.Z 5)) <|
   .ite (.Z 6) (
    .cD1 (.cD5 98 bQ) (.cD2 aB tI (.p1 aB aB (.Z 0)) (.Z 4)) <|
    .cD1 (.cD5 98 bQ) (.cD2 aB tI (prA (.cD0 aB aB) 1 (.Z 0)) (.Z 4)) <|
    .call 0 (.cD2 bQ bQ (.Z 7) (.Z 8)) <|
    .cD1 .not (.Z 9) <|
    .ite (.Z 10) (
     .ret (.cb false)) (
     .cD1 (.ar .add .i64) (.cD2 tI tI (.Z 4) (.ci .i64 1)) <|
     .cD3 0 (.Z 11))) (
    .ret (.cb true)))
theorem h_s_SameModel:Con.Holds Tryz.prog aG4:=tk ⟨[(2988,2004,oS 12 6++[.dr 0,.dr 1,.tm 5 0])],[]⟩ t_s_SameModel (aD bM9 aL) fun (x:aS × aS) hx hp=>by
 dsimp only [aG4] at hx hp ⊢
 obtain ⟨a,b⟩:=x
 have hm:a.length<=9223372036854775807:=by have:a.length<=maxLen:=hx.1.1;unfold maxLen at this;omega
 delta t_s_SameModel aPS;refine gH ?_
 simp only[aI7,aIR,cAH,cB5,cBI,aF6,bO0]
 refine fun _ _=>⟨fun h=>eqF fun e=>h (by rw[e]),fun hl=>?_⟩
 refine ⟨fun s=>∃ k:Nat,k<=a.length/\s=(k:Int)/\∀ i,i<k->a.getD i (aK bQ)=b.getD i (aK bQ),fun s=>a.length - (s:Int).toNat,⟨0,by omega,rfl,by omega⟩,fun s _ hI=>?_⟩
 obtain ⟨k,hk,rfl,ha⟩:=hI
 refine iC ?_
 refine fun _=>?_
 constructor
 ·intro hlt
  (repeat' first|intro _|(with_reducible apply And.intro))
  all_goals first|omega|(exact eqF fun e=>‹¬ _=_› (by rw[e]))|skip
  refine ⟨k+1,by omega,rfl,fun i hi=>?_⟩
  rcases Nat.lt_or_eq_of_le (Nat.le_of_lt_succ hi) with h|rfl
  ·exact ha i h
  ·assumption
 ·intro hge
  exact eqT (bHZ hl fun i hi=>ha i (by omega))
noncomputable def oC:Con:=⟨4,(.slice 5 (.int .u8)),.bool,[.val ⟨false,(.slice 5 (.int .u8)),[]⟩],[⟨false,.bool,[0]⟩],false,none,
 ((fun _=>True):(List Int)->Prop),
 ((fun _=>true):(List Int)->(Bool))⟩
def t_w_FnLearns:T:=.call 0 (.Z 0) <|.ite (.Z 1) (.ret (.cb true)) (.call 1 (.Z 0) <|.call 2 (.Z 2) <|.call 3 (.cD2 aB (.cD0 (.slice 73 aE) tI) (.p1 aB (.cD0 aA (.cD0 tI (.cD0 bZ aF))) (.p1 aH (.cD0 (.slice 73 aE) tI) (.Z 2))) (prA (.cD0 aH (.cD0 (.slice 73 aE) tI)) 1 (.Z 2))) <|.call 4 (.cD2 aB (.cD0 (.slice 73 aE) tI) (.p1 aB (.cD0 aA (.cD0 tI (.cD0 bZ aF))) (.p1 aH (.cD0 (.slice 73 aE) tI) (.Z 2))) (prA (.cD0 aH (.cD0 (.slice 73 aE) tI)) 1 (.Z 2))) <|.call 5 (.cD2 aB aB (.p1 aB (.cD0 aA .bool) (.Z 3)) (.p1 aB (.cD0 aA .bool) (.Z 4))) <|.ite (.Z 6) (.call 6 (.cD2 aA aA (pjA (.cD0 aB (.cD0 aA .bool)) 1 (.Z 3)) (pjA (.cD0 aB (.cD0 aA .bool)) 1 (.Z 4))) <|.ite (.Z 7) (
  .cD1 (.eqv false .bool) (.cD2 .bool .bool (prA (.cD0 aB (.cD0 aA .bool)) 2 (.Z 3)) (prA (.cD0 aB (.cD0 aA .bool)) 2 (.Z 4))) <|
  .ite (.Z 8) (
   .call 5 (.cD2 aB aB (.p1 aB (.cD0 aA .bool) (.Z 4)) (.p1 aB (.cD0 aA .bool) (.Z 5))) <|
   .ite (.Z 9) (
    .call 6 (.cD2 aA aA (pjA (.cD0 aB (.cD0 aA .bool)) 1 (.Z 4)) (pjA (.cD0 aB (.cD0 aA .bool)) 1 (.Z 5))) <|
    .ite (.Z 10) (
     .cD1 (.eqv false .bool) (.cD2 .bool .bool (prA (.cD0 aB (.cD0 aA .bool)) 2 (.Z 4)) (prA (.cD0 aB (.cD0 aA .bool)) 2 (.Z 5))) <|
     .ret (.Z 11)) (
     .ret (.cb false))) (
    .ret (.cb false))) (
   .ret (.cb false))) (
  .ret (.cb false))) (
 .ret (.cb false)))
theorem h_w_FnLearns:Con.Holds Tryz.prog oC:=tk ⟨[],[]⟩ t_w_FnLearns (aD bXY (aD aO6 (aD bR6 (aD aZY (aD aY2 (aD h_s_SameModel (aD bFI aL))))))) fun (x:List Int) hx hp=>by
 dsimp only [oC] at hx hp ⊢
 delta t_w_FnLearns bGX aO4 aTM aDN aDV aG4 aJ4;refine gH ?_
 refine iC ?_
 refine ⟨fun _=>trivial,fun hb=>⟨by omega,fun _=>?_⟩⟩
 have q:=(bBT x hx (by show List.length x<=1048576;omega)).2
 generalize xF x=r at q ⊢
 obtain ⟨c,l,rate⟩:=r
 obtain ⟨⟨hCf,hW⟩,hl3,hlz⟩:=q
 dsimp only at hl3 hlz hW hCf ⊢
 rw[cC9 hW]
 have hs:bC aH c<=2000000:=by
  obtain ⟨h1,h2,h3,h4,h5,h6,h7,h8⟩:=hCf
  exact (cf_sz (l:=[]) ⟨by omega,h2,by omega,by omega,by omega,by omega,Nat.zero_le _,h8⟩).1
 have hm:bC aB c.1<=bC aH c:=Nat.le_add_right _ _
 generalize taF c.1 l rate=R
 obtain ⟨m,ls,s⟩:=R
 have e1:eqB m m=true:=aF6.2 rfl
 have e2:aJL Ty.bool s s=true:=by cases s <;> rfl
 refine ⟨⟨hs,fun b hb=>by have:=hlz b hb;omega⟩,fun _=>⟨by omega,fun _=>⟨by omega,fun _=>?_⟩⟩⟩
 dsimp only
 simp only[e1,e2]
 simp
theorem fnLearns_walk (w:World) (p0:Option Addr) (len0 cap0:Nat) (l0:List (Ty.D (.int .u8))) (h0:jT (Ty.n (.int .u8)) (rd (.int .u8) w) w p0 len0 cap0 l0) :
  Calls Tryz.prog 4 #[.slice p0 len0 cap0] w fun e w'=>e = .returned (.bool true)/\Below w.heap.size w w':=by
 have hA:fD w oC.ams [.slice p0 len0 cap0] (fW (oC.ams.map (·.mv.t)) (SV.as _ ⟨oC.argTy,l0⟩)):=by
  have e:SV.as (cV (oC.ams.map (·.mv.t))) ⟨oC.argTy,l0⟩=l0:=SV.as_self _ _
  rw[e]
  exact (fD.cons rfl rfl (jT.toRd (e:=5) h0) fD.nil)
 have hg:=h_w_FnLearns.givesL rfl (x:=l0) trivial (kE.okD (kE.of_rd (jT.toRd (e:=5) h0))) hA rfl (bIY _)
 have e:SV.as (cV (oC.rms.map (·.t))) ⟨oC.resTy,oC.fn l0⟩=true:=SV.as_self _ _
 rw[e] at hg
 refine hg.mono fun e w' hh=>?_
 clear hg
 obtain ⟨rs,bl,he,ho,hn,hb,bel⟩:=hh
 obtain ⟨r0,rs0,b0,bb0,rfl,rfl,k0,ho⟩:=tT.inv ho
 obtain ⟨rfl,rfl⟩:=ho
 have e0:=k0.bool
 exact ⟨he.trans (congrArg (fun l=>Ending.returned (aP1 l)) (congr (congrArg List.cons e0) rfl)),bel⟩
end Go.Proofs.YtlhaoiaieiladaaGreat
