/- Learning: the walk of impl.Learn. -/
import Derived.Test.YtahggdiafncdhaaLearnC
namespace Go.Proofs.Ytahggdiafncdhaa
open Go.ChangeShapes Go.WideShapes Go.ChangeAt Go.RowKit Go.Deep
set_option linter.unusedVariables false
set_option linter.unusedSimpArgs false
theorem cell_new {w:World} {c:Array Value} {T:TypeId} {n k:Nat} {v:Value} (h:n=w.heap.size) (hv:c[k]?=some v):(w.alloc (.cells c T)).cell? ⟨n,k,none⟩=some v:=by
 subst h;unfold World.cell?
 rw[show (w.alloc (.cells c T)).heap[(⟨w.heap.size,k,none⟩:Addr).block]?=some (.cells c T) from Go.heap_alloc_new w _]
 exact hv
theorem frozen_new {w:World} {c:Array Value} {T:TypeId} {n k:Nat} (h:n=w.heap.size):(w.alloc (.cells c T)).frozen? ⟨n,k,none⟩=false:=by
 subst h;unfold World.frozen?
 rw[show (w.alloc (.cells c T)).heap[(⟨w.heap.size,k,none⟩:Addr).block]?=some (.cells c T) from Go.heap_alloc_new w _]
 rfl
theorem satI_b (x:Int):-9223372036854775808≤(satI x).1∧(satI x).1≤9223372036854775807:=by have:=clampI_b x;show _≤clampI x∧clampI x≤_;omega
/-- The walk's own variables,in a later world. -/
def LB (w:World) (n:Nat) (a b c:Value) (wk:World):Prop:=w.heap.size+1+1<n∧n<wk.heap.size∧wk.cell? ⟨w.heap.size,0,none⟩=some a∧wk.cell? ⟨w.heap.size+1,0,none⟩=some b∧(∃ u,wk.cell? ⟨w.heap.size+1+1,0,none⟩=some u)∧wk.frozen? ⟨w.heap.size+1+1,0,none⟩=false∧wk.cell? ⟨n,0,none⟩=some c
theorem LB.keep {w wk w':World} {n:Nat} {a b c:Value} (h:LB w n a b c wk) (hk:∀ q,q=w.heap.size∨q=w.heap.size+1∨q=w.heap.size+1+1∨q=n→w'.heap[q]?=wk.heap[q]?) (hs:wk.heap.size≤w'.heap.size):LB w n a b c w':=by
 obtain ⟨h1,h2,h3,h4,⟨u,h5⟩,h6,h7⟩:=h
 exact ⟨h1,by omega,(World.cell?_of_block (hk _ (.inl rfl))).trans h3,(World.cell?_of_block (hk _ (.inr (.inl rfl)))).trans h4,⟨u,(World.cell?_of_block (hk _ (.inr (.inr (.inl rfl))))).trans h5⟩,(World.frozen?_of_block (hk _ (.inr (.inr (.inl rfl))))).trans h6,(World.cell?_of_block (hk _ (.inr (.inr (.inr rfl))))).trans h7⟩
theorem LB.below {w wk w':World} {n:Nat} {a b c:Value} (h:LB w n a b c wk) (hb:Below wk.heap.size wk w'):LB w n a b c w' :=
 h.keep (fun q hq=>hb.block q (by have:=h.1;have:=h.2.1;omega)) hb.size
theorem LB.only {w wk w':World} {n:Nat} {a b c:Value} {bl:List Nat} (h:LB w n a b c wk) (hb:Only bl wk w') (hn:∀ q∈bl,w.heap.size+1+1<q∧q≠n):LB w n a b c w' :=
 h.keep (fun q hq=>hb.block q (fun hm=>by have:=hn q hm;omega) (by have:=h.1;have:=h.2.1;omega)) hb.size
theorem learn_fin {w wk:World} {n:Nat} {a b v:Value} {R R':List OpD × Bool} (hL:LB w n a b v wk) (hB:Below w.heap.size w wk) (hF:∃ lo hi,w.heap.size+1+1<lo∧FrA tModel lo hi wk [v] R'.1) (hR:R=R') :
  RetLearn w R (.returned (.tuple #[.agg #[v],.bool R'.2])) (wk.setCell ⟨w.heap.size+1+1,0,none⟩ v):=by
 subst hR
 obtain ⟨lo,hi,hlo,hF⟩:=hF
 refine ⟨_,rfl,?_,?_⟩
 ·exact ((hF.set1 (.inl (by show w.heap.size+1+1<lo;omega)) _)).mono (by omega) (by have:=hF.hi_le;simp[World.setCell];omega) (by simp[World.setCell])
 ·exact hB.setCell (by show w.heap.size≤w.heap.size+1+1;omega) _
set_option maxRecDepth 100000 in
set_option maxHeartbeats 4000000 in
theorem learn_walk (cs gs:Array Value) (m:tModel.D) (g:tGrads.D) (rate:Int) (w:World) (h0:rd tModel w cs.toList m) (h1:rd tGrads w gs.toList g) (hr:(Lit.int .i64 rate).wf=true) (hP1:szT tModel m≤1000000000) (hP2:szT tGrads g≤1000000000) :
  Calls Try.prog 26 #[.agg cs,.agg gs,.int .i64 rate] w (RetLearn w (learnF m g rate)):=by
 obtain ⟨p0,c0,rfl,s0⟩:=Model_rd h0
 obtain ⟨pg,cg,rfl,sg,wg⟩:=Grads_rd h1
 obtain ⟨r1,r2⟩:=i64_of hr
 have H0:=Lib.hid h0;have HG:=Lib.hid h1;have HS:=Lib.hid sg;have HR:=Lib.hid hr
 clear h0 h1 s0 sg hr
 go_enter Try.func26,Try.ntmps26
 go_wp2_with fail
 refine (copyModel_c _ m _ (by exact rd_below H0.out belx) hP1).mono ?_
 rintro e w1 ⟨cs1,rfl,f1,b1⟩
 obtain ⟨p1,c1,rfl,-⟩:=Model_rd f1.rd
 have y0:=b1.size
 simp only[World.size_alloc,World.size_drew] at y0
 have B1:Below w.heap.size w (w1.alloc (.cells #[.slice p1 (List.length m) c1] 53)):=belx
 have L1:LB w w1.heap.size (.slice p0 (List.length m) c0) (.slice pg (List.length g.1) cg) (.slice p1 (List.length m) c1) (w1.alloc (.cells #[.slice p1 (List.length m) c1] 53)):=by
  refine ⟨by omega,by simp,?_,?_,⟨.slice none 0 0,?_⟩,?_,by simp⟩
  ·exact (alloc_cell (a:=⟨w.heap.size,0,none⟩) fcx).trans ((b1.cell (p:=⟨w.heap.size,0,none⟩) fcx).trans ((alloc_cell (a:=⟨w.heap.size,0,none⟩) fcx).trans ((alloc_cell (a:=⟨w.heap.size,0,none⟩) fcx).trans (by simp))))
  ·exact (alloc_cell (a:=⟨w.heap.size+1,0,none⟩) fcx).trans ((b1.cell (p:=⟨w.heap.size+1,0,none⟩) fcx).trans ((alloc_cell (a:=⟨w.heap.size+1,0,none⟩) fcx).trans (by simp)))
  ·refine (alloc_cell (a:=⟨w.heap.size+1+1,0,none⟩) fcx).trans ((b1.cell (p:=⟨w.heap.size+1+1,0,none⟩) fcx).trans ?_)
   exact cell_new (by simp) rfl
  ·refine (frozen_alloc (a:=⟨w.heap.size+1+1,0,none⟩) fcx).trans ((b1.frozen (p:=⟨w.heap.size+1+1,0,none⟩) fcx).trans ?_)
   exact frozen_new (by simp)
 have F1:=Lib.hid f1;clear f1
 have HL1:=Lib.hid L1
 obtain ⟨l1,l2,l3,l4,⟨l5u,l5⟩,l6,l7⟩:=L1
 go_wp2_with fail
 refine (modelOk_c _ m _ (by exact rd_below H0.out B1) True.intro).mono ?_
 rintro e w2 ⟨rfl,b2⟩
 have HL2:=Lib.hid (HL1.out.below b2)
 have B2:Below w.heap.size w w2:=Below.trans B1 (b2.mono fcx)
 clear l1 l2 l3 l4 l5 l5u l6 l7
 obtain ⟨l1,l2,l3,l4,⟨l5u,l5⟩,l6,l7⟩:=HL2.out
 cases hB:modelB m
 ·go_wp2
  refine bodyPost_ret (v:=.tuple #[.agg #[.slice p1 (List.length m) c1],.bool false]) (by simp[results,Try.results26,go_sem,l5]) rfl ?_
  exact learn_fin (R':=(m,false)) HL2.out B2 ⟨_,_,fcx,F1.out.below (Below.trans (b:=w1.alloc (.cells #[.slice p1 (List.length m) c1] 53)) belx (b2.mono fcx)) (Nat.le_refl _)⟩ (learn_no (by rw[hB];simp)).symm
 have BB2:Below w1.heap.size w1 w2:=Below.trans (b:=w1.alloc (.cells #[.slice p1 (List.length m) c1] 53)) belx (b2.mono fcx)
 go_wp2_with fail
 refine (fixOk_c rate _ HR.out True.intro).mono ?_
 rintro e w3 ⟨rfl,b3⟩
 have HL3:=Lib.hid (HL2.out.below b3)
 have B3:Below w.heap.size w w3:=Below.trans B2 (b3.mono fcx)
 have BB3:Below w1.heap.size w1 w3:=Below.trans BB2 (b3.mono fcx)
 clear l1 l2 l3 l4 l5 l5u l6 l7 HL2
 obtain ⟨l1,l2,l3,l4,⟨l5u,l5⟩,l6,l7⟩:=HL3.out
 cases hF:fixB rate
 ·go_wp2
  refine bodyPost_ret (v:=.tuple #[.agg #[.slice p1 (List.length m) c1],.bool false]) (by simp[results,Try.results26,go_sem,l5]) rfl ?_
  exact learn_fin (R':=(m,false)) HL3.out B3 ⟨_,_,fcx,F1.out.below BB3 (Nat.le_refl _)⟩ (learn_no (by rw[hF];simp)).symm
 go_wp2_with fail
 refine (fits_c _ m _ _ g.1 _ (by exact rd_below H0.out B3) (by exact HS.out.below B3) True.intro).mono ?_
 rintro e w4 ⟨rfl,b4⟩
 have HL4:=Lib.hid (HL3.out.below b4)
 have B4:Below w.heap.size w w4:=Below.trans B3 (b4.mono fcx)
 have BB4:Below w1.heap.size w1 w4:=Below.trans BB3 (b4.mono fcx)
 clear l1 l2 l3 l4 l5 l5u l6 l7 HL3
 obtain ⟨l1,l2,l3,l4,⟨l5u,l5⟩,l6,l7⟩:=HL4.out
 cases hG:fitB m g.1
 ·go_wp2
  refine bodyPost_ret (v:=.tuple #[.agg #[.slice p1 (List.length m) c1],.bool false]) (by simp[results,Try.results26,go_sem,l5]) rfl ?_
  exact learn_fin (R':=(m,false)) HL4.out B4 ⟨_,_,fcx,F1.out.below BB4 (Nat.le_refl _)⟩ (learn_no (by rw[hG];simp)).symm
 obtain ⟨bl,un,nd,rng⟩:=(F1.out.below BB4 (Nat.le_refl _)).un
 simp only[World.size_alloc] at rng
 have hml:=(un_len un).2
 unfold maxLen at hml
 have HU:=Lib.hid un
 have HFIT:=Lib.hid ((fitB_iff m g.1).1 hG)
 have hlen:=(HFIT.out).1
 have HE:=Lib.hid (learn_yes (g:=g) (r:=rate) hB hF hG)
 have HN:Hid (∀ q∈bl,w.heap.size+1+1<q∧q≠w1.heap.size):=fun q hq=>by have:=rng q hq;omega
 clear un hG hB hF b1 b2 b3 b4 B2 B3 BB2 BB3 y0
 go_wp2_with fail
 go_loopw [9,38] (fun o i wr=>∃ k:Nat,k≤List.length m∧i = .int .i64 k∧o = .bool (lrnA rate m g.1 k)∧Only bl w4 wr∧Hid (Un tModel wr [.slice p1 (List.length m) c1] (lrnK rate m g.1 k) bl)) (fun _ i _=>List.length m - (intOf i).toNat)
 case atStart=>exact ⟨0,by omega,rfl,rfl,Only.refl _ _,by show Un _ _ _ _ _;rw[lrnK_zero];exact HU.out⟩
 case round =>
  obtain ⟨k,hk,rfl,rfl,ho,hf⟩:=hrel
  have HLk:=Lib.hid (HL4.out.only ho HN.out)
  have Bk:Below w.heap.size w wr:=Below.trans B4 (ho.below (fun q hq=>by have:=HN.out q hq;omega) fcx)
  clear l1 l2 l3 l4 l5 l5u l6 l7
  obtain ⟨l1,l2,l3,l4,⟨l5u,l5⟩,l6,l7⟩:=HLk.out
  by_cases hlt:k<List.length m
  ·obtain ⟨o,hoD⟩:∃ o:OpD,o=List.getD m k zOp:=⟨_,rfl⟩
   have hkl:k<(lrnK rate m g.1 k).length:=by rw[lrnK_len];exact hlt
   have hMk:(lrnK rate m g.1 k)[k]=o:=by rw[hoD,← getD_at hkl (d:=zOp)];exact lrnK_get rate m g.1 hlt
   have hf0:Un (.slice 61 tOp) wr [.slice p1 (List.length m) c1] ((lrnK rate m g.1 k).set k o) bl:=by rw[← hMk,List.set_getElem_self];exact hf.out
   obtain ⟨b3,cap3,cu3,bu3,hv3,hbm3,hfz3,hc3,hR3,hn3,hs3,hA3,-⟩:=un_leaf hf0 nd hkl [true,true,true]
   simp only[Value.slice.injEq] at hv3
   obtain ⟨rfl,-,-⟩:=hv3
   obtain ⟨p3,n3,q3,rfl⟩:=un_form hR3
   obtain ⟨P,hP⟩:∃ P:List Int,P=o.2.2.2:=⟨_,rfl⟩
   have hR4:Un tInts wr [.slice p3 n3 q3] P bu3:=by rw[hP];exact hR3
   obtain ⟨rfl,hpm⟩:=un_len hR4
   unfold maxLen at hpm
   have e3:wr.cell? ⟨b3,k * 4+3,none⟩=some (.slice p3 P.length q3):=hc3 0 Nat.zero_lt_one
   obtain ⟨G,hGd⟩:∃ G:List Int,G=g.1.getD k []:=⟨_,rfl⟩
   have hkg:k<g.1.length:=by omega
   have hGk:g.1[k]=G:=by rw[hGd,getD_at hkg]
   obtain ⟨b4,off4,p4,c4,hpg,hz4,e4w,sl4⟩:=Row_at HS.out k hkg G hGk
   subst hpg
   have hGP:G.length=P.length:=by
    have h1:=(fitAt_iff m g.1 hlt hkg).1 (HFIT.out.2 k hlt)
    rw[hP,hoD,← hGk,h1,getD_at hlt]
   have HA:=Lib.hid hA3;have HR3:=Lib.hid hR4;have HSL:=Lib.hid sl4
   have HoD:=Lib.hid hoD;have HPo:=Lib.hid hP;have HGd:=Lib.hid hGd
   have HM:=Lib.hid (lrnK_succ rate m g.1 hlt (lrnO rate o G) (by rw[hoD,hGd]))
   have HNa:=Lib.hid (an_succ k (fun i=>lrnB rate (m.getD i zOp).2.2.2 (g.1.getD i []) (m.getD i zOp).2.2.2.length))
   have HBU:Hid (∀ q∈bu3,q∈bl):=hs3
   have HV:=Lib.hid (mp_len P.length (fun k=>(fixSub (P.getD k 0) (fixMul rate (G.getD k 0)).1).1))
   clear hA3 hR4 hR3 sl4 hoD hP hGd hf0 hMk hf hc3 hfz3 hs3
   have HGk:=Lib.hid hGk;clear hGk
   go_wp2_with fail
   obtain ⟨wo,hwo⟩:∃ wo,wo=wr:=⟨_,rfl⟩
   have HO:=Lib.hid hwo
   rw[← hwo] at HLk Bk HA ho
   have HR':=HR3
   clear l1 l2 l3 l4 l5 l5u l6 l7 e3 hwo HR3
   go_loopw [9,49] (fun o i wj=>∃ j:Nat,j≤P.length∧i = .int .i64 j∧o = .bool (lrnA rate m g.1 k || lrnB rate P G j)∧Only bu3 wo wj∧Hid (Un tInts wj [.slice p3 P.length q3] ((lrnV rate P G P.length).take j++P.drop j) bu3)) (fun _ i _=>P.length - (intOf i).toNat)
   case atStart=>exact ⟨0,by omega,rfl,by rw[show lrnB rate P G 0=false from rfl,Bool.or_false],by rw[HO.out];exact Only.refl _ _,by show Un _ _ _ _ _;simpa using HR'.out⟩
   case round =>
    obtain ⟨j,hj,rfl,rfl,ho2,hg⟩:=hrel
    clear HR' HO
    have HLj:=Lib.hid (HLk.out.only ho2 (fun q hq=>HN.out q (HBU.out q hq)))
    have Bj:Below w.heap.size w wr:=Below.trans Bk (ho2.below (fun q hq=>by have:=HN.out q (HBU.out q hq);omega) (by have:=Bk.size;omega))
    obtain ⟨l1,l2,l3,l4,⟨l5u,l5⟩,l6,l7⟩:=HLj.out
    by_cases hjl:j<P.length
    ·have HC:Hid ((lrnV rate P G P.length).length=P.length):=mp_len _ _
     have hjj:j<((lrnV rate P G P.length).take j++P.drop j).length:=by simp only[List.length_append,List.length_take,List.length_drop,HC.out];omega
     obtain ⟨b5,cap5,c5,bk5,hv5,hbm5,-,hfz5,hcl5,hc5,hR5,-,-,-,-,-⟩:=un_lens hg.out hn3 j hjj
     simp only[Value.slice.injEq] at hv5
     obtain ⟨rfl,-,-⟩:=hv5
     obtain ⟨rfl,hwf,rfl⟩:=hR5
     rw[get_mix _ _ _ hjl HC.out] at hwf
     have e5:wr.cell? ⟨b5,j,none⟩=some (.int .i64 P[j]):=by
      have:=hc5 0 (by simp)
      simp only[Ty.n,Nat.mul_one,Nat.add_zero,List.getElem_cons_zero] at this
      rw[this,get_mix _ _ _ hjl HC.out]
     have hjG:j<G.length:=by omega
     obtain ⟨b6,off6,rfl,hz6,e7w,y1,y2⟩:=int_at HSL.out j hjG
     obtain ⟨x,hx⟩:∃ x,x=P[j]:=⟨_,rfl⟩
     obtain ⟨y,hy⟩:∃ y,y=G[j]:=⟨_,rfl⟩
     have HAj:Hid ((lrnV rate P G P.length)[j]'(by rw[HC.out];exact hjl)=(fixSub x (fixMul rate y).1).1):=by
      show _=_
      rw[← getD_at (l:=lrnV rate P G P.length) (d:=0)]
      unfold lrnV
      rw[mp_getD _ _ _ hjl,getD_at hjl,getD_at hjG,hx,hy]
     have HBj:Hid (lrnB rate P G (j+1)=(lrnB rate P G j || ((fixMul rate y).2 || (fixSub x (fixMul rate y).1).2))):=by
      show _=_
      rw[hx,hy,← getD_at hjl (d:=0),← getD_at hjG (d:=0)]
      exact an_succ j _
     rw[← hx] at e5 hwf
     rw[← hy] at e7w y1 y2
     have HWX:=Lib.hid hwf;have HWY:Hid ((Lit.int .i64 y).wf=true):=wf_i64 ⟨y1,y2⟩
     have e7:wr.cell? ⟨b6,off6+j,none⟩=some (.int .i64 y):=(Bj.cell (p:=⟨b6,off6+j,none⟩) hz6).trans e7w
     have e4:wr.cell? ⟨b4,off4+k,none⟩=some (.slice (some ⟨b6,off6,none⟩) G.length c4):=(Bj.cell (p:=⟨b4,off4+k,none⟩) hz4).trans e4w
     have HE7:=Lib.hid e7w;have HE4:=Lib.hid e4w
     clear hx hy hc5 hfz5 hwf e7w e4w
     go_wp2_with fail
     refine (fixMul_c rate y _ HR.out HWY.out True.intro).mono ?_
     rintro e w5 ⟨rfl,b5'⟩
     have e5_5:w5.cell? ⟨b5,j,none⟩=some (.int .i64 x):=(b5'.cell (p:=⟨b5,j,none⟩) (un_lt _ _ _ _ _ hg.out b5 hbm5)).trans e5
     have HL5:=Lib.hid (HLj.out.below b5')
     have HWM:=Lib.hid (wf_i64 (satI_b _):(Lit.int .i64 (fixMul rate y).1).wf=true)
     clear l1 l2 l3 l4 l5 l5u l6 l7 e5 e4 e7
     go_wp2_with fail
     refine (fixSub_c x (fixMul rate y).1 _ HWX.out HWM.out True.intro).mono ?_
     rintro e w6 ⟨rfl,b6'⟩
     have Bx:Below wr.heap.size wr w6:=Below.trans b5' (b6'.mono b5'.size)
     have hg6:Un tInts w6 [.slice (some ⟨b5,0,none⟩) P.length q3] ((lrnV rate P G P.length).take j++P.drop j) bu3:=Un.keep _ _ _ _ (fun q hq=>Bx.block q (un_lt _ _ _ _ _ hg.out q hq)) hg.out
     obtain ⟨b9,cap9,c9,bk9,hv9,hbm9,-,hfz9,hcl9,hc9,hR9,-,-,-,-,hU9⟩:=un_lens hg6 hn3 j hjj
     simp only[Value.slice.injEq,Option.some.injEq,Addr.mk.injEq,and_true] at hv9
     obtain ⟨hb9,-,-⟩:=hv9
     subst hb9
     obtain ⟨rfl,-,rfl⟩:=hR9
     have e9:w6.cell? ⟨b5,j,none⟩=some (.int .i64 x):=(b6'.cell (p:=⟨b5,j,none⟩) (Nat.lt_of_lt_of_le (un_lt _ _ _ _ _ hg.out b5 hbm5) b5'.size)).trans e5_5
     have g9:=hfz9 j
     have HV9:=Lib.hid (hU9 0 (.int .i64 (fixSub x (fixMul rate y).1).1) (fixSub x (fixMul rate y).1).1 (by simp) ⟨rfl,wf_i64 (satI_b _),rfl⟩)
     have HS9:=Lib.hid (set_mix (lrnV rate P G P.length) P j hjl HC.out _ HAj.out)
     have HO9:=Lib.hid (Only.setCell (p:=⟨b5,j,none⟩) (ho2.bel Bx ho2.size) hbm5 (.int .i64 (fixSub x (fixMul rate y).1).1))
     clear e5_5 hU9 hc9 hfz9 hg6
     cases hO:(lrnA rate m g.1 k || lrnB rate P G j)
     all_goals cases hF2:(fixMul rate y).2
     all_goals
      go_wp2
      go_roundw
      case rel =>
       refine ⟨j+1,by omega,by go_num,by rw[HBj.out,← Bool.or_assoc,hO];simp[hF2],HO9.out,?_⟩
       show Un _ _ _ _ _
       have h2:=HV9.out
       rw[HS9.out] at h2
       simpa [Ty.n] using h2
      case measure=>simp[intOf];omega
    ·go_wp2
     go_roundw
     case rel =>
      obtain rfl:j=P.length:=by omega
      have hg':=hg.out
      rw[List.drop_length,List.append_nil,List.take_of_length_le (Nat.le_of_eq (show (lrnV rate P G P.length).length=P.length from mp_len _ _))] at hg'
      refine ⟨k+1,by omega,by go_num,?_,ho.trans (ho2.mono HBU.out),?_⟩
      ·have h1:lrnA rate m g.1 (k+1)=(lrnA rate m g.1 k || lrnB rate (m.getD k zOp).2.2.2 (g.1.getD k []) (m.getD k zOp).2.2.2.length):=HNa.out
       rw[h1,← HoD.out,← HGd.out,← HPo.out]
      ·show Un _ _ _ _ _
       have h2:=HA.out wr _ (fun q hq hz=>ho2.block q hq hz) hg'
       have h3:(lrnK rate m g.1 k).set k (putP tOp [true,true,true] o (lrnV rate P G P.length))=lrnK rate m g.1 (k+1):=by rw[HPo.out];exact HM.out
       rw[h3] at h2
       exact h2
     case measure=>simp[intOf];omega
  ·go_wp2
   obtain rfl:k=List.length m:=by omega
   refine bodyPost_ret (v:=.tuple #[.agg #[.slice p1 (List.length m) c1],.bool (lrnA rate m g.1 (List.length m))]) (by simp[results,Try.results26,go_sem,l5]) rfl ?_
   exact learn_fin (R':=(lrnK rate m g.1 (List.length m),lrnA rate m g.1 (List.length m))) HLk.out Bk ⟨w.heap.size+1+1+1,w1.heap.size,by omega,bl,hf.out,nd,fun q hq=>by have:=rng q hq;omega,by omega⟩ HE.out.symm
end Go.Proofs.Ytahggdiafncdhaa
