/- PrgD: lemmas. No conditions. -/
import Derived.Test.YtlhaoiaieiladaaGreatRiF
namespace Go.Proofs.YtlhaoiaieiladaaGreat
open Go.ChangeShapes Go.WideShapes Go.ChangeAt Go.RowKit Go.Deep
set_option linter.unusedVariables false
set_option linter.unusedSimpArgs false
set_option maxRecDepth 100000
theorem bPM {p:bI} {s:Int} (h:gS p s=false):p=fH p s:=by unfold fH;rw[if_neg (by rw[h];simp)]
theorem wT {p:bI} {s:Int} (h:gS p s=true):vJ p=true/\0<=s/\s<(p.2.1.length:Int):=by
 unfold gS at h;split at h
 ·assumption
 ·cases h
theorem aCR {p:bI} {s:Int} (h:gS p s=true):((aP p s).1=1->0<s)/\((aP p s).1=3->s<(p.2.1.length:Int) - 1)/\((aP p s).1=4->s<(p.2.1.length:Int) - 1)/\((aP p s).1=7->0<s)/\¬ (aP p s).1=0:=by
 obtain ⟨h1,h2,h3⟩:=wT h
 refine ⟨fun k=>?_,fun k=>?_,fun k=>?_,fun k=>?_,fun k=>?_⟩
 ·rw[bJJ h1 h2 h3 k,Bool.and_eq_true,decide_eq_true_eq] at h;exact h.1
 ·rw[bRD h1 h2 h3 k,Bool.and_eq_true,decide_eq_true_eq] at h;exact h.1
 ·rw[bLC h1 h2 h3 k,Bool.and_eq_true,decide_eq_true_eq] at h;exact h.1
 ·rw[bRG h1 h2 h3 k,Bool.and_eq_true,decide_eq_true_eq] at h;exact h.1
 ·rw[<- cAI (p:=p) (s:=s) (by omega)] at h;cases h
theorem cCO {p:bI} {s:Int} (h:gS p s=true):0<=(aP p s).2/\(aP p s).2<(p.1.length:Int):=by
 obtain ⟨h1,h2,h3⟩:=wT h
 have hk:=(aCR h).2.2.2.2
 have hs:=(uP.1 h1).2.2.2 s.toNat (by omega)
 unfold aP at hk ⊢
 split at hk
 ·rename_i hh
  rw[if_pos hh]
  exact hs.2.2 _ (by omega)
 ·exact absurd rfl hk
theorem bEL (s:bH) (m:Int) (x t:List Int):(aCB s m x t).1=s.1:=by unfold aCB;split <;> rfl
theorem aZ8 (s:bH) (m:Int):(xM s m).1=s.1:=by unfold xM;split <;> rfl
theorem aVY (s:bH) (m:Int) (t:List Int):(xQ s m t).1=s.1:=by unfold xQ;split <;> rfl
theorem bTF {p:bI} {s:Int} (h:gS p s=true) (k:(aP p s).1=1):(p.1,List.set p.2.1 s.toNat (nX (aY1 (oD p s) (xR (p.2.2.1.getD (s - 1).toNat (aK aI))).2.1.2) ((oD p s).1+1)),List.set p.2.2.1 (s - 1).toNat (xR (p.2.2.1.getD (s - 1).toNat (aK aI))).1,p.2.2.2)=fH p s:=by
 unfold fH;rw[if_pos h];unfold cZ iG iH;rw[k];rfl
theorem bTO {p:bI} {s:Int} (h:gS p s=true) (k:(aP p s).1=2) (h0:s=0) :
  (p.1,List.set p.2.1 s.toNat (nX (aCB (oD p s) (aP p s).2 (p.1.getD (aP p s).2.toNat (aK aF)).1 (p.1.getD (aP p s).2.toNat (aK aF)).2) ((aCB (oD p s) (aP p s).2 (p.1.getD (aP p s).2.toNat (aK aF)).1 (p.1.getD (aP p s).2.toNat (aK aF)).2).1+1)),p.2.2.1,p.2.2.2)=fH p s:=by
 unfold fH;rw[if_pos h];unfold cZ iG iH;rw[k,if_pos h0];rfl
theorem bOQ {p:bI} {s:Int} (h:gS p s=true) (k:(aP p s).1=2) (h0:¬ s=0) :
  (p.1,List.set p.2.1 s.toNat (nX (aCB (oD p s) (aP p s).2 (oD p s).2.2.2.2.2.2.2.1 (p.1.getD (aP p s).2.toNat (aK aF)).2) ((aCB (oD p s) (aP p s).2 (oD p s).2.2.2.2.2.2.2.1 (p.1.getD (aP p s).2.toNat (aK aF)).2).1+1)),p.2.2.1,p.2.2.2)=fH p s:=by
 unfold fH;rw[if_pos h];unfold cZ iG iH;rw[k,if_neg h0];rfl
theorem bWC {p:bI} {s:Int} (h:gS p s=true) (k:(aP p s).1=3):(p.1,List.set p.2.1 s.toNat (nX (bB2 (oD p s) []) ((oD p s).1+1)),List.set p.2.2.1 s.toNat (yY (p.2.2.1.getD s.toNat (aK aI)) ((aP p s).2,(oD p s).2.2.2.2.2.2.2.2.1)).1,p.2.2.2)=fH p s:=by
 unfold fH;rw[if_pos h];unfold cZ iG iH;rw[k];rfl
theorem bXC {p:bI} {s:Int} (h:gS p s=true) (k:(aP p s).1=4):(p.1,List.set p.2.1 s.toNat (nX (bB1 (oD p s) (xR (p.2.2.2.getD s.toNat (aK aI))).2.1.2) ((oD p s).1+1)),p.2.2.1,List.set p.2.2.2 s.toNat (xR (p.2.2.2.getD s.toNat (aK aI))).1)=fH p s:=by
 unfold fH;rw[if_pos h];unfold cZ iG iH;rw[k];rfl
theorem bT7 {p:bI} {s:Int} (h:gS p s=true) (k:(aP p s).1=5):(p.1,List.set p.2.1 s.toNat (nX (xM (oD p s) (aP p s).2) ((xM (oD p s) (aP p s).2).1+1)),p.2.2.1,p.2.2.2)=fH p s:=by
 unfold fH;rw[if_pos h];unfold cZ iG iH;rw[k];rfl
theorem bWK {p:bI} {s:Int} (h:gS p s=true) (k:(aP p s).1=6) (h0:s=0) :
  (p.1,List.set p.2.1 s.toNat (nX (aA2 (xQ (oD p s) (aP p s).2 (p.1.getD (aP p s).2.toNat (aK aF)).2) []) ((xQ (oD p s) (aP p s).2 (p.1.getD (aP p s).2.toNat (aK aF)).2).1+1)),p.2.2.1,p.2.2.2)=fH p s:=by
 unfold fH;rw[if_pos h];unfold cZ iG iH;simp only[k,if_pos h0];rfl
theorem bOV {p:bI} {s:Int} (h:gS p s=true) (k:(aP p s).1=6) (h0:¬ s=0) :
  (p.1,List.set p.2.1 s.toNat (nX (xQ (oD p s) (aP p s).2 (p.1.getD (aP p s).2.toNat (aK aF)).2) ((xQ (oD p s) (aP p s).2 (p.1.getD (aP p s).2.toNat (aK aF)).2).1+1)),p.2.2.1,p.2.2.2)=fH p s:=by
 unfold fH;rw[if_pos h];unfold cZ iG iH;simp only[k,if_neg h0];rfl
theorem bVO {p:bI} {s:Int} (h:gS p s=true) (k:(aP p s).1=7):(p.1,List.set p.2.1 s.toNat (nX (aA2 (oD p s) []) ((oD p s).1+1)),p.2.2.1,List.set p.2.2.2 (s - 1).toNat (yY (p.2.2.2.getD (s - 1).toNat (aK aI)) ((aP p s).2,(oD p s).2.2.2.2.2.2.2.2.2.2.1)).1)=fH p s:=by
 unfold fH;rw[if_pos h];unfold cZ iG iH;rw[k];rfl
theorem bTX {p:bI} {s:Int} (h:gS p s=true) (h1:¬ (aP p s).1=1) (h2:¬ (aP p s).1=2) (h3:¬ (aP p s).1=3) (h4:¬ (aP p s).1=4) (h5:¬ (aP p s).1=5) (h6:¬ (aP p s).1=6) (h7:¬ (aP p s).1=7) :
  (p.1,List.set p.2.1 s.toNat (nX (oD p s) ((oD p s).1+1)),p.2.2.1,p.2.2.2)=fH p s:=by
 unfold fH;rw[if_pos h];unfold cZ iG iH;simp only[if_neg h1,if_neg h2,if_neg h3,if_neg h4,if_neg h5,if_neg h6,if_neg h7]
noncomputable def bAM:Con:=⟨73,(.cD0 aR tI),aR,[.val ⟨true,aR,[]⟩,.val ⟨false,tI,[]⟩],[⟨true,aR,[0,0,0,0]⟩],false,none,
 ((fun x=>bC aR x.1<=1000000000):(bI × Int)->Prop),
 ((fun x=>fH x.1 x.2):(bI × Int)->(bI))⟩
def bLG:T:=gG 0 aR tI 0 <| dC 1 cX 2 3 aX <| mX aC bU hK 1 0 <| mX aC bU hK 1 0 <| dE 2 0 <| qY 6 1 7 (iA eT 1 <| bN 150 aI aU xD 8 <| bN 150 aI aU xD 8 <| dE 3 10 <| iA eT 1 <| bN 150 aI aU xD 12 <| mG 150 aI aU aI [xD,kO,pX aI bF 11] <| qH cC 5 1 <| mX aC bU hK 1 0 <| mG 145 aC bU aC [hK,eT,iL,bS 1 5,bS 2 5,bS 3 5,bS 4 5,bS 5 5,bS 6 5,prA bF 1 (uN aI bF 1 11),fV aC 8 5] <| aEG aR [nF,mV,gW,dH aR 1]) <| qY 6 2 8 (lW eT 0 9 (dP 77 aF aE nF zC <| dP 77 aF aE nF zC <| dP 77 aF aE nF zC <| dP 77 aF aE nF zC <| lY 4 (aA6 aC aF) [iR,zC,qT aA aA 11,xA 13] <| qH cC 14 1 <| mX aC bU hK 1 0 <| mG 145 aC bU aC [hK,eT,iL,eH aC 14] <| fA aR nF mV (dD aR 1)) <| dP 77 aF aE nF zC <| dP 77 aF aE nF zC <| lY 4 (aA6 aC aF) [iR,zC,bS 7 5,xA 11] <| qH cC 12 1 <| mX aC bU hK 1 0 <| mG 145 aC bU aC [hK,eT,jC,eH aC 12] <| fA aR nF iL (dD aR 1)) <| qY 6 3 9 (xC 150 aI aU xD 1 0 <| xC 150 aI aU xD 1 0 <| sL 5 aI bF [iX,zC,bS 8 5] <| xC 150 aI aU xD 1 0 <| mG 150 aI aU aI [xD,eT,lS aI 12] <| qH cC 5 1 <| mX aC bU hK 1 0 <| mG 145 aC bU aC [hK,eT,iL,bS 1 5,bS 2 5,bS 3 5,bS 4 5,bS 5 5,bS 6 5,bS 7 5,aT,fV aC 9 5] <| aEG aR [nF,mV,gW,dH aR 1]) <| qY 6 4 10 (xC 150 aI aU (dH aR 1) 1 0 <| xC 150 aI aU (dH aR 1) 1 0 <| dE 3 12 <| xC 150 aI aU (dH aR 1) 1 0 <| mG 150 aI aU aI [dH aR 1,eT,pX aI bF 13] <| qH cC 5 1 <| mX aC bU hK 1 0 <| mG 145 aC bU aC [hK,eT,kT,bS 1 5,bS 2 5,bS 3 5,bS 4 5,bS 5 5,bS 6 5,bS 7 5,bS 8 5,prA bF 1 (uN aI bF 1 13),fV aC 10 5] <| aEG aR [nF,uA,xD,iL]) <| qY 6 5 11 (cI 6 aC iR zC <| qH cC 12 1 <| mX aC bU hK 1 0 <| mG 145 aC bU aC [hK,eT,jC,eH aC 12] <| fA aR nF iL (dD aR 1)) <| qY 6 6 12 (dP 77 aF aE nF zC <| dP 77 aF aE nF zC <| sL 7 aC bF [iR,zC,xA 14] <| lW eT 0 16 (qH cC 15 1 <| mX aC bU hK 1 0 <| mG 145 aC bU aC [hK,eT,mV,bS 1 15,bS 2 15,bS 3 15,bS 4 15,bS 5 15,bS 6 15,bS 7 15,bS 8 15,bS 9 15,aT,fV aC 11 15] <| fA aR nF pK (dD aR 1)) <| qH cC 15 1 <| mX aC bU hK 1 0 <| mG 145 aC bU aC [hK,eT,mV,eH aC 15] <| fA aR nF pK (dD aR 1)) <| qY 6 7 13 (iA eT 1 <| iA eT 1 <| bN 150 aI aU (dH aR 1) 15 <| bN 150 aI aU (dH aR 1) 15 <| sL 5 aI bF [mV,zC,bS 10 5] <| bN 150 aI aU (dH aR 1) 14 <| mG 150 aI aU aI [dH aR 1,gW,lS aI 18] <| qH cC 5 1 <| mX aC bU hK 1 0 <| mG 145 aC bU aC [hK,eT,.Z 21,bS 1 5,bS 2 5,bS 3 5,bS 4 5,bS 5 5,bS 6 5,bS 7 5,bS 8 5,bS 9 5,aT,fV aC 11 5] <| aEG aR [nF,aBX,xD,sG]) <| qH cC 5 1 <| mX aC bU hK 1 0 <| mG 145 aC bU aC [hK,eT,gW,eH aC 5] <| fA aR nF kT (dD aR 1)
set_option maxHeartbeats 2000000 in
theorem bTN:Con.Holds Tryz.prog bAM:=tk ⟨[],[(2964,28016,[],[27,28,29,30,31,32,33,34,35]),(2964,20014,[],[27,28,29,30,31,32,33,34,35]),(2972,24010,[95],[]),(2966,24016,[],[28]),(2962,96014,[],[27,28,29,30,31,32,33,34,35]),(2954,448018,[],[36]),(2960,384014,[160],[]),(2954,384022,[],[28])]⟩ bLG (aD bGQ (aD bL1 (aD bIW (aD bZG (aD bFX (aD bU7 (aD bBE (aD bG7 aL)))))))) fun (x:bI × Int) hx hp=>by
 dsimp only [bAM] at hx hp ⊢
 obtain ⟨p,s⟩:=x
 delta bLG aIS aLL aQY bH5 aIB aYL aG8 aJ6;refine gH ?_
 refine iC ?_
 refine ⟨hp,fun _=>⟨fun h=>bPM h,fun h=>?_⟩⟩
 obtain ⟨z1,z1s,z2,z2m,z3,z3m,z4,z4m⟩:=aQP (b:=p.1) (st:=p.2.1) (a:=p.2.2.1) (r:=p.2.2.2) hp
 obtain ⟨h1,h2,h3⟩:=wT h
 have hk:=aCR h
 have hm:=cCO h
 have hpo:=(uP.1 h1).1
 have hst:=(uP.1 h1).2.2.2 s.toNat (by omega)
 have zs:bC aC (List.getD p.2.1 s.toNat (aK aC))<=1000000000:=by rw[aO (show s.toNat<p.2.1.length by omega)];exact z2m _ (List.getElem_mem _)
 have za:∀ k,k<p.2.2.1.length->bC aI (List.getD p.2.2.1 k (aK aI))<=1000000000:=fun k hk=>by rw[aO hk];exact z3m _ (List.getElem_mem _)
 have zr:∀ k,k<p.2.2.2.length->bC aI (List.getD p.2.2.2 k (aK aI))<=1000000000:=fun k hk=>by rw[aO hk];exact z4m _ (List.getElem_mem _)
 have hpc:=((dB _).1 hst.1).2.1
 have hpl:List.length (List.getD p.2.1 s.toNat (aK aC)).2.1<=1000000000:=(rG (t:=aC) zs).2.1.1
 (repeat' first|intro _|(with_reducible apply And.intro))
 all_goals first|omega|exact zs|exact za _ (by omega)|exact zr _ (by omega)|(rw[bEL];omega)|(rw[aZ8];omega)|(rw[aVY];omega)|skip
 all_goals first|exact bTF h (by assumption)|exact bWC h (by assumption)|exact bXC h (by assumption)|exact bT7 h (by assumption)|exact bVO h (by assumption)|exact bTO h (by assumption) (by assumption)|exact bOQ h (by assumption) (by assumption)|exact bWK h (by assumption) (by assumption)|exact bOV h (by assumption) (by assumption)|exact bTX h (by assumption) (by assumption) (by assumption) (by assumption) (by assumption) (by assumption) (by assumption)|skip
noncomputable def bAR:Con:=⟨111,(.cD0 aR tI),aR,[.val ⟨true,aR,[]⟩,.val ⟨false,tI,[]⟩],[⟨true,aR,[2,3,3,3]⟩],true,none,
 ((fun x=>bC aR x.1<=1000000000):(bI × Int)->Prop),
 ((fun x=>fH x.1 x.2):(bI × Int)->(bI))⟩
def bHQ:T:=gG 0 aR tI 0 <| dC 1 cX 2 3 aX <| dE 2 0 <| mX aC bU hK 1 0 <| mX aC bU hK 1 0 <| qY 4 1 7 (iA eT 1 <| bN 150 aI aU (fK aR 2 aR tI) 8 <| dE 3 9 <| iA eT 1 <| bN 150 aI aU xD 11 <| mG 150 aI aU aI [xD,iX,pX aI bF 10] <| qH cC 6 1 <| mX aC bU hK 1 0 <| mG 145 aC bU aC [hK,eT,gW,bS 1 6,bS 2 6,bS 3 6,bS 4 6,bS 5 6,bS 6 6,prA bF 1 (uN aI bF 1 10),fV aC 8 6] <| aEG aR [nF,kT,jC,dH aR 1]) <| qY 4 2 8 (lW eT 0 9 (dP 77 aF aE (iM aE iU aR tI 0) (gJ 4) <| dP 77 aF aE (iM aE iU aR tI 0) (gJ 4) <| lY 4 (aA6 aC aF) [fB,gJ 4,qT aA aA 10,xA 11] <| qH cC 12 1 <| mX aC bU hK 1 0 <| mG 145 aC bU aC [hK,eT,jC,eH aC 12] <| fA aR nF iL (dD aR 1)) <| dP 77 aF aE (iM aE iU aR tI 0) (gJ 4) <| lY 4 (aA6 aC aF) [fB,gJ 4,bS 7 6,xA 10] <| qH cC 11 1 <| mX aC bU hK 1 0 <| mG 145 aC bU aC [hK,eT,kO,eH aC 11] <| fA aR nF gW (dD aR 1)) <| qY 4 3 9 (xC 150 aI aU (fK aR 2 aR tI) 1 0 <| sL 5 aI bF [gN,gJ 4,bS 8 6] <| xC 150 aI aU xD 1 0 <| mG 150 aI aU aI [xD,eT,lS aI 11] <| qH cC 6 1 <| mX aC bU hK 1 0 <| mG 145 aC bU aC [hK,eT,gW,bS 1 6,bS 2 6,bS 3 6,bS 4 6,bS 5 6,bS 6 6,bS 7 6,aT,fV aC 9 6] <| aEG aR [nF,kT,jC,dH aR 1]) <| qY 4 4 10 (xC 150 aI aU (kG aR 3 aR tI) 1 0 <| dE 3 11 <| xC 150 aI aU (dH aR 1) 1 0 <| mG 150 aI aU aI [dH aR 1,eT,pX aI bF 12] <| qH cC 6 1 <| mX aC bU hK 1 0 <| mG 145 aC bU aC [hK,eT,iL,bS 1 6,bS 2 6,bS 3 6,bS 4 6,bS 5 6,bS 6 6,bS 7 6,bS 8 6,prA bF 1 (uN aI bF 1 12),fV aC 10 6] <| aEG aR [nF,mV,xD,gW]) <| qY 4 5 11 (cI 6 aC fB (gJ 4) <| qH cC 12 1 <| mX aC bU hK 1 0 <| mG 145 aC bU aC [hK,eT,jC,eH aC 12] <| fA aR nF iL (dD aR 1)) <| qY 4 6 12 (dP 77 aF aE (iM aE iU aR tI 0) (gJ 4) <| sL 7 aC bF [fB,gJ 4,xA 13] <| lW eT 0 15 (qH cC 14 1 <| mX aC bU hK 1 0 <| mG 145 aC bU aC [hK,eT,kT,bS 1 14,bS 2 14,bS 3 14,bS 4 14,bS 5 14,bS 6 14,bS 7 14,bS 8 14,bS 9 14,aT,fV aC 11 14] <| fA aR nF uA (dD aR 1)) <| qH cC 14 1 <| mX aC bU hK 1 0 <| mG 145 aC bU aC [hK,eT,kT,eH aC 14] <| fA aR nF uA (dD aR 1)) <| qY 4 7 13 (iA eT 1 <| bN 150 aI aU (kG aR 3 aR tI) 14 <| sL 5 aI bF [iL,gJ 4,bS 10 6] <| iA eT 1 <| bN 150 aI aU (dH aR 1) 17 <| mG 150 aI aU aI [dH aR 1,mV,lS aI 16] <| qH cC 6 1 <| mX aC bU hK 1 0 <| mG 145 aC bU aC [hK,eT,sG,bS 1 6,bS 2 6,bS 3 6,bS 4 6,bS 5 6,bS 6 6,bS 7 6,bS 8 6,bS 9 6,aT,fV aC 11 6] <| aEG aR [nF,tP,xD,pK]) <| qH cC 6 1 <| mX aC bU hK 1 0 <| mG 145 aC bU aC [hK,eT,gW,eH aC 6] <| fA aR nF kT (dD aR 1)
set_option maxHeartbeats 2000000 in
theorem bUZ:Con.Holds Tryz.prog bAR:=tk ⟨[],[(2970,24012,[],[29]),(2964,24015,[],[30]),(2962,96014,[],[27,28,29,30,31,32,33,34,35]),(2954,448017,[],[27]),(2958,384017,[],[29]),(2952,384021,[],[30])]⟩ bHQ (aD aUD (aD bHE (aD bIM (aD bXU (aD bGL (aD bWF (aD bBF (aD bEO aL)))))))) fun (x:bI × Int) hx hp=>by
 dsimp only [bAR] at hx hp ⊢
 obtain ⟨p,s⟩:=x
 delta bHQ aFM aL8 aRT bF5 aIL aWV aGO aHP;refine gH ?_
 refine iC ?_
 refine ⟨hp,fun _=>⟨fun h=>bPM h,fun h=>?_⟩⟩
 obtain ⟨z1,z1s,z2,z2m,z3,z3m,z4,z4m⟩:=aQP (b:=p.1) (st:=p.2.1) (a:=p.2.2.1) (r:=p.2.2.2) hp
 obtain ⟨h1,h2,h3⟩:=wT h
 have hk:=aCR h
 have hm:=cCO h
 have hpo:=(uP.1 h1).1
 have hst:=(uP.1 h1).2.2.2 s.toNat (by omega)
 have zs:bC aC (List.getD p.2.1 s.toNat (aK aC))<=1000000000:=by rw[aO (show s.toNat<p.2.1.length by omega)];exact z2m _ (List.getElem_mem _)
 have za:∀ k,k<p.2.2.1.length->bC aI (List.getD p.2.2.1 k (aK aI))<=1000000000:=fun k hk=>by rw[aO hk];exact z3m _ (List.getElem_mem _)
 have zr:∀ k,k<p.2.2.2.length->bC aI (List.getD p.2.2.2 k (aK aI))<=1000000000:=fun k hk=>by rw[aO hk];exact z4m _ (List.getElem_mem _)
 have hpc:=((dB _).1 hst.1).2.1
 have hpl:List.length (List.getD p.2.1 s.toNat (aK aC)).2.1<=1000000000:=(rG (t:=aC) zs).2.1.1
 (repeat' first|intro _|(with_reducible apply And.intro))
 all_goals first|omega|exact zs|exact za _ (by omega)|exact zr _ (by omega)|(rw[bEL];omega)|(rw[aZ8];omega)|(rw[aVY];omega)|skip
 all_goals first|exact bTF h (by assumption)|exact bWC h (by assumption)|exact bXC h (by assumption)|exact bT7 h (by assumption)|exact bVO h (by assumption)|exact bTO h (by assumption) (by assumption)|exact bOQ h (by assumption) (by assumption)|exact bWK h (by assumption) (by assumption)|exact bOV h (by assumption) (by assumption)|exact bTX h (by assumption) (by assumption) (by assumption) (by assumption) (by assumption) (by assumption) (by assumption)|skip
abbrev aGK:=Int × (eZ × Bool)
noncomputable def aPT (p:bI):List Int->List aGK
 | []=>[]
 | s :: l=>(s,aP p s,gS p s) :: aPT (fH p s) l
noncomputable section
set_option maxRecDepth 100000
def cAW:bH:=aK aC
def aIZ (ops:List dU) (plan:List eZ) (last redo:Bool):bH:=if bY ops=true then (0,plan,ops,last,redo,[],[],[],[],[],[],yQ ops) else cAW
def aDX (c:bB) (n:Nat) (s:Int):bH :=
 aIZ (List.drop (aZ c.1 c.2.1 s).1.toNat (List.take (aZ c.1 c.2.1 s).2.toNat c.1)) (rZ c.2.2.1 (bP c.1 c.2.1) s (n:Int) (c.2.2.2.1.getD s.toNat false)) (s==bP c.1 c.2.1 - 1) (c.2.2.2.1.getD s.toNat false)
def aCF (c:bB) (i:Nat):dK:=(c.2.2.2.2.1.getD i 0,[])
def aV (c:bB) (b:List bA):bI :=
 if cH c b=0 then (b,mp (bP c.1 c.2.1).toNat (fun s=>aDX c b.length (s:Int)),mp c.2.2.2.2.1.length (aCF c),mp c.2.2.2.2.1.length (aCF c)) else ([],[],[],[])
theorem bWG {c:bB} {b:List bA} (h:¬ cH c b=0):([],[],[],[])=aV c b:=(if_neg h).symm
theorem zT {c:bB} {b:List bA} (h:cH c b=0):(b,mp (bP c.1 c.2.1).toNat (fun s=>aDX c b.length (s:Int)),mp c.2.2.2.2.1.length (aCF c),mp c.2.2.2.2.1.length (aCF c))=aV c b:=(if_pos h).symm
theorem bQH {ops:List dU} {plan:List eZ} {last redo:Bool} (h:bY ops=false):(0,[],[],false,false,[],[],[],[],[],[],[],0,false)=aIZ ops plan last redo:=(if_neg (by rw[h];simp)).symm
theorem bO6 {ops:List dU} {plan:List eZ} {last redo:Bool} (h:bY ops=true):(0,plan,ops,last,redo,[],[],[],[],[],[],yQ ops)=aIZ ops plan last redo:=(if_pos h).symm
theorem pV {c:bB} {b:List bA} (h:cH c b=0):bY c.1=true/\iQ c.1 b=true/\rU c.1 c.2.1=true/\bP c.1 c.2.1=(c.2.1.length:Int)+1/\bP c.1 c.2.1<=4/\(c.2.2.2.1.length:Int)=bP c.1 c.2.1/\aA3 c=true/\wN c (b.length:Int)=true:=by
 cases h1:bY c.1
 ·rw[<- cBG h1] at h;omega
 cases h2:iQ c.1 b
 ·rw[<- cBV h1 h2] at h;omega
 by_cases h3:bP c.1 c.2.1=0\/4<bP c.1 c.2.1
 ·rw[<- bYJ h1 h2 h3] at h;omega
 by_cases h4:c.2.2.1=1\/c.2.2.1=2
 rotate_left
 ·rw[<- bZF h1 h2 h3 h4] at h;omega
 by_cases h5:(c.2.2.2.1.length:Int)=bP c.1 c.2.1
 rotate_left
 ·rw[<- cB4 h1 h2 h3 h4 h5] at h;omega
 cases h6:aA3 c
 ·rw[<- bXQ h1 h2 h3 h4 h5 h6] at h;omega
 cases h7:wN c (b.length:Int)
 ·rw[<- bZ1 h1 h2 h3 h4 h5 h6 h7] at h;omega
 cases hc:rU c.1 c.2.1
 ·rw[aXD hc] at h3;omega
 ·exact ⟨rfl,rfl,rfl,aHH hc,by omega,h5,rfl,rfl⟩
theorem aHG {c:bB} (h:aA3 c=true):c.2.2.2.2.1.length=c.2.1.length:=by
 unfold aA3 at h;rw[Bool.and_eq_true,decide_eq_true_eq] at h;exact h.1
theorem aRR {c:bB} (h:bC aH c<=1000000000):tA c:=by
 have hB:=rG (t:=aH) h
 exact ⟨⟨hB.1.1,fun o ho=>(hB.1.2 o ho).2.2.2.1⟩,hB.2.1.1,hB.2.2.2.1.1,hB.2.2.2.2.1.1,hB.2.2.2.2.2.1⟩
theorem bNU {m:List dU} (a b:Nat):bC aB (List.drop a (List.take b m))<=bC aB m:=aFD ((List.drop_sublist _ _).trans (List.take_sublist _ _))
def aI3:Con:=⟨121,(.cD0 aB (.cD0 bD (.cD0 .bool .bool))),aC,[.val ⟨false,aB,[]⟩,.val ⟨false,bD,[]⟩,.val ⟨false,.bool,[]⟩,.val ⟨false,.bool,[]⟩],[⟨true,aC,[0,2,2,0,0,2,2,2,2,2,2,2,0,0]⟩],false,none,
 ((fun x=>bC aB x.1<=1000000000/\List.length x.2.1<=1000000000):(aS × ((List eZ) × (Bool × Bool)))->Prop),
 ((fun x=>aIZ x.1 x.2.1 x.2.2.1 x.2.2.2):(aS × ((List eZ) × (Bool × Bool)))->(bH))⟩
def aQU:T:=gG 0 aB aBZ 0 <| dC 1 aX 2 3 (mkA aC [aM,uQ,.nl 98 bQ,cL,cL,.nl 200 aY,jF,aT,aT,aT,aT,jF,aM,cL]) <| iT (aY7 aQ 16) bD bD uQ (mW aB aBZ 0) <| dE 2 1 <| lT [aM,gD,aX,aE5 aB aBZ 0,kV aBZ 3,.nl 200 aY,jF,aT,aT,aT,aT,iR]
theorem bF6:Con.Holds Tryz.prog aI3:=tk ⟨[],[]⟩ aQU (aD aJQ (aD oL (aD aNJ aL))) fun (x:aS × ((List eZ) × (Bool × Bool))) hx hp=>by
 dsimp only [aI3] at hx hp ⊢
 have hm:=(rG (t:=aB) hp.1)
 delta aQU aBE gB aB3;refine gH ?_
 refine iC ?_
 refine ⟨hp.1,fun _=>⟨fun h=>bQH h,fun h=>⟨⟨by have:=hp.2;omega,by have:=hp.2;unfold maxLen;omega⟩,fun _=>⟨⟨hm.1,fun o ho=>(hm.2 o ho).2.2.2.1⟩,fun _=>bO6 h⟩⟩⟩⟩
def aHM:Con:=⟨108,(.cD0 aB (.cD0 bD (.cD0 .bool .bool))),aC,[.val ⟨false,aB,[]⟩,.val ⟨false,bD,[]⟩,.val ⟨false,.bool,[]⟩,.val ⟨false,.bool,[]⟩],[⟨true,aC,[0,2,2,0,0,2,2,2,2,2,2,2,0,0]⟩],false,none,
 ((fun x=>bC aB x.1<=1000000000/\List.length x.2.1<=1000000000):(aS × ((List eZ) × (Bool × Bool)))->Prop),
 ((fun x=>aIZ x.1 x.2.1 x.2.2.1 x.2.2.2):(aS × ((List eZ) × (Bool × Bool)))->(bH))⟩
def aRW:T:=dC 0 (dT aB aBZ) 1 2 (mkA aC [aM,uQ,.nl 98 bQ,cL,cL,.nl 200 aY,jF,aT,aT,aT,aT,jF,aM,cL]) <| iT (aY7 aQ 16) bD bD uQ (mW aB aBZ 0) <| gG 1 aB aBZ 0 <| gG 2 aB aBZ 0 <| lT [aM,qN,gD,aE5 aB aBZ 0,kV aBZ 3,.nl 200 aY,jF,aT,aT,aT,aT,iR]
theorem bGR:Con.Holds Tryz.prog aHM:=tk ⟨[],[]⟩ aRW (aD rH (aD aI2 (aD aO7 aL))) fun (x:aS × ((List eZ) × (Bool × Bool))) hx hp=>by
 dsimp only [aHM] at hx hp ⊢
 have hm:=(rG (t:=aB) hp.1)
 delta aRW oG aAH aAW;refine gH ?_
 refine iC ?_
 refine ⟨fun h=>bQH h,fun h=>⟨⟨by have:=hp.2;omega,by have:=hp.2;unfold maxLen;omega⟩,fun _=>⟨hp.1,fun _=>⟨⟨hm.1,fun o ho=>(hm.2 o ho).2.2.2.1⟩,fun _=>bO6 h⟩⟩⟩⟩
def aM3:Con:=⟨71,bCL,aR,[.val ⟨true,aH,[]⟩,.val ⟨false,aE,[]⟩],[⟨true,aR,[2,2,2,2]⟩],false,none,
 ((fun x=>bC aH x.1<=100000000/\bC aE x.2<=100000000):(bB × bW)->Prop),
 ((fun x=>aV x.1 x.2):(bB × bW)->(bI))⟩
def aUC:T:=dE 0 0 <| wA aX 0 <| cE 2 (mkA aR [.nl 77 aF,.nl 145 aC,.nl 150 aI,.nl 150 aI]) <| .call 1 (gK aH aE 1) <| gG 2 aH aE 0 <| yG bU (rN bU 145 aC) <| sT bU 5 4 6 (uH 3 aA tI [pG aB aA bZ aF aH aE 0,oI 1,bO bU 5] <| bT 77 aF (gK aH aE 1) <| cR 4 .bool bZ (oI 3) bU 5 <| lY 4 (sE dQ) [oI 2,gD,bO bU 5,gP,mT] <| gT fJ 4 1 <| aAK vU bU 5 11 <| aD3 98 bQ aB [pG aB aA bZ aF aH aE 0,lV 7,gJ 7] <| cR 4 .bool bZ (oI 3) bU 5 <| yK 5 (mkA (.cD0 aB aBZ) [jC,gN,kO,gW]) (kA 145 aC) 15 <| dM (.cD7 145 aC 248) bU bU (dN bU 5) 16 <| fE bU 5 1 0 bU 18 17) <| iN 3 tI (oI 4) (zK aU aU) (cO (zK aU aU) aM (.nl 150 aI) (.nl 150 aI)) <| kR bM (jO tI aU aU 8) 7 9 (dP 3 tI aA (oI 4) (jO tI aU aU 8) <| iT (kA 150 aI) tI eJ gN (.nl 161 bF) <| tN 150 aI aU aU (nI aU aU 1 8) 11 <| iT (kA 150 aI) tI eJ gN (.nl 161 bF) <| tN 150 aI aU aU (dD (zK aU aU) 8) 13 <| aA9 (jO tI aU aU 8) 1 0 (zK aU aU) (eE iL kO 14)) (cO aR qN (dN bU 5) (eH (zK aU aU) 8))
theorem bI1:Con.Holds Tryz.prog aM3:=tk ⟨[(2984,2005,oS 22 18++oS 16 13++[.dr 0,.tm 7 0,.sl 13]),(2974,4008,[.dr 71]++oS 25 23++[.dr 7,.dr 6,.dr 2,.dr 1,.tm 74 0,.sl 14,.sl 15])],[(2972,6011,[67],[])]⟩ aUC (aD bDH (aD aGE (aD aCA (aD aDG (aD bVS (aD bF6 aL)))))) fun (x:bB × bW) hx hp=>by
 dsimp only [aM3] at hx hp ⊢
 obtain ⟨c,b⟩:=x
 obtain ⟨hp1,hp2⟩:bC aH c<=100000000/\bC aE b<=100000000:=hp
 have hcp:tA c:=aRR (by omega)
 have hb1:List.length b<=bC aE b:=wE (e:=77) (t:=aF) b
 have hbm:∀ x∈b,List.length x.1<=1000000000/\List.length x.2<=1000000000:=fun x hx=>⟨((rG (t:=aE) (show bC aE b<=1000000000 by omega)).2 x hx).1.1,((rG (t:=aE) (show bC aE b<=1000000000 by omega)).2 x hx).2.1⟩
 have hmm:bC aB c.1<=bC aH c:=Nat.le_add_right _ _
 delta aUC aN2 xK wK vB aYH aI3;refine gH ?_
 refine iC ?_
 refine ⟨hcp,fun _=>⟨fun h=>bWG h,fun h=>?_⟩⟩
 obtain ⟨a1,a2,a3,a4,a5,a6,a7,a8⟩:=pV h
 have hcl:=aHG a7
 refine ⟨by omega,fun _=>⟨⟨hcp.1,hcp.2.1⟩,fun _=>?_⟩⟩
 refine fN (fun k=>((k:Int),mp k (fun s=>aDX c b.length (s:Int)))) (bP c.1 c.2.1).toNat rfl fun I μ k hk _ go=>?_
 dsimp only
 refine iC ?_
 have hr:=aFH c.1 c.2.1 (k:Int)
 have hpl:=aMO c.2.2.1 (bP c.1 c.2.1) (k:Int) (b.length:Int) (List.getD c.2.2.2.1 k (aK .bool))
 have hml:=eX k (fun s=>aDX c b.length ((s:Nat):Int))
 have hmd:bC aB (List.drop (aZ c.1 c.2.1 (k:Int)).1.toNat (List.take (aZ c.1 c.2.1 (k:Int)).2.toNat c.1))<=1000000000:=Nat.le_trans (bNU _ _) (by omega)
 constructor
 ·intro hlt
  (repeat' first|intro _|(refine go _ ?_ ?_ ?_)|(refine go _ ?_ ?_)|(with_reducible apply And.intro))
  all_goals first|omega|(unfold maxLen;omega)|exact hcp.1|exact hcp.2.1|exact hmd|(rw[lE];rfl)|skip
 intro hge _
 rw[show k=(bP c.1 c.2.1).toNat by omega]
 clear go
 refine fN (fun k=>((k:Int),mp k (aCF c),mp k (aCF c))) (List.length c.2.2.2.2.1) rfl fun I μ k hk _ go=>?_
 dsimp only
 refine iC ?_
 have hml:=eX k (aCF c)
 constructor
 ·intro hlt
  (repeat' first|intro _|(refine go _ ?_ ?_ ?_)|(refine go _ ?_ ?_)|(with_reducible apply And.intro))
  all_goals first|omega|(unfold maxLen;omega)|(rw[lE];rfl)|skip
 ·intro hge
  rw[show k=List.length c.2.2.2.2.1 by omega]
  exact zT h
def aJU:Con:=⟨64,bCL,aR,[.val ⟨true,aH,[]⟩,.val ⟨false,aE,[]⟩],[⟨true,aR,[2,2,2,2]⟩],false,none,
 ((fun x=>bC aH x.1<=100000000/\bC aE x.2<=100000000):(bB × bW)->Prop),
 ((fun x=>aV x.1 x.2):(bB × bW)->(bI))⟩
def aV9:T:=dE 0 0 <| wA aX 0 <| cE 2 (mkA aR [.nl 77 aF,.nl 145 aC,.nl 150 aI,.nl 150 aI]) <| gG 1 aH aE 0 <| dX (kL aE) (rN aE 77 aF) 77 aF (gK aH aE 1) <| sT aE 4 5 6 (cR 77 aF aE (gK aH aE 1) aE 4 <| cR 77 aF aE (gK aH aE 1) aE 4 <| iT (sS 3 8) aA aA aT (qT aA aA 7) <| iT (sS 3 8) aA aA aT (xA 8) <| dM (kA 77 aF) aA aA mT 10 <| dM (.cD7 77 aF 48) aE aE (dN aE 4) 11 <| fE aE 4 1 0 aE 13 12) <| yG iU (vQ iU [aM,.nl 145 aC,.nl 150 aI,.nl 150 aI]) <| nR iU 7 3 8 (uH 2 aA tI [pG aB aA bZ aF aH aE 0,oI 1,bO iU 7] <| gT fJ 3 1 <| aAK vU iU 7 10 <| aD3 98 bQ aB [pG aB aA bZ aF aH aE 0,lV 9,gJ 9] <| bT 77 aF (gK aH aE 1) <| cR 4 .bool bZ (oI 3) iU 7 <| cR 4 .bool bZ (oI 3) iU 7 <| lY 3 (sE dQ) [oI 2,qN,bO iU 7,jC,gW] <| yK 4 (mkA (.cD0 aB aBZ) [kO,kT,iX,iL]) (kA 145 aC) 17 <| dM (.cD7 145 aC 248) bU bU (cJ iU 1 7) 18 <| dY (bO iU 7) 0 <| cG 20 (iA (bO iU 7) 1 <| bN 3 tI aA (oI 4) 21 <| iT (kA 150 aI) tI eJ tP (.nl 161 bF) <| tN 150 aI aU aU (cJ iU 2 7) 23 <| iA (bO iU 7) 1 <| bN 3 tI aA (oI 4) 25 <| iT (kA 150 aI) tI eJ sM (.nl 161 bF) <| tN 150 aI aU aU (fQ iU 3 7) 27 <| uM (bO iU 7) 1 0 iU [aAD,pK,.Z 24,.Z 28]) <| uM (bO iU 7) 1 0 iU [.Z 21,pK,fQ iU 2 7]) (.cD2 aE iU (dN aE 4) (dN iU 7))
theorem bKJ:Con.Holds Tryz.prog aJU:=tk ⟨[(2984,2004,[.dr 18,.dr 17]++oS 15 11++[.dr 0,.tm 7 0,.sl 12]),(2974,4007,oS 22 19++[.dr 7,.tm 8 0,.sl 13,.sl 14,.sl 15])],[(2976,6007,[40,33],[]),(2963,12010,[88],[])]⟩ aV9 (aD bCE (aD bGG (aD zG (aD bUA (aD bGR aL))))) fun (x:bB × bW) hx hp=>by
 dsimp only [aJU] at hx hp ⊢
 obtain ⟨c,b⟩:=x
 obtain ⟨hp1,hp2⟩:bC aH c<=100000000/\bC aE b<=100000000:=hp
 have hcp:tA c:=aRR (by omega)
 have hb1:List.length b<=bC aE b:=wE (e:=77) (t:=aF) b
 have hbm:∀ x∈b,List.length x.1<=1000000000/\List.length x.2<=1000000000:=fun x hx=>⟨((rG (t:=aE) (show bC aE b<=1000000000 by omega)).2 x hx).1.1,((rG (t:=aE) (show bC aE b<=1000000000 by omega)).2 x hx).2.1⟩
 have hmm:bC aB c.1<=bC aH c:=Nat.le_add_right _ _
 delta aV9 aMP aII sC bAN aHM;refine gH ?_
 refine iC ?_
 refine ⟨hcp,fun _=>⟨fun h=>bWG h,fun h=>?_⟩⟩
 obtain ⟨a1,a2,a3,a4,a5,a6,a7,a8⟩:=pV h
 have hcl:=aHG a7
 refine ⟨⟨hcp.1,hcp.2.1⟩,fun _=>?_⟩
 refine fN (fun k=>((k:Int),List.take k b)) (List.length b) rfl fun I μ k hk _ go=>?_
 dsimp only
 refine iC ?_
 intro _
 constructor
 ·intro hlt
  have hk':k<List.length b:=by omega
  have hm:=hbm _ (List.getElem_mem hk')
  simp only[aO hk']
  (repeat' first|intro _|(refine go _ ?_ ?_ ?_)|(refine go _ ?_ ?_)|(with_reducible apply And.intro))
  all_goals first|omega|(with_reducible exact hm.1)|(with_reducible exact hm.2)|(unfold maxLen;omega)|(simp only[List.length_take];unfold maxLen;omega)|(simp only[List.length_take];omega)|(rw[mE hk'];rfl)
 intro hge
 rw[show List.take k b=b from List.take_of_length_le (by omega)]
 clear go
 refine fN (fun k=>((k:Int),mp k (fun s=>aDX c b.length (s:Int)),mp (k - 1) (aCF c),mp (k - 1) (aCF c))) (bP c.1 c.2.1).toNat rfl fun I μ k hk _ go=>?_
 dsimp only
 refine iC ?_
 have hr:=aFH c.1 c.2.1 (k:Int)
 have hpl:=aMO c.2.2.1 (bP c.1 c.2.1) (k:Int) (b.length:Int) (List.getD c.2.2.2.1 k (aK .bool))
 have hml:=eX k (fun s=>aDX c b.length ((s:Nat):Int))
 have hml2:=eX (k - 1) (aCF c)
 have hmd:bC aB (List.drop (aZ c.1 c.2.1 (k:Int)).1.toNat (List.take (aZ c.1 c.2.1 (k:Int)).2.toNat c.1))<=1000000000:=Nat.le_trans (bNU _ _) (by omega)
 have e2:0<k->mp k (aCF c)=mp (k - 1) (aCF c)++[aCF c (k - 1)]:=fun h0=>by rw[<- lE,Nat.sub_add_cancel h0]
 have e3:¬ 0<k->mp k (aCF c)=mp (k - 1) (aCF c):=fun h0=>by rw[show k - 1=k by omega]
 constructor
 ·intro hlt
  (repeat' first|intro _|(refine go _ ?_ ?_ ?_)|(refine go _ ?_ ?_)|(with_reducible apply And.intro))
  all_goals first|omega|(unfold maxLen;omega)|exact hcp.1|exact hcp.2.1|exact hmd|skip
  all_goals show _=((((k+1:Nat):Int)),mp (k+1) (fun s=>aDX c b.length ((s:Nat):Int)),mp k (aCF c),mp k (aCF c))
  all_goals rw[lE]
  all_goals first|(rw[e2 (by omega)];rfl)|(rw[e3 (by omega)];rfl)|skip
 ·intro hge
  have ek:k=(bP c.1 c.2.1).toNat:=by omega
  have ec:k - 1=List.length c.2.2.2.2.1:=by omega
  rw[ec,ek]
  exact zT h
end
noncomputable section
theorem cAC {e:TypeId} {t:Ty} (n:Nat) (g:Nat->t.D) (B:Nat) (h:∀ i,i<n->bC t (g i)<=B):bC (.slice e t) (mp n g)<=n+n * B:=by
 have h1:=aPI (bC t) B (mp n g) (fun x hx=>by
  unfold mp at hx
  obtain ⟨i,hi,rfl⟩:=List.mem_map.1 hx
  exact h i (List.mem_range.1 hi))
 have h2:=eX n g
 rw[h2] at h1
 rw[dL,h2];omega
theorem bZ5 (l:List eZ):bC bD l=l.length:=by
 have e:bC bD l=l.length+(l.map (bC aQ)).sum:=rfl
 rw[e,aQX (bC aQ) l (fun _=>rfl)];rfl
theorem bYE (c:bB) (n:Nat) (s:Int):bC aC (aDX c n s)<=bC aB c.1+400:=by
 unfold aDX aIZ
 split
 ·rw[mP]
  dsimp only
  have h1:=bZ5 (rZ c.2.2.1 (bP c.1 c.2.1) s (n:Int) (c.2.2.2.1.getD s.toNat false))
  have h2:=aMO c.2.2.1 (bP c.1 c.2.1) s (n:Int) (c.2.2.2.1.getD s.toNat false)
  have h3:=bNU (m:=c.1) (aZ c.1 c.2.1 s).1.toNat (aZ c.1 c.2.1 s).2.toNat
  have h4:=bHY (List.drop (aZ c.1 c.2.1 s).1.toNat (List.take (aZ c.1 c.2.1 s).2.toNat c.1))
  have h5:=bFM (e:=117) h4.1 h4.2
  have e0:bC aIP ([]:List qZ)=0:=rfl
  have e1:bC aJ ([]:dG)=0:=rfl
  have h5':bC aJ (yQ (List.drop (aZ c.1 c.2.1 s).1.toNat (List.take (aZ c.1 c.2.1 s).2.toNat c.1))).1<=8+8 * 36:=h5
  simp only[List.length_nil]
  rw[e0,e1];omega
 ·exact Nat.zero_le _
theorem bTS {c:bB} {b:List bA} (h1:bC aH c<=2000000) (h2:bC aE b<=2000000):bC aR (aV c b)<=90000000:=by
 unfold aV
 split
 ·rename_i h
  obtain ⟨a1,a2,a3,a4,a5,a6,a7,a8⟩:=pV h
  have hcl:=aHG a7
  have hmm:bC aB c.1<=bC aH c:=Nat.le_add_right _ _
  have s1:=cAC (e:=145) (t:=aC) (bP c.1 c.2.1).toNat (fun s=>aDX c b.length (s:Int)) (bC aB c.1+400) (fun i _=>bYE _ _ _)
  have s2:=cAC (e:=150) (t:=aI) c.2.2.2.2.1.length (aCF c) 0 (fun i _=>Nat.le_refl _)
  have s3:(bP c.1 c.2.1).toNat * (bC aB c.1+400)<=4 * (bC aB c.1+400):=Nat.mul_le_mul_right _ (by omega)
  rw[aPY]
  dsimp only
  have s2':bC aU (mp c.2.2.2.2.1.length (aCF c))<=c.2.2.2.2.1.length+c.2.2.2.2.1.length * 0:=s2
  omega
 ·exact Nat.zero_le _
theorem wM {c:bB} {b:List bA} (h:cH c b=0):1<=(aV c b).2.1.length/\(aV c b).2.1.length<=4:=by
 obtain ⟨a1,a2,a3,a4,a5,a6,a7,a8⟩:=pV h
 rw[<- zT h]
 show 1<=(mp _ _).length/\(mp _ _).length<=4
 rw[eX];omega
end
def nM (p:bI) (s:Nat):List eZ:=(p.2.1.getD s (aK aC)).2.1
def rC (p:bI) (s:Nat):Int:=(p.2.1.getD s (aK aC)).1
def nN (l:List aGK) (s:Int):List eZ:=(l.filter fun a=>a.2.2&&decide (a.1=s)).map fun a=>a.2.1
def rV (k:Int) (l:List eZ):List Int:=(l.filter fun i=>decide (i.1=k)).map fun i=>i.2
theorem lG {α:Type} (l:List α) (i j:Nat) (x d:α):(l.set i x).getD j d=if i=j/\j<l.length then x else l.getD j d:=by
 rw[List.getD_eq_getElem?_getD,List.getD_eq_getElem?_getD,List.getElem?_set]
 by_cases h:i=j
 ·subst h
  rw[if_pos rfl]
  by_cases h2:i<l.length
  ·rw[if_pos h2,if_pos ⟨rfl,h2⟩];rfl
  ·rw[if_neg h2,if_neg (fun h=>h2 h.2),List.getElem?_eq_none (by omega)]
 ·rw[if_neg h,if_neg (fun h2=>h h2.1)]
theorem aH4 (l m:List aGK) (s:Int):nN (l++m) s=nN l s++nN m s:=by unfold nN;rw[List.filter_append,List.map_append]
theorem bEM (s:Int) (i:eZ) (t:Int):nN [(s,i,false)] t=[]:=rfl
theorem bA1 (s:Int) (i:eZ) (t:Int):nN [(s,i,true)] t=if s=t then [i] else []:=by
 unfold nN
 by_cases h:s=t
 ·rw[if_pos h];simp[List.filter,h]
 ·rw[if_neg h];simp[List.filter,h]
theorem zD (k:Int) (l m:List eZ):rV k (l++m)=rV k l++rV k m:=by unfold rV;rw[List.filter_append,List.map_append]
theorem aN1 (k:Int) (i:eZ):rV k [i]=if i.1=k then [i.2] else []:=by
 unfold rV
 by_cases h:i.1=k
 ·rw[if_pos h];simp[List.filter,h]
 ·rw[if_neg h];simp[List.filter,h]
theorem bFW {k m:Int} {l:List eZ}:m∈rV k l↔(k,m)∈l:=by
 unfold rV
 simp only[List.mem_map,List.mem_filter,decide_eq_true_eq]
 exact ⟨fun ⟨a,⟨h1,h2⟩,h3⟩=>by obtain ⟨x,y⟩:=a;dsimp only at h2 h3;subst h2;subst h3;exact h1,fun h=>⟨(k,m),⟨h,rfl⟩,rfl⟩⟩
theorem rcv {k k' m:Int} {p1 p0:List eZ} {c c0:Nat} (he:rV k p1=rV k' p0) (hc:c<p1.length) (hi:p1[c]=(k,m)) (hl:(rV k (p1.take c)).length<(rV k' (p0.take c0)).length):(k',m)∈p0.take c0:=by
 have e1:p1=(p1.take c++[p1[c]])++p1.drop (c+1):=by
  rw[mE hc,List.take_append_drop]
 have e0:p0=p0.take c0++p0.drop c0:=(List.take_append_drop _ _).symm
 have h1:(rV k p1)[(rV k (p1.take c)).length]?=some m:=by
  conv=>lhs;lhs;rw[e1]
  rw[zD,zD,hi,aN1,if_pos rfl,List.append_assoc,List.getElem?_append_right (Nat.le_refl _),Nat.sub_self];rfl
 rw[he,e0,zD,List.getElem?_append_left hl] at h1
 exact bFW.1 (List.mem_of_getElem? h1)
def ahd (l:List eZ) (a b:Int):Prop:=∀ k (h:k<l.length),l[k].1=b->(a,l[k].2)∈l.take k
theorem bJP {l:List eZ} {a b m:Int} (h:ahd l a b) {K:Nat} (hm:(b,m)∈l.take K):(a,m)∈l.take K:=by
 obtain ⟨j,hj,e⟩:=List.mem_iff_getElem.1 hm
 have hl:(l.take K).length=min K l.length:=List.length_take
 rw[List.getElem_take] at e
 have h1:=h j (by omega) (by rw[e])
 rw[e] at h1
 exact (List.take_subset_take_left l (show j<=K by omega)) h1
structure PlOk (P:bI):Prop where
 q1:∀ s,s+1<P.2.1.length->rV 1 (nM P (s+1))=rV 3 (nM P s)
 q4:∀ s,s+1<P.2.1.length->rV 4 (nM P s)=rV 7 (nM P (s+1))
 a1:∀ s,s<P.2.1.length->0<s->ahd (nM P s) 1 2
 a2:∀ s,s<P.2.1.length->ahd (nM P s) 2 3
 a4:∀ s,s+1<P.2.1.length->ahd (nM P s) 4 6
 a6:∀ s,s<P.2.1.length->ahd (nM P s) 6 7
def okA (n:Nat) (L:List aGK) (a:aGK):Prop:=a.2.2=true->(0<=a.1/\a.1<(n:Int))/\(a.2.1.1=1->0<a.1/\(3,a.2.1.2)∈nN L (a.1 - 1))/\(a.2.1.1=4->a.1+1<(n:Int)/\(7,a.2.1.2)∈nN L (a.1+1)) /\
 (a.2.1.1=2->0<a.1->(2,a.2.1.2)∈nN L (a.1 - 1))/\(a.2.1.1=6->a.1+1<(n:Int)->(6,a.2.1.2)∈nN L (a.1+1))
structure TrI (P p:bI) (L:List aGK):Prop where
 ln:p.2.1.length=P.2.1.length
 pl:∀ s,nM p s=nM P s
 pc:∀ s,s<P.2.1.length->0<=rC p s/\rC p s<=((nM P s).length:Int)/\nN L (s:Int)=(nM P s).take (rC p s).toNat
 qa:∀ s,s+1<P.2.1.length->(p.2.2.1.getD s (aK aI)).2.length+(rV 1 (nN L ((s+1:Nat):Int))).length<=(rV 3 (nN L (s:Int))).length
 qb:∀ s,s+1<P.2.1.length->(p.2.2.2.getD s (aK aI)).2.length+(rV 4 (nN L (s:Int))).length<=(rV 7 (nN L ((s+1:Nat):Int))).length
 m1:∀ s,s+1<P.2.1.length->∀ m,(1,m)∈nN L ((s+1:Nat):Int)->(3,m)∈nN L (s:Int)
 m4:∀ s,s+1<P.2.1.length->∀ m,(4,m)∈nN L (s:Int)->(7,m)∈nN L ((s+1:Nat):Int)
 ok:∀ i (h:i<L.length),okA P.2.1.length (L.take i) L[i]
theorem aT5 (p:bI) (s:Int):(cZ p s).1=(oD p s).1:=by
 unfold cZ
 split
 ·rfl
 split
 ·exact bEL _ _ _ _
 split
 ·rfl
 split
 ·rfl
 split
 ·exact aZ8 _ _
 split
 ·split
  ·exact aVY _ _ _
  ·exact aVY _ _ _
 split <;> rfl
theorem bQY (p:bI) (s:Int):(cZ p s).2.1=(oD p s).2.1:=by
 have f1:∀ (s:bH) m x t,(aCB s m x t).2.1=s.2.1:=fun s m x t=>by unfold aCB;split <;> rfl
 have f2:∀ (s:bH) m,(xM s m).2.1=s.2.1:=fun s m=>by unfold xM;split <;> rfl
 have f3:∀ (s:bH) m t,(xQ s m t).2.1=s.2.1:=fun s m t=>by unfold xQ;split <;> rfl
 unfold cZ
 split
 ·rfl
 split
 ·exact f1 _ _ _ _
 split
 ·rfl
 split
 ·rfl
 split
 ·exact f2 _ _
 split
 ·split
  ·exact f3 _ _ _
  ·exact f3 _ _ _
 split <;> rfl
theorem bP9 {q:dK} (h1:lX q=true) (h2:0<q.2.length):(xR q).1.2.length+1=q.2.length:=by
 rw[<- xZ h1 h2]
 show (q.2.drop 1).length+1=_
 rw[List.length_drop];omega
theorem bJ2 (q:dK) (x:fF):(yY q x).1.2.length<=q.2.length+1:=by
 unfold yY
 split
 ·show (q.2++[x]).length<=_
  rw[List.length_append];exact Nat.le_refl _
 ·exact Nat.le_succ _
theorem bRL {p:bI} {σ:Nat} (h:gS p (σ:Int)=true) (t:Nat):((iG p (σ:Int)).getD t (aK aI)).2.length+(if (aP p (σ:Int)).1=1/\σ=t+1 then 1 else 0)<=(p.2.2.1.getD t (aK aI)).2.length+(if (aP p (σ:Int)).1=3/\σ=t then 1 else 0):=by
 obtain ⟨h1,h2,h3⟩:=wT h
 have hk:=aCR h
 have ho:=uP.1 h1
 unfold iG
 by_cases k1:(aP p (σ:Int)).1=1
 ·rw[if_pos k1]
  have hs:=hk.1 k1
  have he:=h
  rw[bJJ h1 h2 h3 k1,Bool.and_eq_true,decide_eq_true_eq,decide_eq_true_eq] at he
  have hq:lX (p.2.2.1.getD ((σ:Int) - 1).toNat (aK aI))=true:=(ho.2.2.1 ((σ:Int) - 1).toNat (by have:=ho.1.2.2.1;omega)).1
  have hp:=bP9 hq he.2
  have hl:=ho.1.2.2.1
  rw[lG,if_neg (show ¬ ((aP p (σ:Int)).1=3/\σ=t) by omega)]
  by_cases ht:σ=t+1
  ·have e:((σ:Int) - 1).toNat=t:=by omega
   rw[e] at hp ⊢
   rw[if_pos ⟨rfl,by omega⟩,if_pos ⟨k1,ht⟩];omega
  ·rw[if_neg (show ¬ (((σ:Int) - 1).toNat=t/\t<p.2.2.1.length) by omega),if_neg (fun hh=>ht hh.2)];omega
 ·rw[if_neg k1,if_neg (show ¬ ((aP p (σ:Int)).1=1/\σ=t+1) from fun hh=>k1 hh.1)]
  by_cases k3:(aP p (σ:Int)).1=3
  ·rw[if_pos k3,lG,Int.toNat_natCast]
   by_cases ht:σ=t
   ·rw[if_pos (show (aP p (σ:Int)).1=3/\σ=t from ⟨k3,ht⟩),ht]
    have:=bJ2 (p.2.2.1.getD t (aK aI)) ((aP p (t:Int)).2,(oD p (t:Int)).2.2.2.2.2.2.2.2.1)
    split <;> omega
   ·rw[if_neg (show ¬ ((aP p (σ:Int)).1=3/\σ=t) from fun hh=>ht hh.2),if_neg (fun hh=>ht hh.1)];omega
  ·rw[if_neg k3,if_neg (fun hh=>k3 hh.1)];omega
theorem bQZ {p:bI} {σ:Nat} (h:gS p (σ:Int)=true) (t:Nat):((iH p (σ:Int)).getD t (aK aI)).2.length+(if (aP p (σ:Int)).1=4/\σ=t then 1 else 0)<=(p.2.2.2.getD t (aK aI)).2.length+(if (aP p (σ:Int)).1=7/\σ=t+1 then 1 else 0):=by
 obtain ⟨h1,h2,h3⟩:=wT h
 have hk:=aCR h
 have ho:=uP.1 h1
 unfold iH
 by_cases k4:(aP p (σ:Int)).1=4
 ·rw[if_pos k4]
  have hs:=hk.2.2.1 k4
  have he:=h
  rw[bLC h1 h2 h3 k4,Bool.and_eq_true,decide_eq_true_eq,decide_eq_true_eq] at he
  have hl:=ho.1.2.2.2.1
  have hq:lX (p.2.2.2.getD (σ:Int).toNat (aK aI))=true:=(ho.2.2.1 (σ:Int).toNat (by have:=ho.1.2.2.1;omega)).2
  have hp:=bP9 hq he.2
  rw[Int.toNat_natCast] at hp
  rw[lG,if_neg (show ¬ ((aP p (σ:Int)).1=7/\σ=t+1) by omega),Int.toNat_natCast]
  by_cases ht:σ=t
  ·subst ht
   rw[if_pos ⟨rfl,by omega⟩,if_pos ⟨k4,rfl⟩];omega
  ·rw[if_neg (show ¬ (σ=t/\t<p.2.2.2.length) from fun hh=>ht hh.1),if_neg (fun hh=>ht hh.2)];omega
 ·rw[if_neg k4,if_neg (show ¬ ((aP p (σ:Int)).1=4/\σ=t) from fun hh=>k4 hh.1)]
  by_cases k7:(aP p (σ:Int)).1=7
  ·have hs:=hk.2.2.2.1 k7
   rw[if_pos k7,lG]
   by_cases ht:σ=t+1
   ·have e:((σ:Int) - 1).toNat=t:=by omega
    rw[if_pos (show (aP p (σ:Int)).1=7/\σ=t+1 from ⟨k7,ht⟩),e]
    have:=bJ2 (p.2.2.2.getD t (aK aI)) ((aP p (σ:Int)).2,(oD p (σ:Int)).2.2.2.2.2.2.2.2.2.2.1)
    split <;> omega
   ·rw[if_neg (show ¬ ((aP p (σ:Int)).1=7/\σ=t+1) from fun hh=>ht hh.2),if_neg (by omega)];omega
  ·rw[if_neg k7,if_neg (fun hh=>k7 hh.1)];omega
theorem TrI.step {P p:bI} {L:List aGK} (hP:PlOk P) (h:TrI P p L) (s:Int):TrI P (fH p s) (L++[(s,aP p s,gS p s)]):=by
 cases he:gS p s with
 | false =>
  have ep:fH p s=p:=by unfold fH;rw[if_neg (by rw[he];simp)]
  have ed:∀ t,nN (L++[(s,aP p s,false)]) t=nN L t:=fun t=>by rw[aH4,bEM,List.append_nil]
  rw[ep]
  refine ⟨h.ln,h.pl,fun t ht=>by rw[ed];exact h.pc t ht,fun t ht=>by rw[ed,ed];exact h.qa t ht,fun t ht=>by rw[ed,ed];exact h.qb t ht,fun t ht=>by rw[ed,ed];exact h.m1 t ht,fun t ht=>by rw[ed,ed];exact h.m4 t ht,fun i hi=>?_⟩
  rw[List.length_append,List.length_singleton] at hi
  rcases Nat.lt_or_eq_of_le (Nat.le_of_lt_succ hi) with h1|rfl
  ·rw[List.take_append_of_le_length (by omega),List.getElem_append_left h1];exact h.ok i h1
  ·rw[List.getElem_append_right (Nat.le_refl _)]
   intro hd
   simp at hd
 | true =>
  obtain ⟨f1,f2,f3⟩:=wT he
  have hk:=aCR he
  obtain ⟨σ,rfl⟩:∃ σ:Nat,s=(σ:Int):=⟨s.toNat,by omega⟩
  have hσ:σ<P.2.1.length:=by rw[<- h.ln];omega
  obtain ⟨c1,c2,c3⟩:=h.pc σ hσ
  have hn:∃ hc:(rC p σ).toNat<(nM P σ).length,aP p (σ:Int)=(nM P σ)[(rC p σ).toNat]:=by
   have h0:=hk.2.2.2.2
   unfold aP at h0 ⊢
   split at h0
   ·rename_i hh
    rw[if_pos hh]
    obtain ⟨_,_,g1,g2⟩:=hh
    rw[Int.toNat_natCast] at g1 g2 ⊢
    have g2':rC p σ<((nM p σ).length:Int):=g2
    rw[h.pl] at g2'
    have hc:(rC p σ).toNat<(nM P σ).length:=by omega
    refine ⟨hc,?_⟩
    show (nM p σ).getD (rC p σ).toNat (aK aQ)=_
    rw[h.pl,aO hc]
   ·exact absurd rfl h0
  obtain ⟨hc,hi⟩:=hn
  have ep:fH p (σ:Int)=(p.1,p.2.1.set σ (nX (cZ p σ) ((cZ p σ).1+1)),iG p σ,iH p σ):=by
   unfold fH;rw[if_pos he,Int.toNat_natCast]
  have hσp:σ<p.2.1.length:=by rw[h.ln];exact hσ
  have epl:∀ t,nM (fH p (σ:Int)) t=nM P t:=fun t=>by
   rw[<- h.pl t,ep]
   unfold nM
   dsimp only
   rw[lG]
   split
   ·rename_i hh
    obtain ⟨rfl,_⟩:=hh
    show (cZ p (σ:Int)).2.1=_
    rw[bQY];unfold oD;rw[Int.toNat_natCast]
   ·rfl
  have epc:∀ t,rC (fH p (σ:Int)) t=if σ=t then rC p σ+1 else rC p t:=fun t=>by
   rw[ep]
   unfold rC
   dsimp only
   rw[lG]
   by_cases ht:σ=t
   ·subst ht
    rw[if_pos ⟨rfl,hσp⟩,if_pos rfl]
    show (cZ p (σ:Int)).1+1=_
    rw[aT5];unfold oD;rw[Int.toNat_natCast]
   ·rw[if_neg (fun hh=>ht hh.1),if_neg ht]
  have ed:∀ t:Nat,nN (L++[((σ:Int),aP p (σ:Int),true)]) (t:Int)=nN L (t:Int)++if σ=t then [aP p (σ:Int)] else []:=fun t=>by
   rw[aH4,bA1]
   by_cases ht:σ=t
   ·rw[if_pos (by omega),if_pos ht]
   ·rw[if_neg (by omega),if_neg ht]
  have sub:∀ (t:Nat) i,i∈nN L (t:Int)->i∈nN (L++[((σ:Int),aP p (σ:Int),true)]) (t:Int):=fun t i hm=>by rw[ed];exact List.mem_append_left _ hm
  have mo:∀ (k:Int) (t:Nat),(rV k (nN (L++[((σ:Int),aP p (σ:Int),true)]) (t:Int))).length=(rV k (nN L (t:Int))).length+if (aP p (σ:Int)).1=k/\σ=t then 1 else 0:=fun k t=>by
   rw[ed,zD,List.length_append]
   by_cases ht:σ=t
   ·rw[if_pos ht,aN1]
    by_cases hq:(aP p (σ:Int)).1=k
    ·rw[if_pos hq,if_pos ⟨hq,ht⟩];rfl
    ·rw[if_neg hq,if_neg (fun hh=>hq hh.1)];rfl
   ·rw[if_neg ht,if_neg (fun hh=>ht hh.2)];rfl
  have hpc1:(rC p σ+1).toNat=(rC p σ).toNat+1:=by omega
  have hpc2:0<=rC p σ+1/\rC p σ+1<=((nM P σ).length:Int):=by omega
  have r1:(aP p (σ:Int)).1=1->∃ t,σ=t+1/\(3,(aP p (σ:Int)).2)∈nN L (t:Int):=fun k1=>by
   have hs:=hk.1 k1
   obtain ⟨t,rfl⟩:∃ t,σ=t+1:=⟨σ - 1,by omega⟩
   have he':=he
   rw[bJJ f1 f2 f3 k1,Bool.and_eq_true,decide_eq_true_eq,decide_eq_true_eq,show (((t+1:Nat):Int) - 1).toNat=t by omega] at he'
   have hq:=h.qa t hσ
   obtain ⟨d1,d2,d3⟩:=h.pc t (by omega)
   refine ⟨t,rfl,?_⟩
   rw[c3,d3] at hq
   rw[d3]
   refine rcv (hP.q1 t hσ) hc (k:=1) ?_ (by omega)
   rw[<- hi]
   exact Prod.ext k1 rfl
  have r4:(aP p (σ:Int)).1=4->σ+1<P.2.1.length/\(7,(aP p (σ:Int)).2)∈nN L ((σ+1:Nat):Int):=fun k4=>by
   have hs:=hk.2.2.1 k4
   have hs2:σ+1<P.2.1.length:=by rw[<- h.ln];omega
   have he':=he
   rw[bLC f1 f2 f3 k4,Bool.and_eq_true,decide_eq_true_eq,decide_eq_true_eq,Int.toNat_natCast] at he'
   have hq:=h.qb σ hs2
   obtain ⟨d1,d2,d3⟩:=h.pc (σ+1) hs2
   refine ⟨hs2,?_⟩
   rw[c3,d3] at hq
   rw[d3]
   refine rcv (hP.q4 σ hs2) hc (k:=4) ?_ (by omega)
   rw[<- hi]
   exact Prod.ext k4 rfl
  refine ⟨?_,epl,fun t ht=>?_,fun t ht=>?_,fun t ht=>?_,fun t ht m hm=>?_,fun t ht m hm=>?_,fun i hlt=>?_⟩
  ·rw[ep];show (p.2.1.set _ _).length=_;rw[List.length_set];exact h.ln
  ·rw[epc,ed]
   by_cases hst:σ=t
   ·subst hst
    rw[if_pos rfl,if_pos rfl,c3,hi,mE hc,hpc1]
    exact ⟨hpc2.1,hpc2.2,rfl⟩
   ·rw[if_neg hst,if_neg hst,List.append_nil];exact h.pc t ht
  ·have h1:=h.qa t ht
   have h2:=bRL he t
   rw[mo,mo,ep]
   show ((iG p (σ:Int)).getD t (aK aI)).2.length+_<=_
   clear r1 r4 mo sub ed epl ep epc
   omega
  ·have h1:=h.qb t ht
   have h2:=bQZ he t
   rw[mo,mo,ep]
   show ((iH p (σ:Int)).getD t (aK aI)).2.length+_<=_
   clear r1 r4 mo sub ed epl ep epc
   omega
  ·rw[ed] at hm
   rcases List.mem_append.1 hm with hm|hm
   ·exact sub _ _ (h.m1 t ht m hm)
   ·by_cases hst:σ=t+1
    ·rw[if_pos hst,List.mem_singleton] at hm
     obtain ⟨t',e,hr⟩:=r1 (by rw[<- hm])
     have:t'=t:=Nat.succ.inj (e.symm.trans hst)
     rw[this,<- hm] at hr
     exact sub _ _ hr
    ·rw[if_neg hst] at hm;cases hm
  ·rw[ed] at hm
   rcases List.mem_append.1 hm with hm|hm
   ·exact sub _ _ (h.m4 t ht m hm)
   ·by_cases hst:σ=t
    ·subst hst
     rw[if_pos rfl,List.mem_singleton] at hm
     obtain ⟨_,hr⟩:=r4 (by rw[<- hm])
     rw[<- hm] at hr
     exact sub _ _ hr
    ·rw[if_neg hst] at hm;cases hm
  ·rw[List.length_append,List.length_singleton] at hlt
   rcases Nat.lt_or_eq_of_le (Nat.le_of_lt_succ hlt) with h1|rfl
   ·rw[List.take_append_of_le_length (by omega),List.getElem_append_left h1];exact h.ok i h1
   ·rw[List.getElem_append_right (Nat.le_refl _),List.take_append_of_le_length (Nat.le_refl _),List.take_length]
    simp only[Nat.sub_self,List.getElem_cons_zero]
    intro _
    dsimp only
    refine ⟨⟨by omega,by omega⟩,fun k1=>?_,fun k4=>?_,fun k2 h0=>?_,fun k6 h0=>?_⟩
    ·obtain ⟨t,rfl,hr⟩:=r1 k1
     exact ⟨by omega,by rw[show ((t+1:Nat):Int) - 1=(t:Int) by omega];exact hr⟩
    ·obtain ⟨h2,hr⟩:=r4 k4
     exact ⟨by omega,by rw[show (σ:Int)+1=((σ+1:Nat):Int) by omega];exact hr⟩
    ·obtain ⟨t,rfl⟩:∃ t,σ=t+1:=⟨σ - 1,by omega⟩
     have h1:=hP.a1 (t+1) hσ (by omega) _ hc (by rw[<- hi];exact k2)
     rw[<- hi,<- c3] at h1
     have h2:=h.m1 t hσ _ h1
     obtain ⟨d1,d2,d3⟩:=h.pc t (by omega)
     rw[show ((t+1:Nat):Int) - 1=(t:Int) by omega]
     rw[d3] at h2 ⊢
     exact bJP (hP.a2 t (by omega)) h2
    ·have hs2:σ+1<P.2.1.length:=by omega
     have h1:=hP.a4 σ hs2 _ hc (by rw[<- hi];exact k6)
     rw[<- hi,<- c3] at h1
     have h2:=h.m4 σ hs2 _ h1
     obtain ⟨d1,d2,d3⟩:=h.pc (σ+1) hs2
     rw[show (σ:Int)+1=((σ+1:Nat):Int) by omega]
     rw[d3] at h2 ⊢
     exact bJP (hP.a6 (σ+1) hs2) h2
theorem TrI.run {P:bI} (hP:PlOk P):(l:List Int)->{p:bI}->{L:List aGK}->TrI P p L->TrI P (nY p l) (L++aPT p l)
 | [],p,L,h=>by rw[show aPT p []=[] from rfl,List.append_nil];exact h
 | s :: l,p,L,h=>by
  have h1:=TrI.run hP l (h.step hP s)
  rw[List.append_assoc] at h1
  exact h1
theorem TrI.start {P:bI} (h1:∀ s,s<P.2.1.length->rC P s=0) (h2:∀ s,(P.2.2.1.getD s (aK aI)).2.length=0) (h3:∀ s,(P.2.2.2.getD s (aK aI)).2.length=0):TrI P P []:=by
 have e:∀ t,nN [] t=[]:=fun t=>rfl
 refine ⟨rfl,fun _=>rfl,fun s hs=>?_,fun s hs=>?_,fun s hs=>?_,fun s hs m hm=>?_,fun s hs m hm=>?_,fun i hi=>absurd hi (Nat.not_lt_zero _)⟩
 ·rw[h1 s hs];exact ⟨Int.le_refl _,by omega,rfl⟩
 ·rw[h2 s,e,e];exact Nat.le_refl _
 ·rw[h3 s,e,e];exact Nat.le_refl _
 ·rw[e] at hm;cases hm
 ·rw[e] at hm;cases hm
def aJM (f:Nat->Nat):Nat->Nat
 | 0=>0
 | k+1=>aJM f k+f k
theorem bL4 {α:Type} (g:α->Nat) (l:List α) (d:α):(k:Nat)->k<=l.length->((l.take k).map g).sum=aJM (fun i=>g (l.getD i d)) k
 | 0,_=>rfl
 | k+1,h=>by rw[gC g l k (by omega),bL4 g l d k (by omega),aJM,aO (show k<l.length by omega)]
theorem aMC {m:List dU} {i:Nat} (h:i<m.length):kQ m i=(m.getD i nO).2.1:=if_pos h
theorem aP0 {m:List dU} (hm:bY m=true):kQ m m.length=eN m:=by unfold kQ eN;rw[if_neg (Nat.lt_irrefl _),if_pos hm]
theorem bII {m:List dU} (hm:bY m=true):kQ m 0=jP m:=by
 have h1:=(bR m).1 hm
 rw[aMC (show 0<m.length by omega)];unfold jP;rw[if_pos hm]
theorem aW3 {m:List dU} {x:List Int} (hm:bY m=true) (hx:dJ x (jP m)=true) {i:Nat} (hi:i<=m.length):dJ ((jD m x m.length).1.getD i []) (kQ m i)=true:=by
 have h1:=(bR m).1 hm
 rw[aFB m x _ i hi]
 rcases Nat.lt_or_eq_of_le hi with h|rfl
 ·rw[aMC h];exact (bMY hm hx i h).1
 ·have:=(bMY hm hx (m.length - 1) (by omega)).2
  rw[show m.length - 1+1=m.length by omega] at this
  unfold kQ;rw[if_neg (Nat.lt_irrefl _)];exact this
theorem bR1 {m:List dU} {x:List Int} (redo:Bool) (k:Int) (hm:bY m=true) (hx:dJ x (jP m)=true):tZ m redo (k,aBI redo (jD m x m.length).1)=true:=by
 have hl:=tR m x m.length
 refine (aDE m redo _).2 ?_
 cases redo with
 | true =>
  refine ⟨by show (List.take 1 _).length=1;rw[List.length_take];omega,fun i hi=>?_⟩
  have h0:i=0:=by have:i<1:=hi;omega
  subst h0
  have:=aW3 hm hx (i:=0) (Nat.zero_le _)
  show dJ ((List.take 1 (jD m x m.length).1).getD 0 []) _=true
  rw[List.getD_eq_getElem?_getD,List.getElem?_take,if_pos (by decide),<- List.getD_eq_getElem?_getD]
  exact this
 | false=>exact ⟨hl,fun i hi=>aW3 hm hx (by have:i<m.length+1:=hi;omega)⟩
theorem bV1 {l:List Int} (h:l.all mK=true) (i:Nat):mK (l.getD i 0)=true:=by
 rcases Nat.lt_or_ge i l.length with hi|hi
 ·rw[aO hi];exact List.all_eq_true.1 h _ (List.getElem_mem hi)
 ·rw[List.getD_eq_getElem?_getD,List.getElem?_eq_none hi];decide
theorem cCR {f:Int->Int->Int × Bool} {a b:List Int} {n:Int} (hf:∀ x y,mK (f x y).1=true) (ha:dJ a n=true) (hb:dJ b n=true):dJ (qE f a b).1 n=true:=by
 obtain ⟨a1,a2⟩:=(cP a n).1 ha
 obtain ⟨a3,a4,a5⟩:=(eC a).1 a1
 unfold qE
 rw[if_pos ((aMZ _ _).2 ⟨a1,by rw[a2];exact hb⟩)]
 exact aFC a3 a4 a2 fun i=>hf _ _
theorem cCE {o:dU} {x d:List Int} (h:opB o=true) (hx:dJ x o.2.1=true) (hd:dJ d o.2.2.1=true):dJ (lR o x d).1 o.2.1=true:=by
 obtain ⟨⟨h1,h2,h3,h4,h5,h6,h7,h8⟩,h9⟩:=(lQ o).1 h
 obtain ⟨x1,x2⟩:=(cP x _).1 hx
 obtain ⟨x3,x4,x5⟩:=(eC x).1 x1
 obtain ⟨d1,d2⟩:=(cP d _).1 hd
 obtain ⟨d3,d4,d5⟩:=(eC d).1 d1
 have hmb:o.1=1\/o.1=5->dJ (pQ (aFT o) d).1 o.2.1=true:=fun hk=>by
  unfold pQ
  rw[if_pos ⟨bON h hk,hd⟩]
  exact aFC (by show 1<=o.2.1.toNat;omega) (by show o.2.1.toNat<=6;omega) (by show (o.2.1.toNat:Int)=o.2.1;omega) fun i=>bUG _ _
 unfold lR
 rw[if_neg (fun hn=>hn ⟨h,hx,hd⟩)]
 split
 ·rename_i hk;exact hmb (.inl hk)
 ·rename_i hk1
  have he:=h7 hk1
  split
  ·rw[he];exact hd
  ·split
   ·rename_i hk
    have hl:o.2.2.2.length=1:=by
     have:(o.2.2.2.length:Int)=1:=by rw[h8];unfold lM;rw[if_neg (by omega),if_neg (by omega),if_neg (by omega),if_pos hk]
     omega
    unfold aED
    rw[if_pos ⟨bP0 h 0 (by omega),d1⟩]
    exact aFC d3 d4 (by rw[d2,he]) fun i=>aFI _
   ·split
    ·rename_i hk
     exact cCR (fun _ _=>aFI _) (by rw[he];exact hd) (hmb (.inr hk))
    ·unfold aB1
     rw[if_pos ((aMZ _ _).2 ⟨x1,by rw[x2,he];exact hd⟩)]
     refine aFC x3 x4 x2 fun i=>?_
     split
     ·exact bV1 d5 i
     ·decide
theorem bY7 {a b:Int} {x y:Nat} (ha:(x:Int)=a) (hb:(y:Int)=b):((x * y:Nat):Int)=a * b:=by rw[Int.natCast_mul,ha,hb]
theorem cBA {o:dU} {x d:List Int} (h:opB o=true) (hx:dJ x o.2.1=true) (hd:dJ d o.2.2.1=true):(lR o x d).2.1.length=o.2.2.2.length:=by
 obtain ⟨⟨h1,h2,h3,h4,h5,h6,h7,h8⟩,h9⟩:=(lQ o).1 h
 obtain ⟨x1,x2⟩:=(cP x _).1 hx
 obtain ⟨d1,d2⟩:=(cP d _).1 hd
 have ho:o.1=1\/o.1=5->(aC7 d x).1.2.2.length=o.2.2.2.length:=fun hk=>by
  unfold aC7
  rw[if_pos ⟨d1,x1⟩]
  have e:(zZ (aDS d x) d.length).length=d.length * x.length:=aBJ (fun i=>eX _ _) _
  have e2:(o.2.2.2.length:Int)=o.2.1 * o.2.2.1:=by rw[h8];unfold lM;rw[if_neg (by omega),if_pos hk]
  have e3:=bY7 d2 x2
  rw[Int.mul_comm] at e2
  show (zZ (aDS d x) d.length).length=_
  rw[e];omega
 unfold lR
 rw[if_neg (fun hn=>hn ⟨h,hx,hd⟩)]
 split
 ·rename_i hk;exact ho (.inl hk)
 ·rename_i hk1
  have he:=h7 hk1
  split
  ·rename_i hk
   have:(o.2.2.2.length:Int)=o.2.1:=by rw[h8];unfold lM;rw[if_neg (by omega),if_neg (by omega),if_pos hk]
   show d.length=_
   omega
  ·split
   ·rename_i hk
    have:(o.2.2.2.length:Int)=1:=by rw[h8];unfold lM;rw[if_neg (by omega),if_neg (by omega),if_neg (by omega),if_pos hk]
    show 1=_
    omega
   ·split
    ·rename_i hk;exact ho (.inr hk)
    ·have:(o.2.2.2.length:Int)=0:=by rw[h8];unfold lM;rw[if_neg (by omega),if_neg (by omega),if_neg (by omega),if_neg (by omega)]
     show 0=_
     omega
theorem bL2 {m:List dU} {r:dG} {d:List Int} (hm:bY m=true) (hr:aBW m r m.length=true) (hd:dJ d (eN m)=true):(k:Nat)->k<=m.length ->
  dJ (iI m r d m.length k).2.1 (kQ m (m.length - k))=true/\∀ i,m.length - k<=i->i<m.length->((iI m r d m.length k).1.getD i []).length=(m.getD i nO).2.2.2.length
 | 0,_=>by
  rw[Nat.sub_zero,aP0 hm]
  exact ⟨hd,fun i h1 h2=>by omega⟩
 | k+1,hk=>by
  obtain ⟨i1,i2⟩:=bL2 hm hr hd k (by omega)
  have hl:=rD m r d m.length k
  have hM:=(bR m).1 hm
  have hj:m.length - 1 - k<m.length:=by omega
  have ho:opB (m.getD (m.length - 1 - k) nO)=true:=by rw[aO hj];exact ((uY m hj).1 (hM.2.2 _ hj)).1
  have hx:=(tD _ _ _).1 hr _ hj
  rw[aMC hj] at hx
  rw[show m.length - k=m.length - 1 - k+1 by omega,aV3 hm hj] at i1
  refine ⟨?_,fun i h1 h2=>?_⟩
  ·rw[show m.length - (k+1)=m.length - 1 - k by omega,aMC hj]
   exact cCE ho hx i1
  ·show ((((iI m r d m.length k).1.set (m.length - 1 - k) _).getD i []):List Int).length=_
   rw[lG]
   by_cases hi:m.length - 1 - k=i
   ·rw[if_pos ⟨hi,by omega⟩,<- hi]
    exact cBA ho hx i1
   ·rw[if_neg (fun hh=>hi hh.1)]
    exact i2 i (by omega) h2
theorem bXN {m:List dU} {r:dG} {d:List Int} (hm:bY m=true) (hr:aNZ m r=true) (hd:dJ d (eN m)=true) :
  dJ (kH m r d).2.1 (jP m)=true/\(kH m r d).1.length=m.length/\∀ i,i<m.length->((kH m r d).1.getD i []).length=(m.getD i nO).2.2.2.length:=by
 unfold aNZ at hr
 rw[Bool.and_eq_true] at hr
 obtain ⟨h1,h2⟩:=bL2 hm hr.2 hd m.length (Nat.le_refl _)
 rw[Nat.sub_self,bII hm] at h1
 exact ⟨h1,rD _ _ _ _ _,fun i hi=>h2 i (by omega) hi⟩
theorem bMX {m:List dU} {g:List (List Int)}:aIM m g=true↔g.length=m.length/\∀ i,i<m.length->(g.getD i []).length=(m.getD i nO).2.2.2.length:=by
 rw[xN]
 constructor
 ·rintro ⟨h1,h2⟩
  refine ⟨h1,fun i hi=>?_⟩
  have:=(aCT m g hi (by omega)).1 (h2 i hi)
  rw[aO hi,aO (show i<g.length by omega)];exact this
 ·rintro ⟨h1,h2⟩
  refine ⟨h1,fun i hi=>(aCT m g hi (by omega)).2 ?_⟩
  have:=h2 i hi
  rw[aO hi,aO (show i<g.length by omega)] at this;exact this
theorem bYZ {m:List dU} {a b:List (List Int)} (ha:aIM m a=true) (hb:b.length=m.length) (hc:∀ i,i<m.length->(b.getD i []).length=(m.getD i nO).2.2.2.length):aIM m (eV a b)=true:=by
 obtain ⟨a1,a2⟩:=bMX.1 ha
 refine bMX.2 ⟨by rw[nB];omega,fun i hi=>?_⟩
 have e1:=a2 i hi
 have e2:=hc i hi
 rw[aO (show i<a.length by omega)] at e1
 rw[aO (show i<b.length by omega)] at e2
 have hl:i<(eV a b).length:=by rw[nB];omega
 rw[aO hl]
 have e3:(eV a b)[i]=aAU (a[i]'(by omega)) (b[i]'(by omega)):=List.getElem_zipWith
 rw[e3]
 unfold aAU
 rw[List.length_zipWith];omega
theorem aYJ (n:Int):oM [] n=true:=rfl
theorem bGW {v:List Int} {n:Int} (h:dJ v n=true):oM v n=true:=(bRM v n).2 (.inr h)
theorem cC2 {x:bH} {k:Int} (h:jA x=true) (h1:0<=k) (h2:k<=(x.2.1.length:Int)):jA (nX x k)=true:=by
 obtain ⟨a1,a2,a3,a4,a5,a6,a7,a8⟩:=(dB x).1 h
 exact (dB _).2 ⟨a1,⟨h1,h2⟩,a3,a4,a5,a6,a7,a8⟩
theorem cCV {x:bH} {v:List Int} (h:jA x=true) (hv:oM v (jP x.2.2.1)=true):jA (aY1 x v)=true:=by
 obtain ⟨a1,a2,a3,a4,a5,a6,a7,a8⟩:=(dB x).1 h
 exact (dB _).2 ⟨a1,a2,a3,a4,hv,a6,a7,a8⟩
theorem cCZ {x:bH} {v:List Int} (h:jA x=true) (hv:oM v (eN x.2.2.1)=true):jA (bB2 x v)=true:=by
 obtain ⟨a1,a2,a3,a4,a5,a6,a7,a8⟩:=(dB x).1 h
 exact (dB _).2 ⟨a1,a2,a3,a4,a5,a6,hv,a8⟩
theorem cCT {x:bH} {v:List Int} (h:jA x=true) (hv:oM v (eN x.2.2.1)=true):jA (bB1 x v)=true:=by
 obtain ⟨a1,a2,a3,a4,a5,a6,a7,a8⟩:=(dB x).1 h
 exact (dB _).2 ⟨a1,a2,a3,a4,a5,a6,a7,hv⟩
theorem cCG {x:bH} {v:List Int} (h:jA x=true) (hv:oM v (jP x.2.2.1)=true):jA (aA2 x v)=true:=by
 obtain ⟨a1,a2,a3,a4,a5,a6,a7,a8⟩:=(dB x).1 h
 exact (dB _).2 ⟨a1,a2,a3,a4,a5,hv,a7,a8⟩
theorem bQ4 {s:bH} {x:List Int} (hm:bY s.2.2.1=true) (hx:dJ x (jP s.2.2.1)=true):dJ (aND s x) (eN s.2.2.1)=true:=by
 have:=aW3 hm hx (i:=s.2.2.1.length) (Nat.le_refl _)
 rw[aP0 hm] at this
 exact this
theorem cBE {s:bH} {m:Int} {x t:List Int} (h:jA s=true) (hx:dJ x (jP s.2.2.1)=true):jA (aVJ s m x t)=true:=by
 obtain ⟨a1,a2,a3,a4,a5,a6,a7,a8⟩:=(dB s).1 h
 refine (dB _).2 ⟨a1,a2,a3,?_,aYJ _,a6,?_,a8⟩
 ·show (s.2.2.2.2.2.1++[(m,aBI s.2.2.2.2.1 (jD s.2.2.1 x s.2.2.1.length).1)]).all (tZ s.2.2.1 s.2.2.2.2.1)=true
  rw[List.all_append,a4,Bool.true_and,List.all_cons,List.all_nil,Bool.and_true]
  exact bR1 _ _ a1 hx
 ·show oM (if s.2.2.2.1=true then s.2.2.2.2.2.2.2.2.1 else aND s x) (eN s.2.2.1)=true
  split
  ·exact a7
  ·exact bGW (bQ4 a1 hx)
theorem bXK {s:bH} {r:dG} (h:jA s=true):jA (s.1,s.2.1,s.2.2.1,s.2.2.2.1,s.2.2.2.2.1,s.2.2.2.2.2.1,r,s.2.2.2.2.2.2.2)=true:=by
 obtain ⟨a1,a2,a3,a4,a5,a6,a7,a8⟩:=(dB s).1 h
 exact (dB _).2 ⟨a1,a2,a3,a4,a5,a6,a7,a8⟩
theorem cBQ {s:bH} {m:Int} {t:List Int} (h:aU6 s m t=true):jA (aQT s m t)=true/\dJ (kH s.2.2.1 (sW s m) (mM s m t).1).2.1 (jP s.2.2.1)=true:=by
 unfold aU6 at h
 simp only[Bool.and_eq_true] at h
 obtain ⟨h1,h2,h3,h4⟩:=h
 obtain ⟨a1,a2,a3,a4,a5,a6,a7,a8⟩:=(dB s).1 h1
 obtain ⟨b1,b2,b3⟩:=bXN a1 h3 h4
 refine ⟨(dB _).2 ⟨a1,a2,bYZ a3 b2 b3,?_,a5,bGW b1,a7,aYJ _⟩,b1⟩
 show (s.2.2.2.2.2.1.take _++s.2.2.2.2.2.1.drop _).all (tZ s.2.2.1 s.2.2.2.2.1)=true
 rw[List.all_eq_true] at a4 ⊢
 intro y hy
 rcases List.mem_append.1 hy with hy|hy
 ·exact a4 y (List.mem_of_mem_take hy)
 ·exact a4 y (List.mem_of_mem_drop hy)
theorem bSF {l:List qZ} {m:Int} (h:(l.map (·.1)).head?=some m):jH l m=0:=by
 cases l with
 | nil=>cases h
 | cons a l =>
  have e:a.1=m:=by simpa using h
  exact (aTN (l:=a :: l) (m:=m) (k:=0) (Nat.zero_lt_succ _) rfl e).symm
theorem bSN {l:List qZ} {m:Int} (h:m ∉ l.map (·.1)):jH l m = -1:=by
 have:∀ k,k<=l.length->yU l m k = -1:=fun k=>by
  induction k with
  | zero=>intro _;rfl
  | succ k ih =>
   intro hk
   refine aSS (ih (by omega)) fun e=>h ?_
   rw[aO (show k<l.length by omega)] at e
   rw[<- e]
   exact List.mem_map.2 ⟨_,List.getElem_mem _,rfl⟩
 exact this _ (Nat.le_refl _)
def bK1 (a b:Int):List eZ->List Int->Bool
 | [],_=>true
 | i :: l,sn=>(if i.1=b then sn.any (fun m=>decide (m=i.2)) else true)&&bK1 a b l (if i.1=a then i.2 :: sn else sn)
theorem bHP {a b:Int}:(l pre:List eZ)->(sn:List Int)->(∀ m∈sn,(a,m)∈pre)->bK1 a b l sn=true->∀ k (h:k<l.length),l[k].1=b->(a,l[k].2)∈pre++l.take k
 | [],_,_,_,_,k,h,_=>absurd h (Nat.not_lt_zero _)
 | i :: l,pre,sn,hs,hg,k,h,hb=>by
  rw[bK1,Bool.and_eq_true] at hg
  cases k with
  | zero =>
   rw[List.getElem_cons_zero] at hb ⊢
   have h1:=hg.1
   rw[if_pos hb,List.any_eq_true] at h1
   obtain ⟨m,hm,e⟩:=h1
   rw[decide_eq_true_eq] at e
   rw[<- e]
   exact List.mem_append_left _ (hs m hm)
  | succ k =>
   rw[List.getElem_cons_succ] at hb ⊢
   have h1:=bHP l (pre++[i]) _ (fun m hm=>by
    split at hm
    ·rename_i hi
     rcases List.mem_cons.1 hm with rfl|hm
     ·exact List.mem_append_right _ (List.mem_singleton.2 (Prod.ext hi.symm rfl))
     ·exact List.mem_append_left _ (hs m hm)
    ·exact List.mem_append_left _ (hs m hm)) hg.2 k (by simpa using h) hb
   rw[List.append_assoc] at h1
   exact h1
theorem bF8 {l:List eZ} {a b:Int} (h:bK1 a b l []=true):ahd l a b:=fun k hk hb=>by
 have:=bHP l [] [] (fun m hm=>by cases hm) h k hk hb
 rwa [List.nil_append] at this
def nL (n:Int):List Int:=(List.range n.toNat).map fun (k:Nat)=>(k:Int)
def bWL (ds n s mi:Int) (r:Bool):Bool :=
 (decide (s<=0) || decide (rV 1 (rZ ds n s mi r)=nL mi))&&((decide (n - 1<=s) || decide (rV 3 (rZ ds n s mi r)=nL mi))&&((decide (n - 1<=s) || decide (rV 4 (rZ ds n s mi r)=nL mi))&&((decide (s<=0) || decide (rV 7 (rZ ds n s mi r)=nL mi)) &&
 ((decide (s<=0) || bK1 1 2 (rZ ds n s mi r) [])&&(bK1 2 3 (rZ ds n s mi r) []&&((decide (n - 1<=s) || bK1 4 6 (rZ ds n s mi r) [])&&bK1 6 7 (rZ ds n s mi r) []))))))
theorem bY8:(([1,2]:List Int).all fun ds=>([1,2,3,4]:List Int).all fun n=>([0,1,2,3]:List Int).all fun s=>([1,2,3,4,5]:List Int).all fun mi=>[true,false].all fun r=>decide (n<=s) || bWL ds n s mi r)=true:=by kernel_rfl
theorem bWR {ds n s mi:Int} (r:Bool) (hd:ds=1\/ds=2) (hn:1<=n/\n<=4) (hs:0<=s/\s<n) (hm:1<=mi/\mi<=5):bWL ds n s mi r=true:=by
 have h:=bY8
 simp only[List.all_eq_true] at h
 have:=h ds (by simp;omega) n (by simp;omega) s (by simp;omega) mi (by simp;omega) r (by cases r <;> simp)
 rw[decide_eq_false (show ¬ n<=s by omega),Bool.false_or] at this
 exact this
theorem aXI {m:List dU} (h:bY m=true) {a b:Nat} (hab:a<b) (hb:b<=m.length):bY (List.drop a (List.take b m))=true:=by
 obtain ⟨h1,h2,h3⟩:=(bR m).1 h
 have hl:(List.drop a (List.take b m)).length=b - a:=by rw[List.length_drop,List.length_take];omega
 have e:∀ i,i<b - a->(List.drop a (List.take b m)).getD i nO=m.getD (a+i) nO:=fun i hi=>by
  rw[List.getD_eq_getElem?_getD,List.getD_eq_getElem?_getD,List.getElem?_drop,List.getElem?_take,if_pos (by omega)]
 refine (bR _).2 ⟨by omega,by omega,fun i hi=>?_⟩
 rw[hl] at hi
 have h4:=h3 (a+i) (by omega)
 unfold aVF at h4 ⊢
 rw[e i hi,e (i - 1) (by omega)]
 rw[Bool.and_eq_true] at h4 ⊢
 refine ⟨h4.1,?_⟩
 by_cases h0:i=0
 ·rw[decide_eq_true h0];rfl
 ·have h5:=h4.2
  rw[decide_eq_false (show ¬ a+i=0 by omega),Bool.false_or] at h5
  rw[show a+(i - 1)=a+i - 1 by omega,h5,Bool.or_true]
theorem aB2 {c:bB} {b:List bA} (h:cH c b=0) {s:Nat} (hs:s<(aV c b).2.1.length) :
  nM (aV c b) s=rZ c.2.2.1 (bP c.1 c.2.1) (s:Int) (b.length:Int) (c.2.2.2.1.getD s false)/\rC (aV c b) s=0:=by
 obtain ⟨a1,a2,a3,a4,a5,a6,a7,a8⟩:=pV h
 rw[<- zT h] at hs ⊢
 have hs2:s<(bP c.1 c.2.1).toNat:=by
  have e:(mp (bP c.1 c.2.1).toNat (fun s=>aDX c b.length (s:Int))).length=(bP c.1 c.2.1).toNat:=eX _ _
  have:s<(mp (bP c.1 c.2.1).toNat (fun s=>aDX c b.length (s:Int))).length:=hs
  omega
 have hr:=aW5 a3 (show (0:Int)<=(s:Int) by omega) (show (s:Int)<=(c.2.1.length:Int) by omega)
 have hm:bY (List.drop (aZ c.1 c.2.1 (s:Int)).1.toNat (List.take (aZ c.1 c.2.1 (s:Int)).2.toNat c.1))=true:=aXI a1 (by omega) (by omega)
 unfold nM rC
 dsimp only
 rw[tJ _ _ _ hs2]
 unfold aDX aIZ
 rw[if_pos hm,Int.toNat_natCast]
 exact ⟨rfl,rfl⟩
theorem zP {c:bB} {b:List bA} (h:cH c b=0):((aV c b).2.1.length:Int)=bP c.1 c.2.1:=by
 obtain ⟨a1,a2,a3,a4,a5,a6,a7,a8⟩:=pV h
 rw[<- zT h]
 show ((mp _ _).length:Int)=_
 rw[eX];omega
theorem bJ3 {c:bB} {b:List bA} (h:cH c b=0):c.2.2.1=1\/c.2.2.1=2:=by
 obtain ⟨a1,a2,a3,a4,a5,a6,a7,a8⟩:=pV h
 by_cases h4:c.2.2.1=1\/c.2.2.1=2
 ·exact h4
 ·rw[<- bZF a1 a2 (by omega) h4] at h;omega
theorem bXX {c : bB} {b : List bA} (h : cH c b = 0) : PlOk (aV c b) := by
  obtain ⟨a1, a2, a3, a4, a5, a6, a7, a8⟩ := pV h
  have hb := ((vC _ _).1 a2).2.1
  have hn := zP h
  have C : ∀ s, s < (aV c b).2.1.length -> bWL c.2.2.1 (bP c.1 c.2.1) (s : Int) (b.length : Int) (c.2.2.2.1.getD s false) = true := fun s hs =>
    bWR _ (bJ3 h) ⟨by omega, a5⟩ ⟨by omega, by omega⟩ ⟨by omega, by omega⟩
  have D : ∀ s, s < (aV c b).2.1.length -> (0 < s -> rV 1 (nM (aV c b) s) = nL (b.length : Int)) /\ (s + 1 < (aV c b).2.1.length -> rV 3 (nM (aV c b) s) = nL (b.length : Int)) /\ (s + 1 < (aV c b).2.1.length -> rV 4 (nM (aV c b) s) = nL (b.length : Int)) /\
      (0 < s -> rV 7 (nM (aV c b) s) = nL (b.length : Int)) /\ (0 < s -> ahd (nM (aV c b) s) 1 2) /\ ahd (nM (aV c b) s) 2 3 /\ (s + 1 < (aV c b).2.1.length -> ahd (nM (aV c b) s) 4 6) /\ ahd (nM (aV c b) s) 6 7 := fun s hs => by
    have h1 := C s hs
    unfold bWL at h1
    rw [(aB2 h hs).1]
    simp only [Bool.and_eq_true, Bool.or_eq_true, decide_eq_true_eq] at h1
    obtain ⟨q1, q2, q3, q4, q5, q6, q7, q8⟩ := h1
    exact ⟨fun h0 => q1.resolve_left (by omega), fun h0 => q2.resolve_left (by omega), fun h0 => q3.resolve_left (by omega), fun h0 => q4.resolve_left (by omega), fun h0 => bF8 (q5.resolve_left (by omega)), bF8 q6, fun h0 => bF8 (q7.resolve_left (by omega)), bF8 q8⟩
  exact { q1 := fun s hs => ((D (s + 1) hs).1 (by omega)).trans ((D s (by omega)).2.1 hs).symm
          q4 := fun s hs => ((D s (by omega)).2.2.1 hs).trans ((D (s + 1) hs).2.2.2.1 (by omega)).symm
          a1 := fun s hs h0 => (D s hs).2.2.2.2.1 h0
          a2 := fun s hs => (D s hs).2.2.2.2.2.1
          a4 := fun s hs => (D s (by omega)).2.2.2.2.2.2.1 hs
          a6 := fun s hs => (D s hs).2.2.2.2.2.2.2 }
theorem bOF {c:bB} {b:List bA} (h:cH c b=0):TrI (aV c b) (aV c b) []:=by
 have q:∀ (n:Nat) (s:Nat),((mp n (aCF c)).getD s (aK aI)).2.length=0:=fun n s=>by
  by_cases hs:s<n
  ·rw[tJ _ _ _ hs];rfl
  ·rw[List.getD_eq_getElem?_getD,List.getElem?_eq_none (by rw[eX];omega)];rfl
 refine TrI.start (fun s hs=>(aB2 h hs).2) (fun s=>?_) (fun s=>?_)
 ·rw[<- zT h];exact q _ s
 ·rw[<- zT h];exact q _ s
def kd (pl:List eZ) (k:Nat):Int:=(pl.getD k (0,0)).1
def aWH (ms:List Int) (i:eZ):List Int:=if i.1=2 then ms++[i.2] else if i.1=6 then ms.drop 1 else ms
def msF (l:List eZ):List Int:=l.foldl aWH []
def NX (first last redo:Bool) (a b:Int):Prop :=
 ((b=2/\first=false)↔a=1)/\(b=3↔(a=2/\last=false))/\(((b=5\/b=6)/\last=false)↔(a=4\/(a=5/\last=false)))/\((b=6/\redo=true)↔a=5)/\(b=7↔(a=6/\first=false))
instance (first last redo:Bool) (a b:Int):Decidable (NX first last redo a b):=by unfold NX;infer_instance
def IN (first last redo:Bool) (mi:Int) (K:Nat) (i:eZ) (ms:List Int):Prop :=
 (0<=i.2/\i.2<mi)/\(1<=i.1/\i.1<=8)/\(i.1=1->first=false)/\(i.1=3->last=false)/\(i.1=4->last=false)/\(i.1=7->first=false)/\(i.1=5->redo=true)/\(i.1=2->i.2 ∉ ms/\ms.length<K)/\(i.1=5\/i.1=6->ms.head?=some i.2)
instance (first last redo:Bool) (mi:Int) (K:Nat) (i:eZ) (ms:List Int):Decidable (IN first last redo mi K i ms):=by unfold IN;infer_instance
def bIZ (first last redo:Bool) (mi:Int) (K:Nat):List eZ->List Int->Bool
 | [],_=>true
 | i :: l,ms=>decide (IN first last redo mi K i ms)&&(decide (NX first last redo i.1 (l.getD 0 (0,0)).1)&&(decide (i.1=8↔l.length=0)&&bIZ first last redo mi K l (aWH ms i)))
structure PlC (first last redo:Bool) (mi:Int) (K:Nat) (pl:List eZ):Prop where
 i1:∀ k (h:k<pl.length),IN first last redo mi K pl[k] (msF (pl.take k))
 n1:∀ k,k<pl.length->NX first last redo (kd pl k) (kd pl (k+1))
 n0:NX first last redo 0 (kd pl 0)
 e8:∀ k,k<pl.length->(kd pl k=8↔k+1=pl.length)
theorem aHC {pl:List eZ} {k:Nat} (h:k<pl.length):kd pl k=pl[k].1:=by unfold kd;rw[aO h]
theorem aVO {first last redo:Bool} {mi:Int} {K:Nat}:(l:List eZ)->(ms:List Int)->bIZ first last redo mi K l ms=true ->
  ∀ k (h:k<l.length),IN first last redo mi K l[k] ((l.take k).foldl aWH ms)/\NX first last redo (kd l k) (kd l (k+1))/\(kd l k=8↔k+1=l.length)
 | [],_,_,k,h=>absurd h (Nat.not_lt_zero _)
 | i :: l,ms,hs,k,h=>by
  rw[bIZ,Bool.and_eq_true,Bool.and_eq_true,Bool.and_eq_true,decide_eq_true_eq,decide_eq_true_eq,decide_eq_true_eq] at hs
  obtain ⟨h1,h2,h3,h4⟩:=hs
  cases k with
  | zero =>
   refine ⟨h1,h2,?_⟩
   show i.1=8↔0+1=l.length+1
   rw[h3];omega
  | succ k =>
   obtain ⟨a1,a2,a3⟩:=aVO l _ h4 k (by simpa using h)
   refine ⟨a1,a2,?_⟩
   show kd l k=8↔k+1+1=l.length+1
   rw[a3];omega
theorem cBF {first last redo:Bool} {mi:Int} {K:Nat} {pl:List eZ} (h:bIZ first last redo mi K pl []=true) (h0:NX first last redo 0 (kd pl 0)):PlC first last redo mi K pl :=
 ⟨fun k hk=>(aVO pl [] h k hk).1,fun k hk=>(aVO pl [] h k hk).2.1,h0,fun k hk=>(aVO pl [] h k hk).2.2⟩
theorem aWK {pl:List eZ} {k:Nat} (h:k<pl.length):msF (pl.take (k+1))=aWH (msF (pl.take k)) pl[k]:=by
 unfold msF;rw[<- mE h,List.foldl_append];rfl
def bC9 (m:List dU) (r:dG):Prop:=r.length=m.length+1/\∀ i,i<=m.length->dJ (r.getD i []) (kQ m i)=true
theorem bZ7 {m:List dU} {r:dG} (h:bC9 m r):aNZ m r=true:=aIC h.1 ((tD _ _ _).2 fun i hi=>h.2 i (Nat.le_of_lt hi))
theorem bUP {m:List dU} {x:List Int} (hm:bY m=true) (hx:dJ x (jP m)=true):bC9 m (jD m x m.length).1:=⟨tR _ _ _,fun i hi=>aW3 hm hx hi⟩
structure StI (ops:List dU) (pl:List eZ) (first last redo:Bool) (k:Nat) (x:bH):Prop where
 e1:x.1=(k:Int)
 e2:x.2.1=pl
 e3:x.2.2.1=ops
 e4:x.2.2.2.1=last
 e5:x.2.2.2.2.1=redo
 st:jA x=true
 ms:x.2.2.2.2.2.1.map (·.1)=msF (pl.take k)
 vF:if kd pl k=6/\redo=true then bC9 ops x.2.2.2.2.2.2.1 else x.2.2.2.2.2.2.1=[]
 vX:if kd pl k=2/\first=false then dJ x.2.2.2.2.2.2.2.1 (jP ops)=true else x.2.2.2.2.2.2.2.1=[]
 vY:if kd pl k=3 then dJ x.2.2.2.2.2.2.2.2.1 (eN ops)=true else x.2.2.2.2.2.2.2.2.1=[]
 vG:if (kd pl k=5\/kd pl k=6)/\last=false then dJ x.2.2.2.2.2.2.2.2.2.1 (eN ops)=true else x.2.2.2.2.2.2.2.2.2.1=[]
 vD:if kd pl k=7 then dJ x.2.2.2.2.2.2.2.2.2.2.1 (jP ops)=true else x.2.2.2.2.2.2.2.2.2.2.1=[]
theorem ifP {a b:Prop} [Decidable a] [Decidable b] {x y:Prop} (h:a↔b):(if a then x else y)=(if b then x else y):=by
 by_cases ha:a
 ·rw[if_pos ha,if_pos (h.1 ha)]
 ·rw[if_neg ha,if_neg (fun hb=>ha (h.2 hb))]
theorem StI.next {ops:List dU} {pl:List eZ} {first last redo:Bool} {k:Nat} {x y:bH} (hk:k<pl.length) (hn:NX first last redo (kd pl k) (kd pl (k+1)))
  (e1:y.1=(k:Int)) (e2:y.2.1=pl) (e3:y.2.2.1=ops) (e4:y.2.2.2.1=last) (e5:y.2.2.2.2.1=redo) (st:jA y=true) (ms:y.2.2.2.2.2.1.map (·.1)=msF (pl.take (k+1)))
  (vF:if kd pl k=5 then bC9 ops y.2.2.2.2.2.2.1 else y.2.2.2.2.2.2.1=[])
  (vX:if kd pl k=1 then dJ y.2.2.2.2.2.2.2.1 (jP ops)=true else y.2.2.2.2.2.2.2.1=[])
  (vY:if kd pl k=2/\last=false then dJ y.2.2.2.2.2.2.2.2.1 (eN ops)=true else y.2.2.2.2.2.2.2.2.1=[])
  (vG:if kd pl k=4\/(kd pl k=5/\last=false) then dJ y.2.2.2.2.2.2.2.2.2.1 (eN ops)=true else y.2.2.2.2.2.2.2.2.2.1=[])
  (vD:if kd pl k=6/\first=false then dJ y.2.2.2.2.2.2.2.2.2.2.1 (jP ops)=true else y.2.2.2.2.2.2.2.2.2.2.1=[]):StI ops pl first last redo (k+1) (nX y (y.1+1)):=by
 obtain ⟨n1,n2,n3,n4,n5⟩:=hn
 refine ⟨by show y.1+1=_;rw[e1];rfl,e2,e3,e4,e5,cC2 st (by omega) (by rw[e2];omega),ms,?_,?_,?_,?_,?_⟩
 ·rw[ifP n4];exact vF
 ·rw[ifP n1];exact vX
 ·rw[ifP n2];exact vY
 ·rw[ifP n3];exact vG
 ·rw[ifP n5];exact vD
section
variable {ops:List dU} {pl:List eZ} {first last redo:Bool} {mi:Int} {K:Nat} {k:Nat} {x:bH}
theorem aMK (hk:k<pl.length) (h2:¬ kd pl k=2) (h6:¬ kd pl k=6):msF (pl.take (k+1))=msF (pl.take k):=by
 rw[aHC hk] at h2 h6
 rw[aWK hk];unfold aWH;rw[if_neg h2,if_neg h6]
theorem StI.mB (h:StI ops pl first last redo k x):bY ops=true:=by have:=((dB x).1 h.st).1;rwa [h.e3] at this
theorem StI.s1 (hC:PlC first last redo mi K pl) (h:StI ops pl first last redo k x) (hk:k<pl.length) (h1:kd pl k=1) {v:List Int} (hv:dJ v (jP ops)=true):StI ops pl first last redo (k+1) (nX (aY1 x v) ((aY1 x v).1+1)):=by
 have vF:=h.vF;have vX:=h.vX;have vY:=h.vY;have vG:=h.vG;have vD:=h.vD
 rw[h1] at vF vX vY vG vD
 refine StI.next (x:=x) hk (hC.n1 k hk) h.e1 h.e2 h.e3 h.e4 h.e5 (cCV h.st (by rw[h.e3];exact bGW hv)) (by rw[aMK hk (by omega) (by omega)];exact h.ms) ?_ ?_ ?_ ?_ ?_
 all_goals rw[h1]
 ·rw[if_neg (by omega)] at vF ⊢;exact vF
 ·rw[if_pos rfl];exact hv
 ·rw[if_neg (by omega)] at vY ⊢;exact vY
 ·rw[if_neg (by omega)] at vG ⊢;exact vG
 ·rw[if_neg (by omega)] at vD ⊢;exact vD
theorem StI.s2 (hC:PlC first last redo mi K pl) (h:StI ops pl first last redo k x) (hk:k<pl.length) (h2:kd pl k=2) {v t:List Int} (hv:dJ v (jP ops)=true) (ht:last=true->dJ t (eN ops)=true) :
  StI ops pl first last redo (k+1) (nX (aCB x pl[k].2 v t) ((aCB x pl[k].2 v t).1+1))/\aCB x pl[k].2 v t=aVJ x pl[k].2 v t:=by
 have vF:=h.vF;have vX:=h.vX;have vY:=h.vY;have vG:=h.vG;have vD:=h.vD
 rw[h2] at vF vX vY vG vD
 have hi:=(hC.i1 k hk).2.2.2.2.2.2.2.1 (by rw[<- aHC hk];exact h2)
 have hf:=bSN (l:=x.2.2.2.2.2.1) (m:=pl[k].2) (by rw[h.ms];exact hi.1)
 have hx':dJ v (jP x.2.2.1)=true:=by rw[h.e3];exact hv
 have e:aCB x pl[k].2 v t=aVJ x pl[k].2 v t:=by
  unfold aCB;rw[if_pos]
  unfold bJ5
  rw[h.st,hx',hf,h.e4,h.e3]
  cases hl:last with
  | false=>rfl
  | true=>rw[ht hl];rfl
 refine ⟨?_,e⟩
 rw[e]
 have hm:=h.mB
 refine StI.next (x:=x) hk (hC.n1 k hk) h.e1 h.e2 h.e3 h.e4 h.e5 (cBE h.st hx') ?_ ?_ ?_ ?_ ?_ ?_
 ·rw[aWK hk]
  unfold aWH
  rw[if_pos (by rw[<- aHC hk];exact h2),<- h.ms]
  show (x.2.2.2.2.2.1++[_]).map _=_
  rw[List.map_append];rfl
 all_goals rw[h2]
 ·rw[if_neg (by omega)] at vF ⊢;exact vF
 ·rw[if_neg (by omega)];rfl
 ·show if (2:Int)=2/\last=false then dJ (if x.2.2.2.1=true then x.2.2.2.2.2.2.2.2.1 else aND x v) (eN ops)=true else (if x.2.2.2.1=true then x.2.2.2.2.2.2.2.2.1 else aND x v)=[]
  rw[h.e4]
  cases hl:last with
  | false =>
   rw[if_pos ⟨rfl,rfl⟩,if_neg (by decide),<- h.e3]
   exact bQ4 (by rw[h.e3];exact hm) hx'
  | true =>
   rw[if_neg (fun hh=>by cases hh.2),if_pos rfl]
   rw[if_neg (by omega)] at vY;exact vY
 ·rw[if_neg (by omega)] at vG ⊢;exact vG
 ·rw[if_neg (by omega)] at vD ⊢;exact vD
theorem StI.s3 (hC:PlC first last redo mi K pl) (h:StI ops pl first last redo k x) (hk:k<pl.length) (h3:kd pl k=3):StI ops pl first last redo (k+1) (nX (bB2 x []) ((bB2 x []).1+1)):=by
 have vF:=h.vF;have vX:=h.vX;have vY:=h.vY;have vG:=h.vG;have vD:=h.vD
 rw[h3] at vF vX vY vG vD
 refine StI.next (x:=x) hk (hC.n1 k hk) h.e1 h.e2 h.e3 h.e4 h.e5 (cCZ h.st (aYJ _)) (by rw[aMK hk (by omega) (by omega)];exact h.ms) ?_ ?_ ?_ ?_ ?_
 all_goals rw[h3]
 ·rw[if_neg (by omega)] at vF ⊢;exact vF
 ·rw[if_neg (by omega)] at vX ⊢;exact vX
 ·rw[if_neg (by omega)];rfl
 ·rw[if_neg (by omega)] at vG ⊢;exact vG
 ·rw[if_neg (by omega)] at vD ⊢;exact vD
theorem StI.s4 (hC:PlC first last redo mi K pl) (h:StI ops pl first last redo k x) (hk:k<pl.length) (h4:kd pl k=4) {v:List Int} (hv:dJ v (eN ops)=true):StI ops pl first last redo (k+1) (nX (bB1 x v) ((bB1 x v).1+1)):=by
 have vF:=h.vF;have vX:=h.vX;have vY:=h.vY;have vG:=h.vG;have vD:=h.vD
 rw[h4] at vF vX vY vG vD
 refine StI.next (x:=x) hk (hC.n1 k hk) h.e1 h.e2 h.e3 h.e4 h.e5 (cCT h.st (by rw[h.e3];exact bGW hv)) (by rw[aMK hk (by omega) (by omega)];exact h.ms) ?_ ?_ ?_ ?_ ?_
 all_goals rw[h4]
 ·rw[if_neg (by omega)] at vF ⊢;exact vF
 ·rw[if_neg (by omega)] at vX ⊢;exact vX
 ·rw[if_neg (by omega)] at vY ⊢;exact vY
 ·rw[if_pos (.inl rfl)];exact hv
 ·rw[if_neg (by omega)] at vD ⊢;exact vD
theorem StI.due (hC:PlC first last redo mi K pl) (h:StI ops pl first last redo k x) (hk:k<pl.length) (h5:kd pl k=5\/kd pl k=6) :
  jH x.2.2.2.2.2.1 pl[k].2=0/\tZ ops redo (x.2.2.2.2.2.1.getD 0 (aK aY))=true/\∃ a l,x.2.2.2.2.2.1=a :: l:=by
 have hi:=(hC.i1 k hk).2.2.2.2.2.2.2.2 (by rw[<- aHC hk];exact h5)
 rw[<- h.ms] at hi
 have hst:=((dB x).1 h.st).2.2.2.1
 rw[h.e3,h.e5] at hst
 refine ⟨bSF hi,?_,?_⟩
 ·cases hl:x.2.2.2.2.2.1 with
  | nil=>rw[hl] at hi;cases hi
  | cons a l=>rw[hl] at hst;rw[List.all_cons,Bool.and_eq_true] at hst;exact hst.1
 ·cases hl:x.2.2.2.2.2.1 with
  | nil=>rw[hl] at hi;cases hi
  | cons a l=>exact ⟨a,l,rfl⟩
theorem StI.s5 (hC:PlC first last redo mi K pl) (h:StI ops pl first last redo k x) (hk:k<pl.length) (h5:kd pl k=5):StI ops pl first last redo (k+1) (nX (xM x pl[k].2) ((xM x pl[k].2).1+1)):=by
 have vF:=h.vF;have vX:=h.vX;have vY:=h.vY;have vG:=h.vG;have vD:=h.vD
 rw[h5] at vF vX vY vG vD
 obtain ⟨d1,d2,d3⟩:=h.due hC hk (.inl h5)
 have hm:=h.mB
 have hr:dJ ((x.2.2.2.2.2.1.getD (jH x.2.2.2.2.2.1 pl[k].2).toNat (aK aY)).2.getD 0 []) (jP ops)=true:=by
  rw[d1]
  have:=((aDE _ _ _).1 d2).2 0 (by unfold aJG;split <;> omega)
  rw[bII hm] at this
  exact this
 rw[<- aRF h.st (by rw[d1];exact Int.le_refl _)]
 refine StI.next (x:=x) hk (hC.n1 k hk) h.e1 h.e2 h.e3 h.e4 h.e5 (bXK h.st) (by rw[aMK hk (by omega) (by omega)];exact h.ms) ?_ ?_ ?_ ?_ ?_
 all_goals rw[h5]
 ·rw[if_pos rfl]
  show bC9 ops (jD x.2.2.1 _ x.2.2.1.length).1
  rw[h.e3]
  exact bUP hm hr
 ·rw[if_neg (by omega)] at vX ⊢;exact vX
 ·rw[if_neg (by omega)] at vY ⊢;exact vY
 ·cases hl:last with
  | false =>
   rw[hl,if_pos ⟨.inl rfl,rfl⟩] at vG
   rw[if_pos (.inr ⟨rfl,rfl⟩)];exact vG
  | true =>
   rw[hl,if_neg (fun hh=>by cases hh.2)] at vG
   rw[if_neg (by rintro (hh|hh);omega;cases hh.2)];exact vG
 ·rw[if_neg (by omega)] at vD ⊢;exact vD
theorem StI.s6 (hC:PlC first last redo mi K pl) (h:StI ops pl first last redo k x) (hk:k<pl.length) (h6:kd pl k=6) {t:List Int} (ht:last=true->dJ t (eN ops)=true) :
  xQ x pl[k].2 t=aQT x pl[k].2 t/\StI ops pl first last redo (k+1) (nX (if first=true then aA2 (xQ x pl[k].2 t) [] else xQ x pl[k].2 t) ((if first=true then aA2 (xQ x pl[k].2 t) [] else xQ x pl[k].2 t).1+1)):=by
 have vF:=h.vF;have vX:=h.vX;have vY:=h.vY;have vG:=h.vG;have vD:=h.vD
 rw[h6] at vF vX vY vG vD
 obtain ⟨d1,d2,a,l,d3⟩:=h.due hC hk (.inr h6)
 have hm:=h.mB
 have hg:bC9 ops (sW x pl[k].2):=by
  unfold sW
  rw[h.e5]
  cases hr:redo with
  | true =>
   rw[hr,if_pos ⟨rfl,rfl⟩] at vF
   rw[if_pos rfl];exact vF
  | false =>
   rw[hr] at d2
   rw[if_neg (by decide),d1]
   have:=(aDE _ _ _).1 d2
   exact ⟨this.1,fun i hi=>this.2 i (by show i<ops.length+1;omega)⟩
 have hd:dJ (mM x pl[k].2 t).1 (eN ops)=true:=by
  unfold mM
  rw[h.e4]
  cases hl:last with
  | true =>
   rw[if_pos rfl,h.e3]
   have h1:=hg.2 ops.length (Nat.le_refl _)
   rw[aP0 hm] at h1
   exact cCR (fun _ _=>aFI _) h1 (ht hl)
  | false =>
   rw[hl,if_pos ⟨.inr rfl,rfl⟩] at vG
   rw[if_neg (by decide)];exact vG
 have hok:aU6 x pl[k].2 t=true:=by
  unfold aU6
  rw[h.st,d1,h.e3,bZ7 hg,hd];rfl
 have e:xQ x pl[k].2 t=aQT x pl[k].2 t:=by unfold xQ;rw[if_pos hok]
 obtain ⟨s1,s2⟩:=cBQ hok
 rw[h.e3] at s2
 refine ⟨e,?_⟩
 rw[e]
 have ems:(aQT x pl[k].2 t).2.2.2.2.2.1.map (·.1)=msF (pl.take (k+1)):=by
  rw[aWK hk]
  unfold aWH
  rw[if_neg (by rw[<- aHC hk];omega),if_pos (by rw[<- aHC hk];exact h6),<- h.ms]
  show (x.2.2.2.2.2.1.take (jH x.2.2.2.2.2.1 pl[k].2).toNat++x.2.2.2.2.2.1.drop ((jH x.2.2.2.2.2.1 pl[k].2).toNat+1)).map _=_
  rw[d1,d3];rfl
 cases hf:first with
 | true =>
  rw[if_pos rfl]
  refine StI.next (x:=x) hk (by have:=hC.n1 k hk;rwa [hf] at this) h.e1 h.e2 h.e3 h.e4 h.e5 (cCG s1 (aYJ _)) ems ?_ ?_ ?_ ?_ ?_
  all_goals rw[h6]
  ·rw[if_neg (by omega)];rfl
  ·rw[if_neg (by omega)] at vX ⊢;exact vX
  ·rw[if_neg (by omega)] at vY ⊢;exact vY
  ·rw[if_neg (by omega)];rfl
  ·rw[if_neg (fun hh=>by cases hh.2)];rfl
 | false =>
  rw[if_neg (by decide)]
  refine StI.next (x:=x) hk (by have:=hC.n1 k hk;rwa [hf] at this) h.e1 h.e2 h.e3 h.e4 h.e5 s1 ems ?_ ?_ ?_ ?_ ?_
  all_goals rw[h6]
  ·rw[if_neg (by omega)];rfl
  ·rw[if_neg (by omega)] at vX ⊢;exact vX
  ·rw[if_neg (by omega)] at vY ⊢;exact vY
  ·rw[if_neg (by omega)];rfl
  ·rw[if_pos ⟨rfl,rfl⟩]
   show dJ (kH x.2.2.1 (sW x pl[k].2) (mM x pl[k].2 t).1).2.1 (jP ops)=true
   rw[h.e3];exact s2
theorem StI.s7 (hC:PlC first last redo mi K pl) (h:StI ops pl first last redo k x) (hk:k<pl.length) (h7:kd pl k=7):StI ops pl first last redo (k+1) (nX (aA2 x []) ((aA2 x []).1+1)):=by
 have vF:=h.vF;have vX:=h.vX;have vY:=h.vY;have vG:=h.vG;have vD:=h.vD
 rw[h7] at vF vX vY vG vD
 refine StI.next (x:=x) hk (hC.n1 k hk) h.e1 h.e2 h.e3 h.e4 h.e5 (cCG h.st (aYJ _)) (by rw[aMK hk (by omega) (by omega)];exact h.ms) ?_ ?_ ?_ ?_ ?_
 all_goals rw[h7]
 ·rw[if_neg (by omega)] at vF ⊢;exact vF
 ·rw[if_neg (by omega)] at vX ⊢;exact vX
 ·rw[if_neg (by omega)] at vY ⊢;exact vY
 ·rw[if_neg (by omega)] at vG ⊢;exact vG
 ·rw[if_neg (by omega)];rfl
theorem StI.s8 (hC:PlC first last redo mi K pl) (h:StI ops pl first last redo k x) (hk:k<pl.length) (h8:kd pl k=8):StI ops pl first last redo (k+1) (nX x (x.1+1)):=by
 have vF:=h.vF;have vX:=h.vX;have vY:=h.vY;have vG:=h.vG;have vD:=h.vD
 rw[h8] at vF vX vY vG vD
 refine StI.next (x:=x) hk (hC.n1 k hk) h.e1 h.e2 h.e3 h.e4 h.e5 h.st (by rw[aMK hk (by omega) (by omega)];exact h.ms) ?_ ?_ ?_ ?_ ?_
 all_goals rw[h8]
 ·rw[if_neg (by omega)] at vF ⊢;exact vF
 ·rw[if_neg (by omega)] at vX ⊢;exact vX
 ·rw[if_neg (by omega)] at vY ⊢;exact vY
 ·rw[if_neg (by omega)] at vG ⊢;exact vG
 ·rw[if_neg (by omega)] at vD ⊢;exact vD
end
def sY (p:bI) (s:Nat):bH:=p.2.1.getD s (aK aC)
def qA (p:bI) (s:Nat):dK:=p.2.2.1.getD s (aK aI)
def qB (p:bI) (s:Nat):dK:=p.2.2.2.getD s (aK aI)
def QOk (cap w:Int) (q:dK):Prop:=q.1=cap/\(q.2.length:Int)<=cap/\∀ x∈q.2,dJ x.2 w=true/\0<=x.1/\x.1<5
theorem QOk.B {cap w:Int} {q:dK} (h:QOk cap w q) (h1:1<=cap) (h5:cap<=5):lX q=true:=by
 obtain ⟨a,b,c⟩:=h
 refine uP.2 ⟨⟨by omega,by omega,by omega⟩,fun i hi=>?_⟩
 rw[aO hi]
 obtain ⟨x1,x2,x3⟩:=c _ (List.getElem_mem hi)
 exact (oT _).2 ⟨((cP _ _).1 x1).1,x2,x3⟩
theorem QOk.pop {cap w:Int} {q:dK} (h:QOk cap w q) (h1:1<=cap) (h5:cap<=5) (h0:0<q.2.length):QOk cap w (xR q).1/\(xR q).1.2.length+1=q.2.length/\dJ (xR q).2.1.2 w=true:=by
 rw[<- xZ (h.B h1 h5) h0]
 obtain ⟨a,b,c⟩:=h
 refine ⟨⟨a,by show ((q.2.drop 1).length:Int)<=cap;rw[List.length_drop];omega,fun x hx=>c x (List.mem_of_mem_drop hx)⟩,by show (q.2.drop 1).length+1=_;rw[List.length_drop];omega,?_⟩
 show dJ (q.2.getD 0 aQ3).2 w=true
 rw[aO h0]
 exact (c _ (List.getElem_mem h0)).1
theorem QOk.push {cap w:Int} {q:dK} {m:Int} {v:List Int} (h:QOk cap w q) (h1:1<=cap) (h5:cap<=5) (h0:(q.2.length:Int)<cap) (hv:dJ v w=true) (m0:0<=m) (m5:m<5):QOk cap w (yY q (m,v)).1/\(yY q (m,v)).1.2.length=q.2.length+1:=by
 rw[<- uV (q:=q) (x:=(m,v)) (h.B h1 h5) ((oT _).2 ⟨((cP _ _).1 hv).1,m0,m5⟩) (by rw[h.1];exact h0)]
 obtain ⟨a,b,c⟩:=h
 have hl:(q.2++[(m,v)]).length=q.2.length+1:=by rw[List.length_append];rfl
 refine ⟨⟨a,by show ((q.2++[(m,v)]).length:Int)<=cap;omega,fun x hx=>?_⟩,hl⟩
 rcases List.mem_append.1 hx with hx|hx
 ·exact c x hx
 ·rw[List.mem_singleton] at hx;subst hx;exact ⟨hv,m0,m5⟩
structure PSt (P:bI) (n:Nat) (ops:Nat->List dU) (redo:Nat->Bool) (caps:Nat->Int) (K:Nat->Nat):Prop where
 hn:P.2.1.length=n
 n1:1<=n
 n4:n<=4
 b1:1<=P.1.length
 b5:P.1.length<=5
 plo:PlOk P
 plc:∀ s,s<n->PlC (decide (s=0)) (decide (s+1=n)) (redo s) (P.1.length:Int) (K s) (nM P s)
 ml:∀ s,s+1<n->eN (ops s)=jP (ops (s+1))
 bx:∀ i,i<P.1.length->dJ (P.1.getD i (aK aF)).1 (jP (ops 0))=true/\dJ (P.1.getD i (aK aF)).2 (eN (ops (n - 1)))=true
 cp:∀ s,s+1<n->1<=caps s/\caps s<=5
structure PrI (P:bI) (n:Nat) (ops:Nat->List dU) (redo:Nat->Bool) (caps:Nat->Int) (p:bI) (L:List aGK):Prop where
 tr:TrI P p L
 eb:p.1=P.1
 la:p.2.2.1.length+1=n
 lb:p.2.2.2.length+1=n
 st:∀ s,s<n->StI (ops s) (nM P s) (decide (s=0)) (decide (s+1=n)) (redo s) (rC p s).toNat (sY p s)
 qa:∀ s,s+1<n->QOk (caps s) (eN (ops s)) (qA p s)/\(qA p s).2.length+(rV 1 (nN L ((s+1:Nat):Int))).length=(rV 3 (nN L (s:Int))).length
 qb:∀ s,s+1<n->QOk (caps s) (eN (ops s)) (qB p s)/\(qB p s).2.length+(rV 4 (nN L (s:Int))).length=(rV 7 (nN L ((s+1:Nat):Int))).length
section
variable {P p:bI} {n:Nat} {ops:Nat->List dU} {redo:Nat->Bool} {caps:Nat->Int} {K:Nat->Nat} {L:List aGK}
theorem PrI.ok (hS:PSt P n ops redo caps K) (h:PrI P n ops redo caps p L):vJ p=true:=by
 have hl:p.2.1.length=n:=by rw[h.tr.ln,hS.hn]
 have hb1:=hS.b1
 have hb5:=hS.b5
 have hn1:=hS.n1
 have hn4:=hS.n4
 refine uP.2 ⟨⟨by omega,by omega,by rw[hl];exact h.la,by rw[hl];exact h.lb,by rw[h.eb];omega,by rw[h.eb];omega⟩,fun i hi=>?_,fun i hi=>?_,fun i hi=>?_⟩
 ·rw[h.eb] at hi ⊢
  obtain ⟨a,b⟩:=hS.bx i hi
  exact ⟨((cP _ _).1 a).1,((cP _ _).1 b).1⟩
 ·have hs:i+1<n:=by have:=h.la;omega
  obtain ⟨c1,c2⟩:=hS.cp i hs
  exact ⟨((h.qa i hs).1).B c1 c2,((h.qb i hs).1).B c1 c2⟩
 ·have hs:i<n:=by omega
  have hi:=h.st i hs
  refine ⟨hi.st,?_,fun k hk=>?_⟩
  ·rw[show (p.2.1.getD i (aK aC)).2.2.2.1=_ from hi.e4,hl]
  ·have e2:(p.2.1.getD i (aK aC)).2.1=nM P i:=hi.e2
   rw[e2] at hk ⊢
   have:=((hS.plc i hs).i1 k hk).1
   rw[aO hk,h.eb]
   exact this
theorem TrI.on (h:TrI P p L) {s:Int} (he:gS p s=true):∃ σ:Nat,s=(σ:Int)/\σ<P.2.1.length/\∃ hc:(rC p σ).toNat<(nM P σ).length,aP p (σ:Int)=(nM P σ)[(rC p σ).toNat] /\
  (∀ t,sY (fH p (σ:Int)) t=if σ=t then nX (cZ p σ) ((cZ p σ).1+1) else sY p t)/\(fH p (σ:Int)).1=p.1/\(fH p (σ:Int)).2.2.1=iG p σ/\(fH p (σ:Int)).2.2.2=iH p σ/\oD p (σ:Int)=sY p σ /\
  (∀ (k:Int) (t:Nat),(rV k (nN (L++[((σ:Int),aP p (σ:Int),true)]) (t:Int))).length=(rV k (nN L (t:Int))).length+if (aP p (σ:Int)).1=k/\σ=t then 1 else 0):=by
 obtain ⟨f1,f2,f3⟩:=wT he
 have hk:=aCR he
 obtain ⟨σ,rfl⟩:∃ σ:Nat,s=(σ:Int):=⟨s.toNat,by omega⟩
 have hσ:σ<P.2.1.length:=by rw[<- h.ln];omega
 have hσp:σ<p.2.1.length:=by rw[h.ln];exact hσ
 have hn:∃ hc:(rC p σ).toNat<(nM P σ).length,aP p (σ:Int)=(nM P σ)[(rC p σ).toNat]:=by
  have h0:=hk.2.2.2.2
  unfold aP at h0 ⊢
  split at h0
  ·rename_i hh
   rw[if_pos hh]
   obtain ⟨_,_,g1,g2⟩:=hh
   rw[Int.toNat_natCast] at g1 g2 ⊢
   have g2':rC p σ<((nM p σ).length:Int):=g2
   have g1':0<=rC p σ:=g1
   rw[h.pl] at g2'
   have hc:(rC p σ).toNat<(nM P σ).length:=by omega
   refine ⟨hc,?_⟩
   show (nM p σ).getD (rC p σ).toNat (aK aQ)=_
   rw[h.pl,aO hc]
  ·exact absurd rfl h0
 obtain ⟨hc,hi⟩:=hn
 have ep:fH p (σ:Int)=(p.1,p.2.1.set σ (nX (cZ p σ) ((cZ p σ).1+1)),iG p σ,iH p σ):=by
  unfold fH;rw[if_pos he,Int.toNat_natCast]
 refine ⟨σ,rfl,hσ,hc,hi,fun t=>?_,by rw[ep],by rw[ep],by rw[ep],by unfold oD sY;rw[Int.toNat_natCast],fun k t=>?_⟩
 ·rw[ep]
  unfold sY
  dsimp only
  rw[lG]
  by_cases ht:σ=t
  ·subst ht;rw[if_pos ⟨rfl,hσp⟩,if_pos rfl]
  ·rw[if_neg (fun hh=>ht hh.1),if_neg ht]
 ·rw[aH4,bA1,zD,List.length_append]
  by_cases ht:σ=t
  ·rw[if_pos (show (σ:Int)=(t:Int) by omega),aN1]
   by_cases hq:(aP p (σ:Int)).1=k
   ·rw[if_pos hq,if_pos ⟨hq,ht⟩];rfl
   ·rw[if_neg hq,if_neg (fun hh=>hq hh.1)];rfl
  ·rw[if_neg (show ¬ (σ:Int)=(t:Int) by omega),if_neg (fun hh=>ht hh.2)];rfl
theorem PrI.step (hS:PSt P n ops redo caps K) (h:PrI P n ops redo caps p L) (s:Int):PrI P n ops redo caps (fH p s) (L++[(s,aP p s,gS p s)]):=by
 have htr:=h.tr.step hS.plo s
 cases he:gS p s with
 | false =>
  rw[he] at htr
  have ep:fH p s=p:=by unfold fH;rw[if_neg (by rw[he];simp)]
  have ed:∀ t,nN (L++[(s,aP p s,false)]) t=nN L t:=fun t=>by rw[aH4,bEM,List.append_nil]
  rw[ep] at htr ⊢
  exact ⟨htr,h.eb,h.la,h.lb,h.st,fun t ht=>by rw[ed,ed];exact h.qa t ht,fun t ht=>by rw[ed,ed];exact h.qb t ht⟩
 | true =>
  rw[he] at htr
  obtain ⟨σ,rfl,hσ,hc,hi,estN,eB,eA,eR,eSt,mo⟩:=h.tr.on he
  obtain ⟨f1,f2,f3⟩:=wT he
  have hk:=aCR he
  rw[hS.hn] at hσ
  have hln:p.2.1.length=n:=by rw[h.tr.ln,hS.hn]
  have hC:=hS.plc σ hσ
  have hst:=h.st σ hσ
  have hin:=hC.i1 _ hc
  have hmi:=hin.1
  have hb5:=hS.b5
  have e6:kd (nM P σ) (rC p σ).toNat=(aP p (σ:Int)).1:=by rw[aHC hc,hi]
  have hpc:(rC (fH p (σ:Int)) σ).toNat=(rC p σ).toNat+1:=by
   have:rC (fH p (σ:Int)) σ=rC p σ+1:=by
    show (sY (fH p (σ:Int)) σ).1=_
    rw[estN,if_pos rfl]
    show (cZ p (σ:Int)).1+1=_
    rw[aT5,eSt];rfl
   rw[this]
   have:=(h.tr.pc σ (by rw[hS.hn];exact hσ)).1
   omega
  have hpo:∀ t,¬ σ=t->rC (fH p (σ:Int)) t=rC p t:=fun t ht=>by
   show (sY (fH p (σ:Int)) t).1=_
   rw[estN,if_neg ht];rfl
  have lA:(iG p (σ:Int)).length=p.2.2.1.length:=by unfold iG;split <;> (try split) <;> simp only[List.length_set]
  have lB:(iH p (σ:Int)).length=p.2.2.2.length:=by unfold iH;split <;> (try split) <;> simp only[List.length_set]
  have key:StI (ops σ) (nM P σ) (decide (σ=0)) (decide (σ+1=n)) (redo σ) ((rC p σ).toNat+1) (nX (cZ p σ) ((cZ p σ).1+1)) /\
    (∀ t,t+1<n->QOk (caps t) (eN (ops t)) ((iG p σ).getD t (aK aI))/\((iG p σ).getD t (aK aI)).2.length+(if (aP p (σ:Int)).1=1/\σ=t+1 then 1 else 0)=(qA p t).2.length+(if (aP p (σ:Int)).1=3/\σ=t then 1 else 0)) /\
    (∀ t,t+1<n->QOk (caps t) (eN (ops t)) ((iH p σ).getD t (aK aI))/\((iH p σ).getD t (aK aI)).2.length+(if (aP p (σ:Int)).1=4/\σ=t then 1 else 0)=(qB p t).2.length+(if (aP p (σ:Int)).1=7/\σ=t+1 then 1 else 0)):=by
   have qA0:∀ t,t+1<n->∀ a b:Prop,[Decidable a]->[Decidable b]->¬ a->¬ b->QOk (caps t) (eN (ops t)) (p.2.2.1.getD t (aK aI))/\(p.2.2.1.getD t (aK aI)).2.length+(if a then 1 else 0)=(qA p t).2.length+(if b then 1 else 0):=fun t ht a b _ _ ha hb=>by
    rw[if_neg ha,if_neg hb];exact ⟨(h.qa t ht).1,rfl⟩
   have qB0:∀ t,t+1<n->∀ a b:Prop,[Decidable a]->[Decidable b]->¬ a->¬ b->QOk (caps t) (eN (ops t)) (p.2.2.2.getD t (aK aI))/\(p.2.2.2.getD t (aK aI)).2.length+(if a then 1 else 0)=(qB p t).2.length+(if b then 1 else 0):=fun t ht a b _ _ ha hb=>by
    rw[if_neg ha,if_neg hb];exact ⟨(h.qb t ht).1,rfl⟩
   have hkind:(aP p (σ:Int)).1=1\/(aP p (σ:Int)).1=2\/(aP p (σ:Int)).1=3\/(aP p (σ:Int)).1=4\/(aP p (σ:Int)).1=5\/(aP p (σ:Int)).1=6\/(aP p (σ:Int)).1=7\/(aP p (σ:Int)).1=8:=by
    have:=hin.2.1;rw[<- hi] at this;omega
   have htt:decide (σ+1=n)=true->dJ (p.1.getD (aP p (σ:Int)).2.toNat (aK aF)).2 (eN (ops σ))=true:=fun hl=>by
    rw[decide_eq_true_eq] at hl
    rw[h.eb]
    rw[<- hi] at hmi
    have:=(hS.bx (aP p (σ:Int)).2.toNat (by omega)).2
    rwa [show n - 1=σ by omega] at this
   rcases hkind with k|k|k|k|k|k|k|k
   ·
    have hs0:=hk.1 k
    obtain ⟨τ,rfl⟩:∃ τ,σ=τ+1:=⟨σ - 1,by omega⟩
    have et:(((τ+1:Nat):Int) - 1).toNat=τ:=by omega
    have he':=he
    rw[bJJ f1 f2 f3 k,Bool.and_eq_true,decide_eq_true_eq,decide_eq_true_eq,et] at he'
    obtain ⟨c1,c2⟩:=hS.cp τ hσ
    obtain ⟨p1,p2,p3⟩:=(h.qa τ hσ).1.pop c1 c2 he'.2
    have e1:cZ p ((τ+1:Nat):Int)=aY1 (sY p (τ+1)) (xR (qA p τ)).2.1.2:=by unfold cZ;rw[if_pos k,eSt,et];rfl
    have e2:iG p ((τ+1:Nat):Int)=p.2.2.1.set τ (xR (qA p τ)).1:=by unfold iG;rw[if_pos k,et];rfl
    have e3:iH p ((τ+1:Nat):Int)=p.2.2.2:=by unfold iH;rw[if_neg (by omega),if_neg (by omega)]
    rw[e1,e2,e3]
    refine ⟨hst.s1 hC hc (by rw[e6];exact k) (by rw[<- hS.ml τ hσ];exact p3),fun t ht=>?_,fun t ht=>qB0 t ht _ _ (by omega) (by omega)⟩
    rw[lG]
    by_cases htt:τ=t
    ·subst htt
     rw[if_pos ⟨rfl,by have:=h.la;omega⟩,if_pos ⟨k,rfl⟩,if_neg (by omega)]
     exact ⟨p1,p2⟩
    ·rw[if_neg (fun hh=>htt hh.1)]
     exact qA0 t ht _ _ (by omega) (by omega)
   ·
    have e1:cZ p (σ:Int)=aCB (sY p σ) (nM P σ)[(rC p σ).toNat].2 (if (σ:Int)=0 then (p.1.getD (aP p (σ:Int)).2.toNat (aK aF)).1 else (sY p σ).2.2.2.2.2.2.2.1) (p.1.getD (aP p (σ:Int)).2.toNat (aK aF)).2:=by
     unfold cZ;rw[if_neg (by omega),if_pos k,eSt,<- hi]
    have e2:iG p (σ:Int)=p.2.2.1:=by unfold iG;rw[if_neg (by omega),if_neg (by omega)]
    have e3:iH p (σ:Int)=p.2.2.2:=by unfold iH;rw[if_neg (by omega),if_neg (by omega)]
    rw[e1,e2,e3]
    refine ⟨(hst.s2 hC hc (by rw[e6];exact k) ?_ htt).1,fun t ht=>qA0 t ht _ _ (by omega) (by omega),fun t ht=>qB0 t ht _ _ (by omega) (by omega)⟩
    by_cases h0:σ=0
    ·subst h0
     rw[if_pos (show ((0:Nat):Int)=0 from rfl),h.eb]
     rw[<- hi] at hmi
     exact (hS.bx (aP p ((0:Nat):Int)).2.toNat (by omega)).1
    ·rw[if_neg (by omega)]
     have vX:=hst.vX
     rw[if_pos ⟨by rw[e6];exact k,decide_eq_false h0⟩] at vX
     exact vX
   ·
    have hs1:σ+1<n:=by have:=hk.2.1 k;omega
    have he':=he
    rw[bRD f1 f2 f3 k,Bool.and_eq_true,decide_eq_true_eq,Int.toNat_natCast] at he'
    obtain ⟨c1,c2⟩:=hS.cp σ hs1
    have hroom:((qA p σ).2.length:Int)<caps σ:=by
     have:=he'.2
     unfold aHE at this
     rw[decide_eq_true_eq] at this
     have e:=((h.qa σ hs1).1).1
     rw[<- e];exact this
    have vY:=hst.vY
    rw[if_pos (by rw[e6];exact k)] at vY
    rw[<- hi] at hmi
    obtain ⟨p1,p2⟩:=(h.qa σ hs1).1.push c1 c2 hroom vY hmi.1 (show (aP p (σ:Int)).2<5 by omega)
    have e1:cZ p (σ:Int)=bB2 (sY p σ) []:=by unfold cZ;rw[if_neg (by omega),if_neg (by omega),if_pos k,eSt]
    have e2:iG p (σ:Int)=p.2.2.1.set σ (yY (qA p σ) ((aP p (σ:Int)).2,(sY p σ).2.2.2.2.2.2.2.2.1)).1:=by unfold iG;rw[if_neg (by omega),if_pos k,Int.toNat_natCast,eSt];rfl
    have e3:iH p (σ:Int)=p.2.2.2:=by unfold iH;rw[if_neg (by omega),if_neg (by omega)]
    rw[e1,e2,e3]
    refine ⟨hst.s3 hC hc (by rw[e6];exact k),fun t ht=>?_,fun t ht=>qB0 t ht _ _ (by omega) (by omega)⟩
    rw[lG]
    by_cases htt:σ=t
    ·subst htt
     rw[if_pos ⟨rfl,by have:=h.la;omega⟩,if_neg (by omega),if_pos ⟨k,rfl⟩]
     exact ⟨p1,p2⟩
    ·rw[if_neg (fun hh=>htt hh.1)]
     exact qA0 t ht _ _ (by omega) (by omega)
   ·
    have hs1:σ+1<n:=by have:=hk.2.2.1 k;omega
    have he':=he
    rw[bLC f1 f2 f3 k,Bool.and_eq_true,decide_eq_true_eq,decide_eq_true_eq,Int.toNat_natCast] at he'
    obtain ⟨c1,c2⟩:=hS.cp σ hs1
    obtain ⟨p1,p2,p3⟩:=(h.qb σ hs1).1.pop c1 c2 he'.2
    have e1:cZ p (σ:Int)=bB1 (sY p σ) (xR (qB p σ)).2.1.2:=by unfold cZ;rw[if_neg (by omega),if_neg (by omega),if_neg (by omega),if_pos k,eSt,Int.toNat_natCast];rfl
    have e2:iG p (σ:Int)=p.2.2.1:=by unfold iG;rw[if_neg (by omega),if_neg (by omega)]
    have e3:iH p (σ:Int)=p.2.2.2.set σ (xR (qB p σ)).1:=by unfold iH;rw[if_pos k,Int.toNat_natCast];rfl
    rw[e1,e2,e3]
    refine ⟨hst.s4 hC hc (by rw[e6];exact k) p3,fun t ht=>qA0 t ht _ _ (by omega) (by omega),fun t ht=>?_⟩
    rw[lG]
    by_cases htt:σ=t
    ·subst htt
     rw[if_pos ⟨rfl,by have:=h.lb;omega⟩,if_pos ⟨k,rfl⟩,if_neg (by omega)]
     exact ⟨p1,p2⟩
    ·rw[if_neg (fun hh=>htt hh.1)]
     exact qB0 t ht _ _ (by omega) (by omega)
   ·
    have e1:cZ p (σ:Int)=xM (sY p σ) (nM P σ)[(rC p σ).toNat].2:=by unfold cZ;rw[if_neg (by omega),if_neg (by omega),if_neg (by omega),if_neg (by omega),if_pos k,eSt,<- hi]
    have e2:iG p (σ:Int)=p.2.2.1:=by unfold iG;rw[if_neg (by omega),if_neg (by omega)]
    have e3:iH p (σ:Int)=p.2.2.2:=by unfold iH;rw[if_neg (by omega),if_neg (by omega)]
    rw[e1,e2,e3]
    exact ⟨hst.s5 hC hc (by rw[e6];exact k),fun t ht=>qA0 t ht _ _ (by omega) (by omega),fun t ht=>qB0 t ht _ _ (by omega) (by omega)⟩
   ·
    have e1:cZ p (σ:Int)=if decide (σ=0)=true then aA2 (xQ (sY p σ) (nM P σ)[(rC p σ).toNat].2 (p.1.getD (aP p (σ:Int)).2.toNat (aK aF)).2) [] else xQ (sY p σ) (nM P σ)[(rC p σ).toNat].2 (p.1.getD (aP p (σ:Int)).2.toNat (aK aF)).2:=by
     unfold cZ
     rw[if_neg (by omega),if_neg (by omega),if_neg (by omega),if_neg (by omega),if_neg (by omega),if_pos k,eSt,<- hi]
     by_cases h0:σ=0
     ·rw[if_pos (by omega),if_pos (decide_eq_true h0)]
     ·rw[if_neg (by omega),if_neg (by rw[decide_eq_false h0];decide)]
    have e2:iG p (σ:Int)=p.2.2.1:=by unfold iG;rw[if_neg (by omega),if_neg (by omega)]
    have e3:iH p (σ:Int)=p.2.2.2:=by unfold iH;rw[if_neg (by omega),if_neg (by omega)]
    rw[e1,e2,e3]
    exact ⟨(hst.s6 hC hc (by rw[e6];exact k) htt).2,fun t ht=>qA0 t ht _ _ (by omega) (by omega),fun t ht=>qB0 t ht _ _ (by omega) (by omega)⟩
   ·
    have hs0:=hk.2.2.2.1 k
    obtain ⟨τ,rfl⟩:∃ τ,σ=τ+1:=⟨σ - 1,by omega⟩
    have et:(((τ+1:Nat):Int) - 1).toNat=τ:=by omega
    have he':=he
    rw[bRG f1 f2 f3 k,Bool.and_eq_true,decide_eq_true_eq,et] at he'
    obtain ⟨c1,c2⟩:=hS.cp τ hσ
    have hroom:((qB p τ).2.length:Int)<caps τ:=by
     have:=he'.2
     unfold aHE at this
     rw[decide_eq_true_eq] at this
     have e:=((h.qb τ hσ).1).1
     rw[<- e];exact this
    have vD:=hst.vD
    rw[if_pos (by rw[e6];exact k),<- hS.ml τ hσ] at vD
    rw[<- hi] at hmi
    obtain ⟨p1,p2⟩:=(h.qb τ hσ).1.push c1 c2 hroom vD hmi.1 (show (aP p ((τ+1:Nat):Int)).2<5 by omega)
    have e1:cZ p ((τ+1:Nat):Int)=aA2 (sY p (τ+1)) []:=by unfold cZ;rw[if_neg (by omega),if_neg (by omega),if_neg (by omega),if_neg (by omega),if_neg (by omega),if_neg (by omega),if_pos k,eSt]
    have e2:iG p ((τ+1:Nat):Int)=p.2.2.1:=by unfold iG;rw[if_neg (by omega),if_neg (by omega)]
    have e3:iH p ((τ+1:Nat):Int)=p.2.2.2.set τ (yY (qB p τ) ((aP p ((τ+1:Nat):Int)).2,(sY p (τ+1)).2.2.2.2.2.2.2.2.2.2.1)).1:=by unfold iH;rw[if_neg (by omega),if_pos k,et,eSt];rfl
    rw[e1,e2,e3]
    refine ⟨hst.s7 hC hc (by rw[e6];exact k),fun t ht=>qA0 t ht _ _ (by omega) (by omega),fun t ht=>?_⟩
    rw[lG]
    by_cases htt:τ=t
    ·subst htt
     rw[if_pos ⟨rfl,by have:=h.lb;omega⟩,if_neg (by omega),if_pos ⟨k,rfl⟩]
     exact ⟨p1,p2⟩
    ·rw[if_neg (fun hh=>htt hh.1)]
     exact qB0 t ht _ _ (by omega) (by omega)
   ·
    have e1:cZ p (σ:Int)=sY p σ:=by unfold cZ;rw[if_neg (by omega),if_neg (by omega),if_neg (by omega),if_neg (by omega),if_neg (by omega),if_neg (by omega),if_neg (by omega),eSt]
    have e2:iG p (σ:Int)=p.2.2.1:=by unfold iG;rw[if_neg (by omega),if_neg (by omega)]
    have e3:iH p (σ:Int)=p.2.2.2:=by unfold iH;rw[if_neg (by omega),if_neg (by omega)]
    rw[e1,e2,e3]
    exact ⟨hst.s8 hC hc (by rw[e6];exact k),fun t ht=>qA0 t ht _ _ (by omega) (by omega),fun t ht=>qB0 t ht _ _ (by omega) (by omega)⟩
  obtain ⟨k1,k2,k3⟩:=key
  refine ⟨htr,by rw[eB];exact h.eb,by rw[eA,lA];exact h.la,by rw[eR,lB];exact h.lb,fun t ht=>?_,fun t ht=>?_,fun t ht=>?_⟩
  ·rw[estN]
   by_cases htt:σ=t
   ·subst htt;rw[if_pos rfl,hpc];exact k1
   ·rw[if_neg htt,hpo t htt];exact h.st t ht
  ·obtain ⟨a1,a2⟩:=k2 t ht
   have a3:=(h.qa t ht).2
   refine ⟨by unfold qA;rw[eA];exact a1,?_⟩
   rw[mo,mo]
   unfold qA
   rw[eA]
   omega
  ·obtain ⟨a1,a2⟩:=k3 t ht
   have a3:=(h.qb t ht).2
   refine ⟨by unfold qB;rw[eR];exact a1,?_⟩
   rw[mo,mo]
   unfold qB
   rw[eR]
   omega
theorem PrI.run (hS:PSt P n ops redo caps K):(l:List Int)->{p:bI}->{L:List aGK}->PrI P n ops redo caps p L->PrI P n ops redo caps (nY p l) (L++aPT p l)
 | [],p,L,h=>by rw[show aPT p []=[] from rfl,List.append_nil];exact h
 | s :: l,p,L,h=>by
  have h1:=PrI.run hS l (h.step hS s)
  rw[List.append_assoc] at h1
  exact h1
end
theorem bJ4 (n:Int):(nL n).length=n.toNat:=by unfold nL;simp
theorem bEY {n:Int} {i:Nat} {m:Int} (h:(nL n)[i]?=some m):m=(i:Int):=by
 unfold nL at h
 rw[List.getElem?_map] at h
 obtain ⟨j,hj,e⟩:=Option.map_eq_some_iff.1 h
 have:=List.getElem?_eq_some_iff.1 hj
 obtain ⟨h1,h2⟩:=this
 rw[List.getElem_range] at h2
 omega
theorem bWX {n m:Int} (h:0<=m/\m<n):m∈nL n:=by
 unfold nL
 exact List.mem_map.2 ⟨m.toNat,List.mem_range.2 (by omega),by omega⟩
theorem aOM {κ m mi:Int} {pl:List eZ} {k:Nat} (he:rV κ pl=nL mi) (hk:k<pl.length) (hi:pl[k]=(κ,m)):((rV κ (pl.take k)).length:Int)=m:=by
 have e1:pl=(pl.take k++[pl[k]])++pl.drop (k+1):=by rw[mE hk,List.take_append_drop]
 have h1:(rV κ pl)[(rV κ (pl.take k)).length]?=some m:=by
  conv=>lhs;lhs;rw[e1]
  rw[zD,zD,hi,aN1,if_pos rfl,List.append_assoc,List.getElem?_append_right (Nat.le_refl _),Nat.sub_self];rfl
 rw[he] at h1
 exact (bEY h1).symm
theorem cBZ {κ m mi:Int} {pl:List eZ} {k:Nat} (he:rV κ pl=nL mi) (hm:(κ,m)∈pl.take k):m<((rV κ (pl.take k)).length:Int):=by
 have h1:=bFW.2 hm
 obtain ⟨i,hi,e⟩:=List.mem_iff_getElem.1 h1
 have h2:(rV κ pl)[i]?=some m:=by
  conv=>lhs;lhs;rw[<- List.take_append_drop k pl]
  rw[zD,List.getElem?_append_left hi,List.getElem?_eq_getElem hi,e]
 rw[he] at h2
 have:=bEY h2
 omega
structure PTm (P:bI) (n:Nat) (tm:Nat->eZ->Int):Prop where
 inc:∀ s,s<n->∀ a b (hb:b<(nM P s).length) (hab:a<b),tm s ((nM P s)[a]'(Nat.lt_trans hab hb))<tm s (nM P s)[b]
 x1:∀ s,s+1<n->∀ m:Int,0<=m->m<(P.1.length:Int)->tm s (3,m)<tm (s+1) (1,m)
 x3:∀ s,s+1<n->∀ m:Int,0<=m->m+1<(P.1.length:Int)->tm (s+1) (1,m)<tm s (3,m+1)
 x4:∀ s,s+1<n->∀ m:Int,0<=m->m<(P.1.length:Int)->tm (s+1) (7,m)<tm s (4,m)
 x7:∀ s,s+1<n->∀ m:Int,0<=m->m+1<(P.1.length:Int)->tm s (4,m)<tm (s+1) (7,m+1)
 x8:∀ s t,s<n->t<n->∀ i:eZ,1<=i.1/\i.1<8->0<=i.2/\i.2<(P.1.length:Int)->∀ m,tm s i<tm t (8,m)
 o1:∀ s,s+1<n->rV 1 (nM P (s+1))=nL (P.1.length:Int)
 o3:∀ s,s+1<n->rV 3 (nM P s)=nL (P.1.length:Int)
 o4:∀ s,s+1<n->rV 4 (nM P s)=nL (P.1.length:Int)
 o7:∀ s,s+1<n->rV 7 (nM P (s+1))=nL (P.1.length:Int)
theorem bZU (U:Nat->Prop) (f:Nat->Int):(N:Nat)->(∃ s,s<N/\U s)->∃ s,s<N/\U s/\∀ t,t<N->U t->f s<=f t
 | 0,⟨s,h,_⟩=>absurd h (Nat.not_lt_zero _)
 | N+1,h=>by
  by_cases hN:∃ s,s<N/\U s
  ·obtain ⟨s,h1,h2,h3⟩:=bZU U f N hN
   by_cases hu:U N/\f N<f s
   ·refine ⟨N,by omega,hu.1,fun t ht hU=>?_⟩
    rcases Nat.lt_or_eq_of_le (Nat.le_of_lt_succ ht) with h|rfl
    ·have:=h3 t h hU;omega
    ·exact Int.le_refl _
   ·refine ⟨s,by omega,h2,fun t ht hU=>?_⟩
    rcases Nat.lt_or_eq_of_le (Nat.le_of_lt_succ ht) with h|rfl
    ·exact h3 t h hU
    ·exact Int.not_lt.1 fun hh=>hu ⟨hU,hh⟩
  ·obtain ⟨s,h1,h2⟩:=h
   have:s=N:=by
    rcases Nat.lt_or_eq_of_le (Nat.le_of_lt_succ h1) with h|h
    ·exact absurd ⟨s,h,h2⟩ hN
    ·exact h
   subst this
   refine ⟨s,by omega,h2,fun t ht hU=>?_⟩
   rcases Nat.lt_or_eq_of_le (Nat.le_of_lt_succ ht) with h|rfl
   ·exact absurd ⟨t,h,hU⟩ hN
   ·exact Int.le_refl _
section
variable {P p:bI} {n:Nat} {ops:Nat->List dU} {redo:Nat->Bool} {caps:Nat->Int} {K:Nat->Nat} {L:List aGK} {tm:Nat->eZ->Int}
theorem aVQ (hS:PSt P n ops redo caps K) (hT:PTm P n tm) (h:PrI P n ops redo caps p L) {s:Nat} (hs:s<n) {κ m:Int} (he:rV κ (nM P s)=nL (P.1.length:Int)) (hm:0<=m/\m<(P.1.length:Int)) :
  m<((rV κ (nN L (s:Int))).length:Int)\/∃ hc:(rC p s).toNat<(nM P s).length,tm s (nM P s)[(rC p s).toNat]<=tm s (κ,m):=by
 obtain ⟨c1,c2,c3⟩:=h.tr.pc s (by rw[hS.hn];exact hs)
 have h1:(κ,m)∈nM P s:=bFW.1 (by rw[he];exact bWX hm)
 obtain ⟨j,hj,e⟩:=List.mem_iff_getElem.1 h1
 by_cases hjk:j<(rC p s).toNat
 ·refine .inl ?_
  rw[c3]
  refine cBZ he ?_
  rw[<- e]
  exact List.mem_take_iff_getElem.2 ⟨j,by omega,rfl⟩
 ·refine .inr ⟨by omega,?_⟩
  rcases Nat.lt_or_eq_of_le (Nat.le_of_not_lt hjk) with h2|h2
  ·have:=hT.inc s hs _ _ hj h2
   rw[e] at this;omega
  ·have:(nM P s)[(rC p s).toNat]'(by omega)=(κ,m):=by rw[<- e];congr 1
   rw[this];exact Int.le_refl _
theorem prog (hS:PSt P n ops redo caps K) (hT:PTm P n tm) (h:PrI P n ops redo caps p L) (hl:0<mL p):∃ s:Nat,s<n/\gS p (s:Int)=true:=by
 have hB:=h.ok hS
 have hln:p.2.1.length=n:=by rw[h.tr.ln,hS.hn]
 have hU:∃ s,s<n/\(rC p s).toNat<(nM P s).length:=by
  refine Classical.byContradiction fun hno=>?_
  have hz:(p.2.1.map wV).sum<=(p.2.1.map fun _=>0).sum:=aMY wV (fun _=>0) p.2.1 fun x hx=>by
   obtain ⟨t,ht,rfl⟩:=List.mem_iff_getElem.1 hx
   have h1:¬ (rC p t).toNat<(nM P t).length:=fun hh=>hno ⟨t,by omega,hh⟩
   have e1:wV p.2.1[t]=(nM P t).length - (rC p t).toNat:=by
    rw[<- h.tr.pl t];unfold wV nM rC;rw[aO ht]
   omega
  have hz2:(p.2.1.map fun _=>0).sum=0:=aQX (fun _=>0) p.2.1 fun _=>rfl
  unfold mL at hl
  omega
 obtain ⟨s,hs,hc,hmin⟩:=bZU (fun s=>(rC p s).toNat<(nM P s).length) (fun s=>tm s ((nM P s).getD (rC p s).toNat (0,0))) n hU
 rw[aO hc] at hmin
 have hmin':∀ t,t<n->∀ ht:(rC p t).toNat<(nM P t).length,tm s (nM P s)[(rC p s).toNat]<=tm t (nM P t)[(rC p t).toNat]:=fun t h1 h2=>by
  have:=hmin t h1 h2
  rwa [aO h2] at this
 obtain ⟨c1,c2,c3⟩:=h.tr.pc s (by rw[hS.hn];exact hs)
 have hn:aP p (s:Int)=(nM P s)[(rC p s).toNat]:=by
  rw[<- bAK (p:=p) (s:=(s:Int)) (by omega) (by omega) (by rw[Int.toNat_natCast];exact c1) (by rw[Int.toNat_natCast];show rC p s<((nM p s).length:Int);rw[h.tr.pl];omega),Int.toNat_natCast]
  show (nM p s).getD (rC p s).toNat (aK aQ)=_
  rw[h.tr.pl,aO hc]
 have hin:=(hS.plc s hs).i1 _ hc
 have hm:=hin.1
 have hkd:=hin.2.1
 refine ⟨s,hs,?_⟩
 have f2:(0:Int)<=(s:Int):=by omega
 have f3:(s:Int)<(p.2.1.length:Int):=by omega
 rw[<- hn] at hmin' hm hkd
 have hpair:∀ κ:Int,(aP p (s:Int)).1=κ->(nM P s)[(rC p s).toNat]=(κ,(aP p (s:Int)).2):=fun κ hk=>by rw[<- hn];exact Prod.ext hk rfl
 have hpair2:∀ κ:Int,(aP p (s:Int)).1=κ->aP p (s:Int)=(κ,(aP p (s:Int)).2):=fun κ hk=>Prod.ext hk rfl
 have hkind:(aP p (s:Int)).1=1\/(aP p (s:Int)).1=2\/(aP p (s:Int)).1=3\/(aP p (s:Int)).1=4\/(aP p (s:Int)).1=5\/(aP p (s:Int)).1=6\/(aP p (s:Int)).1=7\/(aP p (s:Int)).1=8:=by omega
 rcases hkind with k|k|k|k|k|k|k|k
 ·have h0:=hin.2.2.1 (by rw[<- hn];exact k)
  rw[decide_eq_false_iff_not] at h0
  obtain ⟨τ,rfl⟩:∃ τ,s=τ+1:=⟨s - 1,by omega⟩
  have hq:=(h.qa τ hs).2
  have hcnt:=aOM (hT.o1 τ hs) hc (hpair 1 k)
  rw[<- c3] at hcnt
  rw[bJJ hB f2 f3 k,Bool.and_eq_true,decide_eq_true_eq,decide_eq_true_eq,show (((τ+1:Nat):Int) - 1).toNat=τ by omega]
  refine ⟨by omega,?_⟩
  show 0<(qA p τ).2.length
  rcases aVQ hS hT h (s:=τ) (by omega) (hT.o3 τ hs) hm with hd|⟨hc',hd⟩
  ·omega
  ·have a1:=hmin' τ (by omega) hc'
   have a2:=hT.x1 τ hs _ hm.1 hm.2
   rw[hpair2 1 k] at a1
   omega
 ·exact (bEN hB f2 f3 (.inl k)).symm
 ·have h0:=hin.2.2.2.1 (by rw[<- hn];exact k)
  rw[decide_eq_false_iff_not] at h0
  have hs1:s+1<n:=by omega
  have hq:=(h.qa s hs1).2
  have hcp:=hS.cp s hs1
  have hcnt:=aOM (hT.o3 s hs1) hc (hpair 3 k)
  rw[<- c3] at hcnt
  rw[bRD hB f2 f3 k,Bool.and_eq_true,decide_eq_true_eq,Int.toNat_natCast]
  refine ⟨by omega,?_⟩
  unfold aHE
  rw[decide_eq_true_eq]
  show ((qA p s).2.length:Int)<(qA p s).1
  rw[((h.qa s hs1).1).1]
  by_cases hz:(aP p (s:Int)).2=0
  ·omega
  ·rcases aVQ hS hT h (s:=s+1) hs1 (κ:=1) (m:=(aP p (s:Int)).2 - 1) (hT.o1 s hs1) ⟨by omega,by omega⟩ with hd|⟨hc',hd⟩
   ·omega
   ·have a1:=hmin' (s+1) hs1 hc'
    have a2:=hT.x3 s hs1 ((aP p (s:Int)).2 - 1) (by omega) (by omega)
    rw[show (aP p (s:Int)).2 - 1+1=(aP p (s:Int)).2 by omega,<- hpair2 3 k] at a2
    omega
 ·have h0:=hin.2.2.2.2.1 (by rw[<- hn];exact k)
  rw[decide_eq_false_iff_not] at h0
  have hs1:s+1<n:=by omega
  have hq:=(h.qb s hs1).2
  have hcnt:=aOM (hT.o4 s hs1) hc (hpair 4 k)
  rw[<- c3] at hcnt
  rw[bLC hB f2 f3 k,Bool.and_eq_true,decide_eq_true_eq,decide_eq_true_eq,Int.toNat_natCast]
  refine ⟨by omega,?_⟩
  show 0<(qB p s).2.length
  rcases aVQ hS hT h (s:=s+1) hs1 (hT.o7 s hs1) hm with hd|⟨hc',hd⟩
  ·omega
  ·have a1:=hmin' (s+1) hs1 hc'
   have a2:=hT.x4 s hs1 _ hm.1 hm.2
   rw[hpair2 4 k] at a1
   omega
 ·exact (bEN hB f2 f3 (.inr (.inl k))).symm
 ·exact (bEN hB f2 f3 (.inr (.inr k))).symm
 ·have h0:=hin.2.2.2.2.2.1 (by rw[<- hn];exact k)
  rw[decide_eq_false_iff_not] at h0
  obtain ⟨τ,rfl⟩:∃ τ,s=τ+1:=⟨s - 1,by omega⟩
  have hq:=(h.qb τ hs).2
  have hcp:=hS.cp τ hs
  have hcnt:=aOM (hT.o7 τ hs) hc (hpair 7 k)
  rw[<- c3] at hcnt
  rw[bRG hB f2 f3 k,Bool.and_eq_true,decide_eq_true_eq,show (((τ+1:Nat):Int) - 1).toNat=τ by omega]
  refine ⟨by omega,?_⟩
  unfold aHE
  rw[decide_eq_true_eq]
  show ((qB p τ).2.length:Int)<(qB p τ).1
  rw[((h.qb τ hs).1).1]
  by_cases hz:(aP p ((τ+1:Nat):Int)).2=0
  ·omega
  ·rcases aVQ hS hT h (s:=τ) (by omega) (κ:=4) (m:=(aP p ((τ+1:Nat):Int)).2 - 1) (hT.o4 τ hs) ⟨by omega,by omega⟩ with hd|⟨hc',hd⟩
   ·omega
   ·have a1:=hmin' τ (by omega) hc'
    have a2:=hT.x7 τ hs ((aP p ((τ+1:Nat):Int)).2 - 1) (by omega) (by omega)
    rw[show (aP p ((τ+1:Nat):Int)).2 - 1+1=(aP p ((τ+1:Nat):Int)).2 by omega,<- hpair2 7 k] at a2
    omega
 ·rw[cAD hB f2 f3 k]
  unfold bU9
  rw[List.all_eq_true]
  intro x hx
  obtain ⟨t,ht,rfl⟩:=List.mem_iff_getElem.1 hx
  rw[decide_eq_true_eq]
  have e1:p.2.1[t]=sY p t:=by unfold sY;rw[aO ht]
  rw[e1]
  have e2:(sY p t).2.1=nM P t:=h.tr.pl t
  rw[e2]
  show ((nM P t).length:Int) - 1<=rC p t
  refine Int.not_lt.1 fun hlt=>?_
  obtain ⟨d1,d2,d3⟩:=h.tr.pc t (by rw[hS.hn];omega)
  have hct:(rC p t).toNat<(nM P t).length:=by omega
  have a1:=hmin' t (by omega) hct
  have a3:=(hS.plc t (by omega)).i1 _ hct
  have a4:=(hS.plc t (by omega)).e8 _ hct
  rw[aHC hct] at a4
  have a5:¬ (nM P t)[(rC p t).toNat].1=8:=fun hh=>by have:=a4.1 hh;omega
  have a6:=a3.2.1
  have a2:=hT.x8 t s (by omega) hs (nM P t)[(rC p t).toNat] ⟨a6.1,by omega⟩ a3.1 (aP p (s:Int)).2
  rw[hpair2 8 k] at a1
  omega
end
end Go.Proofs.YtlhaoiaieiladaaGreat
