/- LearnC: lemmas. No conditions. -/
import Derived.Test.YtlhaoiaieiladaaGreatGrd
import Derived.IntWalk
namespace Go.Proofs.YtlhaoiaieiladaaGreat
open Go.ChangeShapes Go.WideShapes Go.ChangeAt Go.RowKit Go.Deep
set_option linter.unusedVariables false
set_option linter.unusedSimpArgs false
noncomputable section
set_option maxRecDepth 100000
def aNC (n k b:Nat) (c:bB) (l:bW):Prop:=List.length c.1<=n/\(∀ o∈(c.1:aS),List.length o.2.2.2<=40)/\List.length c.2.1<=k/\List.length c.2.2.2.1<=k+1/\List.length c.2.2.2.2.1<=k/\List.length c.2.2.2.2.2<=k+1 /\
 List.length l<=b/\∀ p∈(l:List bA),List.length p.1<=7/\List.length p.2<=7
theorem bUI (c:bB) (s micro:Int):0<=zE c s micro/\zE c s micro<=330:=by
 unfold zE
 split
 ·rename_i h
  obtain ⟨h1,h2,h3,h4⟩:=h
  have hb:=aYE c s
  have hs:s<=(c.2.1.length:Int):=Int.not_lt.1 fun hh=>by rw[aBD (.inr (.inr hh))] at h1;exact absurd h1 (Int.lt_irrefl _)
  have q1:=bS0 (k:=min micro ((c.2.1.length:Int)+1 - s)) (v:=tO c s) (by omega) (by omega) (by omega) (by omega)
  have q2:=bS0 (k:=micro) (v:=tO c s) (by omega) (by omega) (by omega) (by omega)
  split <;> split <;> omega
 ·omega
def cuB (l:List Int) (n:Nat) (j:Int):Prop:=(∀ i,i<l.length->cutAt l n i=true)/\(0<l.length->l.getD (l.length - 1) 0<j)
theorem aMI {l:List Int} {v:Int} {j:Nat} (hj:j<l.length):(l++[v]).getD j 0=l.getD j 0:=by
 rw[List.getD_eq_getElem?_getD,List.getD_eq_getElem?_getD,List.getElem?_append_left hj]
theorem aSQ {l:List Int} {v:Int}:(l++[v]).getD l.length 0=v:=by
 rw[List.getD_eq_getElem?_getD,List.getElem?_append_right (Nat.le_refl _),Nat.sub_self];rfl
theorem bWH {l:List Int} {n:Nat} {j:Int} (h:cuB l n j) (h1:1<=j) (h2:j<=(n:Int) - 1):cuB (l++[j]) n (j+1):=by
 have el:(l++[j]).length=l.length+1:=by rw[List.length_append];rfl
 refine ⟨fun i hlt=>?_,fun _=>?_⟩
 ·rw[el] at hlt
  rcases Nat.lt_or_eq_of_le (Nat.le_of_lt_succ hlt) with h3|rfl
  ·have:=h.1 i h3
   unfold cutAt at this ⊢
   rw[aMI h3,aMI (show i - 1<l.length by omega)];exact this
  ·unfold cutAt
   rw[aSQ,decide_eq_true_eq]
   refine ⟨h1,h2,?_⟩
   by_cases h0:l.length=0
   ·exact .inl h0
   ·rw[aMI (show l.length - 1<l.length by omega)];exact .inr (h.2 (by omega))
 ·rw[el,Nat.add_sub_cancel,aSQ];omega
theorem bX7 {l:List Int} {n:Nat} {j:Int} (h:cuB l n j):cuB l n (j+1):=⟨h.1,fun h0=>by have:=h.2 h0;omega⟩
theorem bY6 {n:Nat} {j:Int}:cuB [] n j:=⟨fun i h=>absurd h (Nat.not_lt_zero _),fun h=>absurd h (Nat.lt_irrefl _)⟩
def liB (c:bB) (n:Int) (l:List Int):Prop:=∀ k,k<l.length->zE c (k:Int) n<=l.getD k 0/\l.getD k 0<=100000
theorem bW7 {c:bB} {n:Int} {l:List Int} {v:Int} (h:liB c n l) (h1:zE c (l.length:Int) n<=v) (h2:v<=100000):liB c n (l++[v]):=fun k hk=>by
 rw[List.length_append,List.length_singleton] at hk
 rcases Nat.lt_or_eq_of_le (Nat.le_of_lt_succ hk) with h3|rfl
 ·rw[aMI h3];exact h k h3
 ·rw[aSQ];exact ⟨h1,h2⟩
theorem bIH {m:aS} {cuts:List Int} {d:Int} {rd:List Bool} {cp lm:List Int} {b:List bA} (h1:bY m=true) (h2:iQ m b=true) (h3:rU m cuts=true) (h4:cuts.length<=3) (h5:d=1\/d=2)
  (h6:rd.length=cuts.length+1) (h7:cp.length=cuts.length) (h8:∀ v∈cp,1<=v/\v<=5) (h9:lm.length=cuts.length+1) (h10:liB (m,cuts,d,rd,cp,[]) (b.length:Int) lm):cH (m,cuts,d,rd,cp,lm) b=0:=by
 have es:bP m cuts=(cuts.length:Int)+1:=aHH h3
 refine (cAZ (c:=(m,cuts,d,rd,cp,lm)) h1 h2 ?_ h5 ?_ ?_ ?_).symm
 ·show ¬ (bP m cuts=0\/4<bP m cuts)
  omega
 ·show (rd.length:Int)=bP m cuts
  omega
 ·exact bLX h7 (List.all_eq_true.2 fun v hv=>decide_eq_true (h8 v hv))
 ·show (decide ((lm.length:Int)=bP m cuts)&&(List.range lm.length).all (bKE (m,cuts,d,rd,cp,lm) (b.length:Int)))=true
  rw[decide_eq_true (show (lm.length:Int)=bP m cuts by omega),Bool.true_and,List.all_eq_true]
  intro k hk
  exact decide_eq_true (h10 k (List.mem_range.1 hk))
def aP2:Con:=⟨135,bDY,(.cD0 aA hZ),[.box 119 ⟨true,hZ,[]⟩,.val ⟨true,aB,[]⟩],[⟨false,aA,[2]⟩],false,none,
 ((fun x=>0<=x.1.2.1/\x.2.length<=9):(aW × aS)->Prop),
 ((fun _=>aK (.cD0 aA (.cD0 (.slice 5 (.int .u8)) aQ))):(aW × aS)->(cK × aW))⟩
def aPV:T:=dX (kL fZ) (vQ fZ [gF,iM cF aQ cD aB 0,fK cD 1 cD aB,kG cD 2 cD aB,aT]) 98 bQ (gK cD aB 1) <| nR fZ 1 2 3 (cI 0 cD (cO cD (cJ fZ 1 1) (cJ fZ 2 1) (cJ fZ 3 1)) (dR 2) <| .ite (lJ .bool 4) (cN (fQ fZ 4 1) <| gT bM 5 3 <| cG 6 (oP 3 tI (bO fZ 1) <| kB 3 8 aA aA (fQ fZ 4 1) 7 <| uM (bO fZ 1) 1 0 fZ [mT,gQ .bool cF aQ 1 4,gQ .bool cF aQ 2 4,dH (oJ cF aQ) 4,gP]) <| uM (bO fZ 1) 1 0 fZ [lN,gQ .bool cF aQ 1 4,gQ .bool cF aQ 2 4,dH (oJ cF aQ) 4,fQ fZ 4 1]) <| uM (bO fZ 1) 1 0 fZ [iR,gQ .bool cF aQ 1 4,gQ .bool cF aQ 2 4,dH (oJ cF aQ) 4,fQ fZ 4 1]) (mkA (eK aA cF aQ) [fQ fZ 4 1,cJ fZ 1 1,cJ fZ 2 1,cJ fZ 3 1])
theorem bMB (f:(aW × aS)->(cK × aW)):aGU Tryz.prog [rQ] { aP2 with fn:=f } false 3000 ⟨[(2991,1001,[.dr 7,.dr 1,.tm 6 0,.on 5,.bx 1 0,.bx 1 1,.bx 1 2,.sl 3])],[]⟩ = .ok aPV:=by kernel_rfl
theorem bLZ (x:aW × aS) (hx:okD (.cD0 (.cD0 (.slice 5 (.int .u8)) aQ) aB) x) (hp:(fun x=>0<=x.1.2.1/\x.2.length<=9) x):aPV.wp [rQ] [⟨(.cD0 (.cD0 (.slice 5 (.int .u8)) aQ) aB),x⟩] [] (fun v=>(fun x r=>(r.1.length<=3/\∀ i,i<r.1.length->cutAt r.1 x.2.length i=true)/\0<=r.2.2.1:(aW × aS)->(cK × aW)->Prop) x (v.as (.cD0 aA (.cD0 (.slice 5 (.int .u8)) aQ)))):=by
 obtain ⟨c,m⟩:=x
 obtain ⟨hp,hm⟩:0<=c.2.1/\List.length m<=9:=hp
 delta aPV rQ;refine gH ?_
 refine iC ?_
 refine ⟨fun s=>@LE.le Int _ 1 s.1/\@LE.le Int _ s.1 10/\(List.length s.2.2.2.2<=3/\cuB s.2.2.2.2 (List.length m) s.1)/\@LE.le Int _ 0 s.2.2.1,fun s=>(20 - s.1:Int).toNat,⟨by show (1:Int)<=1;omega,by show (1:Int)<=10;omega,⟨Nat.zero_le _,bY6⟩,hp⟩,fun s hs hI=>?_⟩
 obtain ⟨j,b,i,h,l⟩:=s
 obtain ⟨e1,e2,⟨e3,e5⟩,e4⟩:=hI
 change Int at j
 change List Int at l
 change (1:Int)<=j at e1
 change j<=10 at e2
 change List.length l<=3 at e3
 change cuB l (List.length m) j at e5
 change 0<=(i:Int) at e4
 have q:=aPH ((b,i,h),2) ⟨⟨hs.2.1,hs.2.2.1,hs.2.2.2.1⟩,okI (by omega) (by omega)⟩ e4
 generalize yC ((b,i,h),2)=r at q ⊢;obtain ⟨n1,c1⟩:=r;obtain ⟨kq1,uq1⟩:=q;dsimp only at uq1 ⊢
 try dsimp only
 (refine iC ?_;try with_reducible exact True.intro)
 (repeat' first|intro _|(with_reducible apply And.intro))
 all_goals first|omega|(unfold maxLen;omega)|exact uq1|exact e4|exact bWH e5 (by omega) (by omega)|exact bX7 e5|exact e5.1 _ (by assumption)|skip
theorem aPU:∃ f:(aW × aS)->(cK × aW),(∀ x,okD (.cD0 (.cD0 (.slice 5 (.int .u8)) aQ) aB) x->(fun x=>0<=x.1.2.1/\x.2.length<=9) x->(fun x r=>(r.1.length<=3/\∀ i,i<r.1.length->cutAt r.1 x.2.length i=true)/\0<=r.2.2.1:(aW × aS)->(cK × aW)->Prop) x (f x))/\Con.Holds Tryz.prog { aP2 with fn:=f }:=zN (C:=aP2) yL (aD aJ1 aL) bMB (fun x r=>(r.1.length<=3/\∀ i,i<r.1.length->cutAt r.1 x.2.length i=true)/\0<=r.2.2.1:(aW × aS)->(cK × aW)->Prop) bLZ
def aDQ:(aW × aS)->(cK × aW):=Classical.choose aPU
def aI5:Con:=⟨135,bDY,(.cD0 aA hZ),[.box 119 ⟨true,hZ,[]⟩,.val ⟨true,aB,[]⟩],[⟨false,aA,[2]⟩],false,none,
 ((fun x=>0<=x.1.2.1/\x.2.length<=9):(aW × aS)->Prop),
 ((aDQ):(aW × aS)->(cK × aW))⟩
theorem bO5:∀ x,okD (.cD0 (.cD0 (.slice 5 (.int .u8)) aQ) aB) x->(fun x=>0<=x.1.2.1/\x.2.length<=9) x->(fun x r=>(r.1.length<=3/\∀ i,i<r.1.length->cutAt r.1 x.2.length i=true)/\0<=r.2.2.1:(aW × aS)->(cK × aW)->Prop) x (aDQ x):=(Classical.choose_spec aPU).1
theorem bAV:Con.Holds Tryz.prog aI5:=(Classical.choose_spec aPU).2
theorem bLR (x:aW × aS) (hx:okD (.cD0 (.cD0 (.slice 5 (.int .u8)) aQ) aB) x) (hp:(fun x=>0<=x.1.2.1/\x.2.length<=9) x):okD (.cD0 aA (.cD0 (.slice 5 (.int .u8)) aQ)) (aDQ x)/\(fun x r=>(r.1.length<=3/\∀ i,i<r.1.length->cutAt r.1 x.2.length i=true)/\0<=r.2.2.1:(aW × aS)->(cK × aW)->Prop) x (aDQ x):=⟨bAV.ok x hp hx,bO5 x hx hp⟩
def aGJ:Con:=⟨79,hZ,(.cD0 aH (.cD0 aE hZ)),[.box 119 ⟨true,hZ,[]⟩],[⟨true,aH,[1,2,0,2,2,2]⟩,⟨false,aE,[1]⟩],false,none,
 ((fun x=>0<=x.2.1):(aW)->Prop),
 ((fun _=>aK (.cD0 aH (.cD0 aE (.cD0 (.slice 5 (.int .u8)) aQ)))):(aW)->(bB × (bW × aW)))⟩
def aGV:T:=dE 0 0 <| yJ 1 cD aB (eH (rS cF aQ) 1) (lJ aB 1) <| cI 2 cD (eH (eK aA cF aQ) 2) (dR 2) <| bX cC gF (nJ 3) <| aG2 bK <| yJ 3 cD aB (eH mQ 3) (lJ aB 1) <| dX (kL (rP bZ aA)) (vQ (rP bZ aA) [aM,gQ aE cF aQ 1 6,gQ aE cF aQ 2 6,dH (eK aE cF aQ) 6,.nl 4 .bool,aT]) 3 tI (lJ aA 2) <| aAK (vW .leq) (rP bZ aA) 7 8 <| cG 9 (nV 4 (qO cD (cO cD (cJ (rP bZ aA) 1 7) (cJ (rP bZ aA) 2 7) (cJ (rP bZ aA) 3 7)) (dR 3)) 4 .bool (lJ .bool 10) <| dM (.cD7 4 .bool 1) bZ bZ (cJ (rP bZ aA) 4 7) 11 <| dY (bO (rP bZ aA) 7) 0 <| cG 13 (cI 2 cD (eH (oJ cF aQ) 10) (dR 3) <| bX cC gF (nJ 14) <| oP 3 tI iL <| kB 3 8 aA aA (fQ (rP bZ aA) 5 7) 16 <| uM (bO (rP bZ aA) 7) 1 0 (rP bZ aA) [uA,nI cF aQ 1 14,nI cF aQ 2 14,dH mQ 14,kO,mV]) <| uM (bO (rP bZ aA) 7) 1 0 (rP bZ aA) [gW,gQ .bool cF aQ 1 10,gQ .bool cF aQ 2 10,dH (oJ cF aQ) 10,kO,fQ (rP bZ aA) 5 7]) <| dX (kL fZ) (vQ fZ [aM,cJ (rP bZ aA) 1 7,cJ (rP bZ aA) 2 7,cJ (rP bZ aA) 3 7,aT]) 3 tI (lJ aA 2) <| aAK (vW .leq) fZ 10 11 <| fY 12 (bT 77 aF (lJ aE 6) <| bMH 5 (mkA pY (eE (mkA aH [lJ aB 1,lJ aA 2,gD,cJ (rP bZ aA) 4 7,fQ (rP bZ aA) 5 7,fQ fZ 4 10]) (bO fZ 10) 13)) (.lit 3 tI 3) (vQ aQ (iO aM aM 7)) <| eI 6 cD (cO cD (cJ fZ 1 10) (cJ fZ 2 10) (cJ fZ 3 10)) iL <| bX cC gW (nJ 16) <| oP 3 tI mV <| kB 3 8 aA aA (fQ fZ 4 10) 18 <| uM (bO fZ 10) 1 0 fZ [sG,nI cF aQ 1 16,nI cF aQ 2 16,dH mQ 16,pK]) (mkA (.cD0 aH (eK aE cF aQ)) [mkA aH [lJ aB 1,lJ aA 2,gD,cJ (rP bZ aA) 4 7,fQ (rP bZ aA) 5 7,fQ fZ 4 10],lJ aE 6,cJ fZ 1 10,cJ fZ 2 10,cJ fZ 3 10])
theorem bBL (f:(aW)->(bB × (bW × aW))):aGU Tryz.prog [aF3,aI5,dZ,uX,rQ,aAE,mN] { aGJ with fn:=f } false 3000 ⟨[(2987,1007,oS 21 16++[.dr 14,.dr 13,.dr 11,.dr 15,.dr 12,.dr 4,.dr 10,.dr 9,.tm 7 0,.bx 1 0,.bx 1 1,.bx 1 2,.sl 18,.sl 19]),(2977,2010,oS 26 22++[.dr 7,.tm 8 0,.bx 1 0,.bx 1 1,.bx 1 2,.sl 20])],[(2994,1002,[],[8]),(2969,6013,[61],[])]⟩ = .ok aGV:=by kernel_rfl
theorem bBH (x:aW) (hx:okD (.cD0 (.slice 5 (.int .u8)) aQ) x) (hp:(fun x=>0<=x.2.1) x):aGV.wp [aF3,aI5,dZ,uX,rQ,aAE,mN] [⟨(.cD0 (.slice 5 (.int .u8)) aQ),x⟩] [] (fun v=>(fun x r=>(aNC 6 3 4 r.1 r.2.1/\cH r.1 r.2.1=0)/\1<=r.1.2.2.2.1.length/\1<=r.1.2.2.2.2.2.length/\(∀ v∈r.1.2.2.2.2.2,0<=v/\v<=400)/\0<=r.2.2.2.1:(aW)->(bB × (bW × aW))->Prop) x (v.as (.cD0 aH (.cD0 aE (.cD0 (.slice 5 (.int .u8)) aQ))))):=by
 have q1:=bL3 x hx hp
 delta aGV aF3 aI5 dZ uX rQ aAE mN;refine gH ?_
 refine iC ?_
 refine ⟨hp,fun _=>?_⟩
 generalize aBF x=r at q1 ⊢;obtain ⟨m,c1⟩:=r;obtain ⟨k1,u1⟩:=q1;have km:=k1.1;replace k1:okD aES c1:=k1.2;dsimp only at u1 ⊢
 change List dU at m
 have hl6:List.length m<=6:=u1.2.1
 have hP:∀ o∈m,List.length o.2.2.2<=40:=fun o ho=>by have:=bVT (u1.2.2.1 o ho);omega
 refine ⟨⟨u1.2.2.2,by omega⟩,fun _=>?_⟩
 have q2:=bLR (c1,m) ⟨k1,km⟩ ⟨u1.2.2.2,by show List.length m<=9;omega⟩
 generalize aDQ (c1,m)=r at q2 ⊢;obtain ⟨cuts,c2⟩:=r;obtain ⟨k2,u2⟩:=q2;replace k2:okD aES c2:=k2.2;dsimp only at u2 ⊢
 change List Int at cuts
 have hc3:List.length cuts<=3:=u2.1.1
 have hmB:bY m=true:=u1.1.2
 have hcB:rU m cuts=true:=(yV m cuts).2 ⟨hmB,u2.1.2⟩
 refine ⟨u2.2,fun _=>?_⟩
 have q3:=kN (c2,2) ⟨k2,okI (by omega) (by omega)⟩ u2.2
 generalize iK (c2,2)=r at q3 ⊢;obtain ⟨d,c3⟩:=r;obtain ⟨k3,u3⟩:=q3;replace k3:okD aES c3:=k3.2;dsimp only at u3 ⊢
 have hd:0<=d/\d<2:=⟨u3.1,u3.2.1 (by decide)⟩
 refine ⟨by omega,fun _=>⟨u3.2.2.2,fun _=>?_⟩⟩
 have q4:=aUY (c3,m) ⟨k3,km⟩ u3.2.2.2
 generalize yW (c3,m)=r at q4 ⊢;obtain ⟨b,c4⟩:=r;obtain ⟨k4,u4⟩:=q4;replace k4:okD aES c4:=k4.2;dsimp only at u4 ⊢
 change List bA at b
 have hb4:List.length b<=4:=u4.2.1
 have hbv:∀ p∈b,List.length p.1<=7/\List.length p.2<=7:=fun p hp=>by have:=u4.2.2.1 p hp;omega
 have hc4:=u4.2.2.2
 have hbB:iQ m b=true:=u4.1.2 hmB
 clear u4 u3 u2 u1
 refine ⟨fun s=>@LE.le Int _ 0 s.1/\@LE.le Int _ s.1 ((List.length cuts:Int)+1)/\((List.length s.2.2.2.2.1:Nat):Int)=s.1/\(((List.length s.2.2.2.2.2:Nat):Int)=max 0 (s.1 - 1:Int)/\∀ v∈s.2.2.2.2.2,@LE.le Int _ 1 v/\@LE.le Int _ v 5)/\@LE.le Int _ 0 s.2.2.1,fun s=>(20 - s.1:Int).toNat,⟨Int.le_refl _,by show (0:Int)<=_;omega,rfl,⟨rfl,fun v hv=>by cases hv⟩,hc4⟩,fun s hs hI=>?_⟩
 obtain ⟨s,bf,i,h,rd,cp⟩:=s
 obtain ⟨e1,e2,e3,⟨e4,e6⟩,e5⟩:=hI
 change Int at s
 change List Bool at rd
 change List Int at cp
 change (0:Int)<=s at e1
 change s<=(List.length cuts:Int)+1 at e2
 change ((List.length rd:Nat):Int)=s at e3
 change ((List.length cp:Nat):Int)=max 0 (s - 1) at e4
 change ∀ v∈cp,1<=v/\v<=5 at e6
 change 0<=(i:Int) at e5
 have kq:okD aES (bf,i,h):=⟨hs.2.1,hs.2.2.1,hs.2.2.2.1⟩
 try dsimp only
 refine fun _=>⟨fun hlt=>?_,fun hge=>?_⟩
 ·have q5:=aPH ((bf,i,h),3) ⟨kq,okI (by omega) (by omega)⟩ e5
  refine ⟨e5,fun _=>?_⟩
  generalize yC ((bf,i,h),3)=r at q5 ⊢;obtain ⟨b5,c5⟩:=r;obtain ⟨k5,u5⟩:=q5;replace k5:okD aES c5:=k5.2;dsimp only at u5 ⊢
  have q6:=kN (c5,3) ⟨k5,okI (by omega) (by omega)⟩ u5
  generalize iK (c5,3)=r at q6 ⊢;obtain ⟨n6,c6⟩:=r;obtain ⟨k6,u6⟩:=q6;dsimp only at u6 ⊢
  have hn6:0<=n6/\n6<3:=⟨u6.1,u6.2.1 (by decide)⟩
  have hc6:=u6.2.2.2
  clear u6
  have e7:∀ v∈cp++[1+n6],1<=v/\v<=5:=fun v hv=>by
   rcases List.mem_append.1 hv with hv|hv
   ·exact e6 v hv
   ·rw[List.mem_singleton] at hv;omega
  simp only[wC,List.length_append,List.length_cons,List.length_nil]
  (repeat' first|intro _|(with_reducible apply And.intro))
  all_goals first|omega|(unfold maxLen;omega)|exact u5|exact hc6|exact (e6 _ (by assumption)).1|exact (e6 _ (by assumption)).2|exact (e7 _ (by assumption)).1|exact (e7 _ (by assumption)).2|skip
 have hrd:List.length rd=List.length cuts+1:=by omega
 have hcp:List.length cp=List.length cuts:=by omega
 refine ⟨fun t=>@LE.le Int _ 0 t.1/\@LE.le Int _ t.1 ((List.length cuts:Int)+1)/\((List.length t.2.2.2.2:Nat):Int)=t.1/\((∀ v∈t.2.2.2.2,@LE.le Int _ 0 v/\@LE.le Int _ v 400)/\liB (m,cuts,1+d,rd,cp,[]) (List.length b:Int) t.2.2.2.2)/\@LE.le Int _ 0 t.2.2.1,fun t=>(20 - t.1:Int).toNat,⟨Int.le_refl _,by show (0:Int)<=_;omega,rfl,⟨fun v hv=>(by cases hv),fun k hk=>absurd hk (Nat.not_lt_zero _)⟩,e5⟩,fun t ht hJ=>?_⟩
 obtain ⟨t,bf,i,h,lm⟩:=t
 obtain ⟨g1,g2,g3,⟨g4,g8⟩,g5⟩:=hJ
 change Int at t
 change List Int at lm
 change (0:Int)<=t at g1
 change t<=(List.length cuts:Int)+1 at g2
 change ((List.length lm:Nat):Int)=t at g3
 change ∀ v∈lm,0<=v/\v<=400 at g4
 change liB (m,cuts,1+d,rd,cp,[]) (List.length b:Int) lm at g8
 change 0<=(i:Int) at g5
 have kq':okD aES (bf,i,h):=⟨ht.2.1,ht.2.2.1,ht.2.2.2.1⟩
 try dsimp only
 refine fun _=>⟨fun hlt=>?_,fun hge=>?_⟩
 ·refine fun _=>⟨⟨⟨by show List.length m<=_;omega,fun o ho=>by have:=hP o ho;omega⟩,by show List.length cuts<=_;omega,by show List.length rd<=_;omega,by show List.length cp<=_;omega,by show List.length lm<=_;omega⟩,fun _ hlit=>⟨⟨g5,by simp⟩,fun _=>?_⟩⟩
  have q7:=aG0 ((bf,i,h),[0,0,7]) ⟨kq',hlit⟩ ⟨g5,by simp⟩
  generalize rO ((bf,i,h),[0,0,7])=r at q7 ⊢;obtain ⟨n7,c7⟩:=r;obtain ⟨k7,u7⟩:=q7;dsimp only at u7 ⊢
  have hc7:=u7.2
  have hn7:0<=n7/\n7<=7:=by
   have:=u7.1
   simp only[List.mem_cons,List.not_mem_nil,or_false] at this
   omega
  have pb:=bUI (m,cuts,1+d,rd,cp,lm) t (b.length:Int)
  have g9:liB (m,cuts,1+d,rd,cp,[]) (List.length b:Int) (lm++[zE (m,cuts,1+d,rd,cp,lm) t (b.length:Int)+n7]):=bW7 g8 (by rw[g3];show zE (m,cuts,1+d,rd,cp,lm) t (b.length:Int)<=_;omega) (by omega)
  generalize zE (m,cuts,1+d,rd,cp,lm) t (b.length:Int)=pk at pb g9 ⊢
  clear u7
  have g6:∀ v∈lm++[pk+n7],0<=v/\v<=400:=fun v hv=>by
   rcases List.mem_append.1 hv with hv|hv
   ·exact g4 v hv
   ·rw[List.mem_singleton] at hv;omega
  simp only[wC,List.length_append,List.length_cons,List.length_nil]
  (repeat' first|intro _|(with_reducible apply And.intro))
  all_goals first|omega|(unfold maxLen;omega)|exact hc7|exact (g6 _ (by assumption)).1|exact (g6 _ (by assumption)).2|exact g9|exact (g9 _ (by assumption)).1|exact (g9 _ (by assumption)).2|skip
 ·exact ⟨⟨⟨by show List.length m<=6;omega,hP,hc3,by show List.length rd<=4;omega,by show List.length cp<=3;omega,by show List.length lm<=4;omega,hb4,hbv⟩,bIH hmB hbB hcB hc3 (by omega) hrd hcp e6 (by omega) g8⟩,by show 1<=List.length rd;omega,by show 1<=List.length lm;omega,g4,g5⟩
theorem aFV:∃ f:(aW)->(bB × (bW × aW)),(∀ x,okD (.cD0 (.slice 5 (.int .u8)) aQ) x->(fun x=>0<=x.2.1) x->(fun x r=>(aNC 6 3 4 r.1 r.2.1/\cH r.1 r.2.1=0)/\1<=r.1.2.2.2.1.length/\1<=r.1.2.2.2.2.2.length/\(∀ v∈r.1.2.2.2.2.2,0<=v/\v<=400)/\0<=r.2.2.2.1:(aW)->(bB × (bW × aW))->Prop) x (f x))/\Con.Holds Tryz.prog { aGJ with fn:=f }:=zN (C:=aGJ) yL (aD aU5 (aD bAV (aD rI (aD aKF (aD aJ1 (aD aYQ (aD aB0 aL))))))) bBL (fun x r=>(aNC 6 3 4 r.1 r.2.1/\cH r.1 r.2.1=0)/\1<=r.1.2.2.2.1.length/\1<=r.1.2.2.2.2.2.length/\(∀ v∈r.1.2.2.2.2.2,0<=v/\v<=400)/\0<=r.2.2.2.1:(aW)->(bB × (bW × aW))->Prop) bBH
def xH:(aW)->(bB × (bW × aW)):=Classical.choose aFV
def aAX:Con:=⟨79,hZ,(.cD0 aH (.cD0 aE hZ)),[.box 119 ⟨true,hZ,[]⟩],[⟨true,aH,[1,2,0,2,2,2]⟩,⟨false,aE,[1]⟩],false,none,
 ((fun x=>0<=x.2.1):(aW)->Prop),
 ((xH):(aW)->(bB × (bW × aW)))⟩
theorem bBN:∀ x,okD (.cD0 (.slice 5 (.int .u8)) aQ) x->(fun x=>0<=x.2.1) x->(fun x r=>(aNC 6 3 4 r.1 r.2.1/\cH r.1 r.2.1=0)/\1<=r.1.2.2.2.1.length/\1<=r.1.2.2.2.2.2.length/\(∀ v∈r.1.2.2.2.2.2,0<=v/\v<=400)/\0<=r.2.2.2.1:(aW)->(bB × (bW × aW))->Prop) x (xH x):=(Classical.choose_spec aFV).1
theorem aNV:Con.Holds Tryz.prog aAX:=(Classical.choose_spec aFV).2
theorem bC0 (x:aW) (hx:okD (.cD0 (.slice 5 (.int .u8)) aQ) x) (hp:(fun x=>0<=x.2.1) x):okD (.cD0 aH (.cD0 aE (.cD0 (.slice 5 (.int .u8)) aQ))) (xH x)/\(fun x r=>(aNC 6 3 4 r.1 r.2.1/\cH r.1 r.2.1=0)/\1<=r.1.2.2.2.1.length/\1<=r.1.2.2.2.2.2.length/\(∀ v∈r.1.2.2.2.2.2,0<=v/\v<=400)/\0<=r.2.2.2.1:(aW)->(bB × (bW × aW))->Prop) x (xH x):=⟨aNV.ok x hp hx,bBN x hx hp⟩
end
def km (pl:List eZ) (k:Nat):Int:=(pl.getD k (0,0)).2
def cn (κ:Int) (pl:List eZ) (k:Nat):Nat:=(rV κ (pl.take k)).length
theorem aV8 {pl:List eZ} {k:Nat} (h:k<pl.length):km pl k=pl[k].2:=by unfold km;rw[aO h]
theorem uR {κ:Int} {pl:List eZ} {k:Nat} (h:k<pl.length):cn κ pl (k+1)=cn κ pl k+if kd pl k=κ then 1 else 0:=by
 unfold cn
 rw[<- mE h,zD,List.length_append,aN1,aHC h]
 split <;> rfl
structure PlM (first last redo:Bool) (mi:Int) (pl:List eZ):Prop where
 s2:∀ k,k<pl.length->kd pl (k+1)=2->first=false->km pl (k+1)=km pl k
 s3:∀ k,k<pl.length->kd pl (k+1)=3->km pl (k+1)=km pl k
 s5:∀ k,k<pl.length->(kd pl (k+1)=5\/kd pl (k+1)=6)->last=false->km pl (k+1)=km pl k
 s6:∀ k,k<pl.length->kd pl (k+1)=6->redo=true->km pl (k+1)=km pl k
 s7:∀ k,k<pl.length->kd pl (k+1)=7->km pl (k+1)=km pl k
 o2:rV 2 pl=nL mi
 o6:rV 6 pl=nL mi
structure StW (ops:List dU) (first last:Bool) (mi:Int) where
 xI:Int->List Int
 xO:Int->List Int
 dO:Int->List Int
 dI:Int->List Int
 rows:Int->dG
 gr:Int->dG
 t:Int->List Int
 RS:Nat->dG
 LS:Nat->Int
 FA:Nat->Bool
 BA:Nat->Bool
 f1:∀ i,0<=i->i<mi->(jD ops (xI i) ops.length).1=rows i/\(rows i).getD ops.length []=xO i
 b1:∀ i,0<=i->i<mi->(kH ops (rows i) (dO i)).1=gr i/\(kH ops (rows i) (dO i)).2.1=dI i
 d1:last=true->∀ i,0<=i->i<mi->dO i=(qE fC (xO i) (t i)).1
 r1:∀ β:Nat,(β:Int)<mi->RS (β+1)=eV (RS β) (gr (β:Int))
 l1:last=true->∀ φ:Nat,(φ:Int)<mi->LS (φ+1)=(gI (LS φ) (qQ (xO (φ:Int)) (t (φ:Int))).1).1
 l0:last=false->∀ φ:Nat,LS (φ+1)=LS φ
 lf:∀ φ,mK (LS φ)=true
 fa:∀ φ:Nat,(φ:Int)<mi->FA (φ+1)=(FA φ || ((jD ops (xI (φ:Int)) ops.length).2 || (last&&((qQ (xO (φ:Int)) (t (φ:Int))).2 || (gI (LS φ) (qQ (xO (φ:Int)) (t (φ:Int))).1).2))))
 ba:∀ β:Nat,(β:Int)<mi->BA (β+1)=(BA β || (((last&&(qE fC (xO (β:Int)) (t (β:Int))).2) || (kH ops (rows (β:Int)) (dO (β:Int))).2.2) || qM (RS β) (gr (β:Int))))
structure StV {ops:List dU} {first last:Bool} {mi:Int} (W:StW ops first last mi) (redo:Bool) (pl:List eZ) (k:Nat) (x:bH):Prop where
 vX:kd pl k=2->first=false->x.2.2.2.2.2.2.2.1=W.xI (km pl k)
 vY:kd pl k=3->x.2.2.2.2.2.2.2.2.1=W.xO (km pl k)
 vG:(kd pl k=5\/kd pl k=6)->last=false->x.2.2.2.2.2.2.2.2.2.1=W.dO (km pl k)
 vD:kd pl k=7->x.2.2.2.2.2.2.2.2.2.2.1=W.dI (km pl k)
 vF:kd pl k=6->redo=true->x.2.2.2.2.2.2.1=W.rows (km pl k)
 vS:∀ y∈x.2.2.2.2.2.1,0<=y.1/\y.1<mi/\y.2=aBI redo (W.rows y.1)
 vR:x.2.2.2.2.2.2.2.2.2.2.2.1=W.RS (cn 6 pl k)
 vL:x.2.2.2.2.2.2.2.2.2.2.2.2.1=W.LS (cn 2 pl k)
 vA:x.2.2.2.2.2.2.2.2.2.2.2.2.2=(W.FA (cn 2 pl k) || W.BA (cn 6 pl k))
theorem bPB {x:Int} (h:mK x=true):gI x 0=(x,false):=by
 have h1:=(aBA x).1 h
 unfold gI aTL lD
 refine Prod.ext ?_ ?_
 ·show min (max (min (max x (-2147483647)) 2147483647+min (max 0 (-2147483647)) 2147483647) (-2147483647)) 2147483647=x
  omega
 ·show decide _=false
  rw[decide_eq_false_iff_not]
  omega
section
variable {ops:List dU} {pl:List eZ} {first last redo:Bool} {mi:Int} {K:Nat} {k:Nat} {x:bH} {W:StW ops first last mi}
theorem StV.s1 (hC:PlC first last redo mi K pl) (hM:PlM first last redo mi pl) (h:StV W redo pl k x) (hk:k<pl.length) (h1:kd pl k=1) {v:List Int} (hv:v=W.xI (km pl k)):StV W redo pl (k+1) (nX (aY1 x v) ((aY1 x v).1+1)):=by
 obtain ⟨n1,n2,n3,n4,n5⟩:=hC.n1 k hk
 have c2:cn 2 pl (k+1)=cn 2 pl k:=by rw[uR hk,if_neg (by omega)];rfl
 have c6:cn 6 pl (k+1)=cn 6 pl k:=by rw[uR hk,if_neg (by omega)];rfl
 refine ⟨fun h2 hf=>?_,fun h3=>?_,fun h5 hl=>?_,fun h7=>?_,fun h6 hr=>?_,h.vS,by rw[c6];exact h.vR,by rw[c2];exact h.vL,by rw[c2,c6];exact h.vA⟩
 ·rw[hM.s2 k hk h2 hf];exact hv
 ·have:=n2.1 h3;omega
 ·have:=n3.1 ⟨h5,hl⟩;omega
 ·have:=n5.1 h7;omega
 ·have:=n4.1 ⟨h6,hr⟩;omega
theorem StV.s2 (hC:PlC first last redo mi K pl) (hM:PlM first last redo mi pl) (hI:StI ops pl first last redo k x) (h:StV W redo pl k x) (hk:k<pl.length) (h2:kd pl k=2) {v t:List Int} (hv:v=W.xI (km pl k)) (ht:t=W.t (km pl k)):StV W redo pl (k+1) (nX (aVJ x pl[k].2 v t) ((aVJ x pl[k].2 v t).1+1)):=by
 obtain ⟨n1,n2,n3,n4,n5⟩:=hC.n1 k hk
 have hin:=(hC.i1 k hk).1
 have hc:=aOM hM.o2 hk (m:=pl[k].2) (Prod.ext (by rw[<- aHC hk];exact h2) rfl)
 have ec:((cn 2 pl k:Nat):Int)=km pl k:=by rw[aV8 hk];exact hc
 rw[<- aV8 hk] at hin
 have c2:cn 2 pl (k+1)=cn 2 pl k+1:=by rw[uR hk,if_pos h2]
 have c6:cn 6 pl (k+1)=cn 6 pl k:=by rw[uR hk,if_neg (by omega)];rfl
 obtain ⟨f1,f2⟩:=W.f1 (km pl k) hin.1 hin.2
 have eY:aND x v=W.xO (km pl k):=by unfold aND;rw[hI.e3,hv,f1];exact f2
 refine ⟨fun h2' hf=>?_,fun h3=>?_,fun h5 hl=>?_,fun h7=>?_,fun h6 hr=>?_,fun y hy=>?_,?_,?_,?_⟩
 ·have:=n1.1 ⟨h2',hf⟩;omega
 ·have hl:=(n2.1 h3).2
  rw[hM.s3 k hk h3]
  show (if x.2.2.2.1=true then x.2.2.2.2.2.2.2.2.1 else aND x v)=_
  rw[hI.e4,if_neg (by rw[hl];decide),eY]
 ·have:=n3.1 ⟨h5,hl⟩;omega
 ·have:=n5.1 h7;omega
 ·have:=n4.1 ⟨h6,hr⟩;omega
 ·have hy':y∈x.2.2.2.2.2.1++[(pl[k].2,aBI x.2.2.2.2.1 (jD x.2.2.1 v x.2.2.1.length).1)]:=hy
  rcases List.mem_append.1 hy' with hy'|hy'
  ·exact h.vS y hy'
  ·rw[List.mem_singleton] at hy'
   subst hy'
   rw[<- aV8 hk,hI.e5,hI.e3,hv]
   exact ⟨hin.1,hin.2,by dsimp only;rw[f1]⟩
 ·rw[c6];exact h.vR
 ·show (if x.2.2.2.1=true then (gI x.2.2.2.2.2.2.2.2.2.2.2.2.1 (qQ (aND x v) t).1).1 else x.2.2.2.2.2.2.2.2.2.2.2.2.1)=_
  rw[c2,hI.e4,h.vL,eY,ht]
  by_cases hl:last=true
  ·rw[if_pos hl,W.l1 hl _ (by omega),ec]
  ·rw[if_neg hl,W.l0 (by simpa using hl)]
 ·show (x.2.2.2.2.2.2.2.2.2.2.2.2.2 || (jD x.2.2.1 v x.2.2.1.length).2 || (x.2.2.2.1&&((qQ (aND x v) t).2 || (gI x.2.2.2.2.2.2.2.2.2.2.2.2.1 (qQ (aND x v) t).1).2)))=_
  rw[c2,c6,hI.e4,hI.e3,h.vA,h.vL,eY,ht,hv,W.fa _ (by omega),ec]
  generalize W.FA (cn 2 pl k)=a
  generalize W.BA (cn 6 pl k)=b'
  generalize (jD ops (W.xI (km pl k)) ops.length).2=c'
  generalize (last&&_)=d'
  cases a <;> cases b' <;> cases c' <;> cases d' <;> rfl
theorem StV.s3 (hC:PlC first last redo mi K pl) (hM:PlM first last redo mi pl) (h:StV W redo pl k x) (hk:k<pl.length) (h3:kd pl k=3):StV W redo pl (k+1) (nX (bB2 x []) ((bB2 x []).1+1)):=by
 obtain ⟨n1,n2,n3,n4,n5⟩:=hC.n1 k hk
 have c2:cn 2 pl (k+1)=cn 2 pl k:=by rw[uR hk,if_neg (by omega)];rfl
 have c6:cn 6 pl (k+1)=cn 6 pl k:=by rw[uR hk,if_neg (by omega)];rfl
 refine ⟨fun h2 hf=>?_,fun h3=>?_,fun h5 hl=>?_,fun h7=>?_,fun h6 hr=>?_,h.vS,by rw[c6];exact h.vR,by rw[c2];exact h.vL,by rw[c2,c6];exact h.vA⟩
 ·have:=n1.1 ⟨h2,hf⟩;omega
 ·have:=n2.1 h3;omega
 ·have:=n3.1 ⟨h5,hl⟩;omega
 ·have:=n5.1 h7;omega
 ·have:=n4.1 ⟨h6,hr⟩;omega
theorem StV.s4 (hC:PlC first last redo mi K pl) (hM:PlM first last redo mi pl) (h:StV W redo pl k x) (hk:k<pl.length) (h4:kd pl k=4) {v:List Int} (hv:v=W.dO (km pl k)):StV W redo pl (k+1) (nX (bB1 x v) ((bB1 x v).1+1)):=by
 obtain ⟨n1,n2,n3,n4,n5⟩:=hC.n1 k hk
 have c2:cn 2 pl (k+1)=cn 2 pl k:=by rw[uR hk,if_neg (by omega)];rfl
 have c6:cn 6 pl (k+1)=cn 6 pl k:=by rw[uR hk,if_neg (by omega)];rfl
 refine ⟨fun h2 hf=>?_,fun h3=>?_,fun h5 hl=>?_,fun h7=>?_,fun h6 hr=>?_,h.vS,by rw[c6];exact h.vR,by rw[c2];exact h.vL,by rw[c2,c6];exact h.vA⟩
 ·have:=n1.1 ⟨h2,hf⟩;omega
 ·have:=n2.1 h3;omega
 ·rw[hM.s5 k hk h5 hl];exact hv
 ·have:=n5.1 h7;omega
 ·have:=n4.1 ⟨h6,hr⟩;omega
theorem StV.due (hC:PlC first last redo mi K pl) (hI:StI ops pl first last redo k x) (h:StV W redo pl k x) (hk:k<pl.length) (h5:kd pl k=5\/kd pl k=6) :
  (x.2.2.2.2.2.1.getD (jH x.2.2.2.2.2.1 pl[k].2).toNat (aK aY)).2=aBI redo (W.rows (km pl k)):=by
 obtain ⟨d1,d2,a,l,d3⟩:=hI.due hC hk h5
 have hi:=(hC.i1 k hk).2.2.2.2.2.2.2.2 (by rw[<- aHC hk];exact h5)
 rw[<- hI.ms,d3] at hi
 have ea:a.1=pl[k].2:=by simpa using hi
 have:=h.vS a (by rw[d3];exact List.mem_cons_self)
 rw[d1,d3,aV8 hk,<- ea]
 exact this.2.2
theorem cAP {m:List dU} {v:List Int} (redo:Bool):(aBI redo (jD m v m.length).1).getD 0 []=v:=by
 have e:(jD m v m.length).1.getD 0 []=v:=by rw[aFB m v _ 0 (Nat.zero_le _)];rfl
 unfold aBI
 split
 ·rw[List.getD_eq_getElem?_getD,List.getElem?_take,if_pos (by decide),<- List.getD_eq_getElem?_getD];exact e
 ·exact e
theorem StV.s5 (hC:PlC first last redo mi K pl) (hM:PlM first last redo mi pl) (hI:StI ops pl first last redo k x) (h:StV W redo pl k x) (hk:k<pl.length) (h5:kd pl k=5):StV W redo pl (k+1) (nX (xM x pl[k].2) ((xM x pl[k].2).1+1)):=by
 obtain ⟨n1,n2,n3,n4,n5⟩:=hC.n1 k hk
 obtain ⟨d1,d2,d3⟩:=hI.due hC hk (.inl h5)
 have hin:=(hC.i1 k hk).1
 rw[<- aV8 hk] at hin
 have hd:=h.due hC hI hk (.inl h5)
 obtain ⟨f1,f2⟩:=W.f1 (km pl k) hin.1 hin.2
 have c2:cn 2 pl (k+1)=cn 2 pl k:=by rw[uR hk,if_neg (by omega)];rfl
 have c6:cn 6 pl (k+1)=cn 6 pl k:=by rw[uR hk,if_neg (by omega)];rfl
 rw[<- aRF hI.st (by rw[d1];exact Int.le_refl _)]
 refine ⟨fun h2 hf=>?_,fun h3=>?_,fun h5' hl=>?_,fun h7=>?_,fun h6 hr=>?_,h.vS,by rw[c6];exact h.vR,by rw[c2];exact h.vL,by rw[c2,c6];exact h.vA⟩
 ·have:=n1.1 ⟨h2,hf⟩;omega
 ·have:=n2.1 h3;omega
 ·rw[hM.s5 k hk h5' hl];exact h.vG (.inl h5) hl
 ·have:=n5.1 h7;omega
 ·rw[hM.s6 k hk h6 hr]
  show (jD x.2.2.1 ((x.2.2.2.2.2.1.getD (jH x.2.2.2.2.2.1 pl[k].2).toNat (aK aY)).2.getD 0 []) x.2.2.1.length).1=_
  rw[hd,hI.e3,<- f1,cAP,f1]
theorem StV.s6 (hC:PlC first last redo mi K pl) (hM:PlM first last redo mi pl) (hI:StI ops pl first last redo k x) (h:StV W redo pl k x) (hk:k<pl.length) (h6:kd pl k=6) {t:List Int} (ht:t=W.t (km pl k)) :
  StV W redo pl (k+1) (nX (if first=true then aA2 (aQT x pl[k].2 t) [] else aQT x pl[k].2 t) ((if first=true then aA2 (aQT x pl[k].2 t) [] else aQT x pl[k].2 t).1+1)):=by
 obtain ⟨n1,n2,n3,n4,n5⟩:=hC.n1 k hk
 have hin:=(hC.i1 k hk).1
 have hc:=aOM hM.o6 hk (m:=pl[k].2) (Prod.ext (by rw[<- aHC hk];exact h6) rfl)
 have ec:((cn 6 pl k:Nat):Int)=km pl k:=by rw[aV8 hk];exact hc
 rw[<- aV8 hk] at hin
 have hd:=h.due hC hI hk (.inr h6)
 obtain ⟨f1,f2⟩:=W.f1 (km pl k) hin.1 hin.2
 obtain ⟨b1,b2⟩:=W.b1 (km pl k) hin.1 hin.2
 have c2:cn 2 pl (k+1)=cn 2 pl k:=by rw[uR hk,if_neg (by omega)];rfl
 have c6:cn 6 pl (k+1)=cn 6 pl k+1:=by rw[uR hk,if_pos h6]
 have eR:sW x pl[k].2=W.rows (km pl k):=by
  unfold sW
  rw[hI.e5]
  cases hr:redo with
  | true=>rw[if_pos rfl];exact h.vF h6 hr
  | false=>rw[if_neg (by decide),hd,hr];rfl
 have eD:(mM x pl[k].2 t).1=W.dO (km pl k)/\(mM x pl[k].2 t).2=(last&&(qE fC (W.xO (km pl k)) (W.t (km pl k))).2):=by
  unfold mM
  rw[hI.e4,eR,hI.e3,f2,ht]
  by_cases hl:last=true
  ·have ea:∀ q:Bool,(last&&q)=q:=fun q=>by rw[hl];rfl
   rw[if_pos hl,ea,W.d1 hl _ hin.1 hin.2];exact ⟨rfl,rfl⟩
  ·have hl':last=false:=by simpa using hl
   have ea:∀ q:Bool,(last&&q)=false:=fun q=>by rw[hl'];rfl
   rw[if_neg hl,ea];exact ⟨h.vG (.inr h6) hl',rfl⟩
 have key:StV W redo pl (k+1) (nX (aQT x pl[k].2 t) ((aQT x pl[k].2 t).1+1)):=by
  refine ⟨fun h2 hf=>?_,fun h3=>?_,fun h5 hl=>?_,fun h7=>?_,fun h6 hr=>?_,fun y hy=>?_,?_,?_,?_⟩
  ·have:=n1.1 ⟨h2,hf⟩;omega
  ·have:=n2.1 h3;omega
  ·have:=n3.1 ⟨h5,hl⟩;omega
  ·rw[hM.s7 k hk h7]
   show (kH x.2.2.1 (sW x pl[k].2) (mM x pl[k].2 t).1).2.1=_
   rw[hI.e3,eR,eD.1,b2]
  ·have:=n4.1 ⟨h6,hr⟩;omega
  ·have hy':y∈x.2.2.2.2.2.1.take (jH x.2.2.2.2.2.1 pl[k].2).toNat++x.2.2.2.2.2.1.drop ((jH x.2.2.2.2.2.1 pl[k].2).toNat+1):=hy
   rcases List.mem_append.1 hy' with hy'|hy'
   ·exact h.vS y (List.mem_of_mem_take hy')
   ·exact h.vS y (List.mem_of_mem_drop hy')
  ·show eV x.2.2.2.2.2.2.2.2.2.2.2.1 (kH x.2.2.1 (sW x pl[k].2) (mM x pl[k].2 t).1).1=_
   rw[c6,hI.e3,eR,eD.1,b1,h.vR,W.r1 _ (by omega),ec]
  ·show (gI x.2.2.2.2.2.2.2.2.2.2.2.2.1 0).1=_
   rw[c2,h.vL,bPB (W.lf _)]
  ·show (x.2.2.2.2.2.2.2.2.2.2.2.2.2 || ((mM x pl[k].2 t).2 || (kH x.2.2.1 (sW x pl[k].2) (mM x pl[k].2 t).1).2.2) || qM x.2.2.2.2.2.2.2.2.2.2.2.1 (kH x.2.2.1 (sW x pl[k].2) (mM x pl[k].2 t).1).1 || (gI x.2.2.2.2.2.2.2.2.2.2.2.2.1 0).2)=_
   rw[c2,c6,hI.e3,eR,eD.1,eD.2,b1,h.vR,h.vL,h.vA,bPB (W.lf _),W.ba _ (by omega),ec]
   generalize W.FA (cn 2 pl k)=a
   generalize W.BA (cn 6 pl k)=b'
   generalize (last&&_)=c'
   generalize (kH ops (W.rows (km pl k)) (W.dO (km pl k))).2.2=d'
   generalize qM _ _=e'
   cases a <;> cases b' <;> cases c' <;> cases d' <;> cases e' <;> rfl
 by_cases hf:first=true
 rotate_left
 ·rw[if_neg hf];exact key
 ·rw[if_pos hf]
  exact ⟨key.vX,key.vY,key.vG,fun h7=>(by have:=(n5.1 h7).2;rw[hf] at this;cases this),key.vF,key.vS,key.vR,key.vL,key.vA⟩
theorem StV.s7 (hC:PlC first last redo mi K pl) (hM:PlM first last redo mi pl) (h:StV W redo pl k x) (hk:k<pl.length) (h7:kd pl k=7\/kd pl k=8) {y:bH} (hy:y=aA2 x []\/y=x):StV W redo pl (k+1) (nX y (y.1+1)):=by
 obtain ⟨n1,n2,n3,n4,n5⟩:=hC.n1 k hk
 have c2:cn 2 pl (k+1)=cn 2 pl k:=by rw[uR hk,if_neg (by omega)];rfl
 have c6:cn 6 pl (k+1)=cn 6 pl k:=by rw[uR hk,if_neg (by omega)];rfl
 rcases hy with rfl|rfl
 all_goals refine ⟨fun h2 hf=>?_,fun h3=>?_,fun h5 hl=>?_,fun h7=>?_,fun h6 hr=>?_,h.vS,by rw[c6];exact h.vR,by rw[c2];exact h.vL,by rw[c2,c6];exact h.vA⟩
 all_goals first|(have:=n1.1 ⟨h2,hf⟩;omega)|(have:=n2.1 h3;omega)|(have:=n3.1 ⟨h5,hl⟩;omega)|(have:=n5.1 ‹kd pl (k+1)=7›;omega)|(have:=n4.1 ⟨h6,hr⟩;omega)
end
structure PSw (P:bI) (n:Nat) (ops:Nat->List dU) (redo:Nat->Bool) (W:(s:Nat)->StW (ops s) (decide (s=0)) (decide (s+1=n)) (P.1.length:Int)):Prop where
 pm:∀ s,s<n->PlM (decide (s=0)) (decide (s+1=n)) (redo s) (P.1.length:Int) (nM P s)
 lx:∀ s,s+1<n->∀ i,(W s).xO i=(W (s+1)).xI i
 ld:∀ s,s+1<n->∀ i,(W (s+1)).dI i=(W s).dO i
 tx:∀ i,0<=i->i<(P.1.length:Int)->(P.1.getD i.toNat (aK aF)).1=(W 0).xI i
 tt:∀ s,s<n->∀ i,0<=i->i<(P.1.length:Int)->(P.1.getD i.toNat (aK aF)).2=(W s).t i
 o1:∀ s,s+1<n->rV 1 (nM P (s+1))=nL (P.1.length:Int)
 o3:∀ s,s+1<n->rV 3 (nM P s)=nL (P.1.length:Int)
 o4:∀ s,s+1<n->rV 4 (nM P s)=nL (P.1.length:Int)
 o7:∀ s,s+1<n->rV 7 (nM P (s+1))=nL (P.1.length:Int)
structure PrV {P:bI} {n:Nat} {ops:Nat->List dU} (redo:Nat->Bool) (caps:Nat->Int) (W:(s:Nat)->StW (ops s) (decide (s=0)) (decide (s+1=n)) (P.1.length:Int)) (p:bI) (L:List aGK):Prop where
 pr:PrI P n ops redo caps p L
 st:∀ s,s<n->StV (W s) (redo s) (nM P s) (rC p s).toNat (sY p s)
 qa:∀ s,s+1<n->(∀ y∈(qA p s).2,y.2=(W s).xO y.1)/\(qA p s).2.map (·.1)=(rV 3 (nN L (s:Int))).drop (rV 1 (nN L ((s+1:Nat):Int))).length
 qb:∀ s,s+1<n->(∀ y∈(qB p s).2,y.2=(W s).dO y.1)/\(qB p s).2.map (·.1)=(rV 7 (nN L ((s+1:Nat):Int))).drop (rV 4 (nN L (s:Int))).length
theorem bKA {q:List fF} {κ κ':Int} {pl1 pl0:List eZ} {c0 c1:Nat} {mi m:Int} (e1:rV κ pl1=nL mi) (e0:rV κ' pl0=nL mi) (hq:q.map (·.1)=(rV κ' (pl0.take c0)).drop (rV κ (pl1.take c1)).length) (h0:0<q.length) (hc:c1<pl1.length) (hi:pl1[c1]=(κ,m)):(q.getD 0 aQ3).1=m:=by
 have hc1:=aOM e1 hc hi
 cases q with
 | nil=>exact absurd h0 (Nat.lt_irrefl _)
 | cons y q =>
  have h1:((rV κ' (pl0.take c0)).drop (rV κ (pl1.take c1)).length)[0]?=some y.1:=by rw[<- hq];rfl
  rw[List.getElem?_drop,Nat.add_zero] at h1
  have h2:(rV κ' pl0)[(rV κ (pl1.take c1)).length]?=some y.1:=by
   conv=>lhs;lhs;rw[<- List.take_append_drop c0 pl0]
   obtain ⟨hl,_⟩:=List.getElem?_eq_some_iff.1 h1
   rw[zD,List.getElem?_append_left hl];exact h1
  rw[e0] at h2
  have h3:=bEY h2
  show y.1=m
  omega
section
variable {P p:bI} {n:Nat} {ops:Nat->List dU} {redo:Nat->Bool} {caps:Nat->Int} {K:Nat->Nat} {L:List aGK} {W:(s:Nat)->StW (ops s) (decide (s=0)) (decide (s+1=n)) (P.1.length:Int)}
theorem PrV.step (hS:PSt P n ops redo caps K) (hW:PSw P n ops redo W) (h:PrV redo caps W p L) (s:Int):PrV redo caps W (fH p s) (L++[(s,aP p s,gS p s)]):=by
 have hpr:=h.pr.step hS s
 cases he:gS p s with
 | false =>
  rw[he] at hpr
  have ep:=aKX he
  have ed:∀ t,nN (L++[(s,aP p s,false)]) t=nN L t:=fun t=>by rw[aH4,bEM,List.append_nil]
  rw[ep] at hpr ⊢
  exact ⟨hpr,h.st,fun t ht=>by rw[ed,ed];exact h.qa t ht,fun t ht=>by rw[ed,ed];exact h.qb t ht⟩
 | true =>
  rw[he] at hpr
  obtain ⟨σ,rfl,hσ,hc,hi,estN,eB,eA,eR,eSt,_⟩:=h.pr.tr.on he
  obtain ⟨f1,f2,f3⟩:=wT he
  have hk:=aCR he
  rw[hS.hn] at hσ
  have hC:=hS.plc σ hσ
  have hM:=hW.pm σ hσ
  have hst:=h.pr.st σ hσ
  have hsv:=h.st σ hσ
  have hin:=hC.i1 _ hc
  have hmi:=hin.1
  have e6:kd (nM P σ) (rC p σ).toNat=(aP p (σ:Int)).1:=by rw[aHC hc,hi]
  have em:km (nM P σ) (rC p σ).toNat=(aP p (σ:Int)).2:=by rw[aV8 hc,hi]
  have hpc:(rC (fH p (σ:Int)) σ).toNat=(rC p σ).toNat+1:=by
   rw[h.pr.tr.pcs he,if_pos rfl]
   have:=(h.pr.tr.pc σ (by rw[hS.hn];exact hσ)).1
   omega
  have hpo:∀ t,¬ σ=t->rC (fH p (σ:Int)) t=rC p t:=fun t ht=>by rw[h.pr.tr.pcs he,if_neg ht]
  have ed:∀ t:Nat,nN (L++[((σ:Int),aP p (σ:Int),true)]) (t:Int)=nN L (t:Int)++if σ=t then [aP p (σ:Int)] else []:=fun t=>by
   rw[aH4,bA1]
   by_cases ht:σ=t
   ·rw[if_pos (show (σ:Int)=(t:Int) by omega),if_pos ht]
   ·rw[if_neg (show ¬ (σ:Int)=(t:Int) by omega),if_neg ht]
  have mo:∀ (κ:Int) (t:Nat),rV κ (nN (L++[((σ:Int),aP p (σ:Int),true)]) (t:Int))=rV κ (nN L (t:Int))++if (aP p (σ:Int)).1=κ/\σ=t then [(aP p (σ:Int)).2] else []:=fun κ t=>by
   rw[ed,zD]
   by_cases ht:σ=t
   ·rw[if_pos ht,aN1]
    by_cases hq:(aP p (σ:Int)).1=κ
    ·rw[if_pos hq,if_pos ⟨hq,ht⟩]
    ·rw[if_neg hq,if_neg (fun hh=>hq hh.1)]
   ·rw[if_neg ht,if_neg (fun hh=>ht hh.2)];rfl
  have key:StV (W σ) (redo σ) (nM P σ) ((rC p σ).toNat+1) (nX (cZ p σ) ((cZ p σ).1+1)) /\
    (∀ t,t+1<n->(∀ y∈((iG p σ).getD t (aK aI)).2,y.2=(W t).xO y.1)/\((iG p σ).getD t (aK aI)).2.map (·.1)=if (aP p (σ:Int)).1=1/\σ=t+1 then ((qA p t).2.map (·.1)).drop 1 else if (aP p (σ:Int)).1=3/\σ=t then (qA p t).2.map (·.1)++[(aP p (σ:Int)).2] else (qA p t).2.map (·.1)) /\
    (∀ t,t+1<n->(∀ y∈((iH p σ).getD t (aK aI)).2,y.2=(W t).dO y.1)/\((iH p σ).getD t (aK aI)).2.map (·.1)=if (aP p (σ:Int)).1=4/\σ=t then ((qB p t).2.map (·.1)).drop 1 else if (aP p (σ:Int)).1=7/\σ=t+1 then (qB p t).2.map (·.1)++[(aP p (σ:Int)).2] else (qB p t).2.map (·.1)):=by
   have qA0:∀ t,t+1<n->¬ (aP p (σ:Int)).1=1\/¬ σ=t+1->¬ (aP p (σ:Int)).1=3\/¬ σ=t->(∀ y∈(p.2.2.1.getD t (aK aI)).2,y.2=(W t).xO y.1)/\(p.2.2.1.getD t (aK aI)).2.map (·.1)=if (aP p (σ:Int)).1=1/\σ=t+1 then ((qA p t).2.map (·.1)).drop 1 else if (aP p (σ:Int)).1=3/\σ=t then (qA p t).2.map (·.1)++[(aP p (σ:Int)).2] else (qA p t).2.map (·.1):=fun t ht a b=>by
    rw[if_neg (fun hh=>a.elim (fun h=>h hh.1) (fun h=>h hh.2)),if_neg (fun hh=>b.elim (fun h=>h hh.1) (fun h=>h hh.2))]
    exact ⟨(h.qa t ht).1,rfl⟩
   have qB0:∀ t,t+1<n->¬ (aP p (σ:Int)).1=4\/¬ σ=t->¬ (aP p (σ:Int)).1=7\/¬ σ=t+1->(∀ y∈(p.2.2.2.getD t (aK aI)).2,y.2=(W t).dO y.1)/\(p.2.2.2.getD t (aK aI)).2.map (·.1)=if (aP p (σ:Int)).1=4/\σ=t then ((qB p t).2.map (·.1)).drop 1 else if (aP p (σ:Int)).1=7/\σ=t+1 then (qB p t).2.map (·.1)++[(aP p (σ:Int)).2] else (qB p t).2.map (·.1):=fun t ht a b=>by
    rw[if_neg (fun hh=>a.elim (fun h=>h hh.1) (fun h=>h hh.2)),if_neg (fun hh=>b.elim (fun h=>h hh.1) (fun h=>h hh.2))]
    exact ⟨(h.qb t ht).1,rfl⟩
   have hkind:(aP p (σ:Int)).1=1\/(aP p (σ:Int)).1=2\/(aP p (σ:Int)).1=3\/(aP p (σ:Int)).1=4\/(aP p (σ:Int)).1=5\/(aP p (σ:Int)).1=6\/(aP p (σ:Int)).1=7\/(aP p (σ:Int)).1=8:=by
    have:=hin.2.1;rw[<- hi] at this;omega
   have hmi':=hmi
   rw[<- hi] at hmi'
   have htt:(p.1.getD (aP p (σ:Int)).2.toNat (aK aF)).2=(W σ).t (km (nM P σ) (rC p σ).toNat):=by rw[h.pr.eb,em];exact hW.tt σ hσ _ hmi'.1 hmi'.2
   have httv:decide (σ+1=n)=true->dJ (p.1.getD (aP p (σ:Int)).2.toNat (aK aF)).2 (eN (ops σ))=true:=fun hl=>by
    rw[decide_eq_true_eq] at hl
    rw[h.pr.eb]
    have:=(hS.bx (aP p (σ:Int)).2.toNat (by omega)).2
    rwa [show n - 1=σ by omega] at this
   rcases hkind with k|k|k|k|k|k|k|k
   ·have hs0:=hk.1 k
    obtain ⟨τ,rfl⟩:∃ τ,σ=τ+1:=⟨σ - 1,by omega⟩
    have et:(((τ+1:Nat):Int) - 1).toNat=τ:=by omega
    have he':=he
    rw[bJJ f1 f2 f3 k,Bool.and_eq_true,decide_eq_true_eq,decide_eq_true_eq,et] at he'
    obtain ⟨c1,c2⟩:=hS.cp τ hσ
    have hqB:lX (qA p τ)=true:=(h.pr.qa τ hσ).1.B c1 c2
    have h0:0<(qA p τ).2.length:=he'.2
    have ep:=xZ hqB h0
    obtain ⟨v1,v2⟩:=h.qa τ hσ
    have hd1:=(h.pr.tr.pc (τ+1) (by rw[hS.hn];exact hσ)).2.2
    have hd0:=(h.pr.tr.pc τ (by rw[hS.hn];omega)).2.2
    have v2':=v2
    rw[hd1,hd0] at v2'
    have hm:=bKA (hW.o1 τ hσ) (hW.o3 τ hσ) v2' h0 hc (m:=(aP p ((τ+1:Nat):Int)).2) (by rw[<- hi];exact Prod.ext k rfl)
    have hv:(xR (qA p τ)).2.1.2=(W (τ+1)).xI (km (nM P (τ+1)) (rC p (τ+1)).toNat):=by
     rw[<- ep,em]
     show ((qA p τ).2.getD 0 aQ3).2=_
     rw[<- hW.lx τ hσ,<- hm]
     have hmem:(qA p τ).2.getD 0 aQ3∈(qA p τ).2:=by rw[aO h0];exact List.getElem_mem h0
     exact v1 _ hmem
    have e1:cZ p ((τ+1:Nat):Int)=aY1 (sY p (τ+1)) (xR (qA p τ)).2.1.2:=by unfold cZ;rw[if_pos k,eSt,et];rfl
    have e2:iG p ((τ+1:Nat):Int)=p.2.2.1.set τ (xR (qA p τ)).1:=by unfold iG;rw[if_pos k,et];rfl
    have e3:iH p ((τ+1:Nat):Int)=p.2.2.2:=by unfold iH;rw[if_neg (by omega),if_neg (by omega)]
    rw[e1,e2,e3]
    refine ⟨hsv.s1 hC hM hc (by rw[e6];exact k) hv,fun t ht=>?_,fun t ht=>qB0 t ht (.inl (by omega)) (.inl (by omega))⟩
    rw[lG]
    by_cases htt':τ=t
    ·subst htt'
     rw[if_pos ⟨rfl,by have:=h.pr.la;omega⟩,if_pos ⟨k,rfl⟩,<- ep]
     refine ⟨fun y hy=>v1 y (List.mem_of_mem_drop hy),?_⟩
     show ((qA p τ).2.drop 1).map (·.1)=_
     rw[List.map_drop]
    ·rw[if_neg (fun hh=>htt' hh.1)]
     exact qA0 t ht (.inr (by omega)) (.inl (by omega))
   ·have e1:cZ p (σ:Int)=aCB (sY p σ) (nM P σ)[(rC p σ).toNat].2 (if (σ:Int)=0 then (p.1.getD (aP p (σ:Int)).2.toNat (aK aF)).1 else (sY p σ).2.2.2.2.2.2.2.1) (p.1.getD (aP p (σ:Int)).2.toNat (aK aF)).2:=by
     unfold cZ;rw[if_neg (by omega),if_pos k,eSt,<- hi]
    have e2:iG p (σ:Int)=p.2.2.1:=by unfold iG;rw[if_neg (by omega),if_neg (by omega)]
    have e3:iH p (σ:Int)=p.2.2.2:=by unfold iH;rw[if_neg (by omega),if_neg (by omega)]
    have hv:(if (σ:Int)=0 then (p.1.getD (aP p (σ:Int)).2.toNat (aK aF)).1 else (sY p σ).2.2.2.2.2.2.2.1)=(W σ).xI (km (nM P σ) (rC p σ).toNat):=by
     by_cases h0:σ=0
     ·subst h0
      rw[if_pos (show ((0:Nat):Int)=0 from rfl),h.pr.eb,em]
      exact hW.tx _ hmi'.1 hmi'.2
     ·rw[if_neg (show ¬ (σ:Int)=0 by omega)]
      exact hsv.vX (by rw[e6];exact k) (decide_eq_false h0)
    have hvv:dJ (if (σ:Int)=0 then (p.1.getD (aP p (σ:Int)).2.toNat (aK aF)).1 else (sY p σ).2.2.2.2.2.2.2.1) (jP (ops σ))=true:=by
     by_cases h0:σ=0
     ·subst h0
      rw[if_pos (show ((0:Nat):Int)=0 from rfl),h.pr.eb]
      exact (hS.bx (aP p ((0:Nat):Int)).2.toNat (by omega)).1
     ·rw[if_neg (show ¬ (σ:Int)=0 by omega)]
      have vX:=hst.vX
      rw[if_pos ⟨by rw[e6];exact k,decide_eq_false h0⟩] at vX
      exact vX
    have h2:=(hst.s2 hC hc (by rw[e6];exact k) hvv httv).2
    rw[e1,e2,e3,h2]
    exact ⟨hsv.s2 hC hM hst hc (by rw[e6];exact k) hv htt,fun t ht=>qA0 t ht (.inl (by omega)) (.inl (by omega)),fun t ht=>qB0 t ht (.inl (by omega)) (.inl (by omega))⟩
   ·have hs1:σ+1<n:=by have:=hk.2.1 k;have:=h.pr.tr.ln;have:=hS.hn;omega
    have he':=he
    rw[bRD f1 f2 f3 k,Bool.and_eq_true,decide_eq_true_eq,Int.toNat_natCast] at he'
    obtain ⟨c1,c2⟩:=hS.cp σ hs1
    have hqB:lX (qA p σ)=true:=(h.pr.qa σ hs1).1.B c1 c2
    have hroom:((qA p σ).2.length:Int)<(qA p σ).1:=by
     have:=he'.2
     unfold aHE at this
     rw[decide_eq_true_eq] at this
     exact this
    have vY:=hst.vY
    rw[if_pos (by rw[e6];exact k)] at vY
    have hb5:=hS.b5
    have ep:=uV (q:=qA p σ) (x:=((aP p (σ:Int)).2,(sY p σ).2.2.2.2.2.2.2.2.1)) hqB ((oT _).2 ⟨((cP _ _).1 vY).1,hmi'.1,by show (aP p (σ:Int)).2<5;omega⟩) hroom
    obtain ⟨v1,v2⟩:=h.qa σ hs1
    have e1:cZ p (σ:Int)=bB2 (sY p σ) []:=by unfold cZ;rw[if_neg (by omega),if_neg (by omega),if_pos k,eSt]
    have e2:iG p (σ:Int)=p.2.2.1.set σ (yY (qA p σ) ((aP p (σ:Int)).2,(sY p σ).2.2.2.2.2.2.2.2.1)).1:=by unfold iG;rw[if_neg (by omega),if_pos k,Int.toNat_natCast,eSt];rfl
    have e3:iH p (σ:Int)=p.2.2.2:=by unfold iH;rw[if_neg (by omega),if_neg (by omega)]
    rw[e1,e2,e3]
    refine ⟨hsv.s3 hC hM hc (by rw[e6];exact k),fun t ht=>?_,fun t ht=>qB0 t ht (.inl (by omega)) (.inl (by omega))⟩
    rw[lG]
    by_cases htt':σ=t
    ·subst htt'
     rw[if_pos ⟨rfl,by have:=h.pr.la;omega⟩,if_neg (fun hh=>by omega),if_pos ⟨k,rfl⟩,<- ep]
     refine ⟨fun y hy=>?_,?_⟩
     ·have hy':y∈(qA p σ).2++[((aP p (σ:Int)).2,(sY p σ).2.2.2.2.2.2.2.2.1)]:=hy
      rcases List.mem_append.1 hy' with hy'|hy'
      ·exact v1 y hy'
      ·rw[List.mem_singleton] at hy'
       subst hy'
       rw[<- em]
       exact hsv.vY (by rw[e6];exact k)
     ·show ((qA p σ).2++[((aP p (σ:Int)).2,(sY p σ).2.2.2.2.2.2.2.2.1)]).map (·.1)=_
      rw[List.map_append];rfl
    ·rw[if_neg (fun hh=>htt' hh.1)]
     exact qA0 t ht (.inl (by omega)) (.inr htt')
   ·have hs1:σ+1<n:=by have:=hk.2.2.1 k;have:=h.pr.tr.ln;have:=hS.hn;omega
    have he':=he
    rw[bLC f1 f2 f3 k,Bool.and_eq_true,decide_eq_true_eq,decide_eq_true_eq,Int.toNat_natCast] at he'
    obtain ⟨c1,c2⟩:=hS.cp σ hs1
    have hqB:lX (qB p σ)=true:=(h.pr.qb σ hs1).1.B c1 c2
    have h0:0<(qB p σ).2.length:=he'.2
    have ep:=xZ hqB h0
    obtain ⟨v1,v2⟩:=h.qb σ hs1
    have hd1:=(h.pr.tr.pc (σ+1) (by rw[hS.hn];exact hs1)).2.2
    have hd0:=(h.pr.tr.pc σ (by rw[hS.hn];omega)).2.2
    have v2':=v2
    rw[hd1,hd0] at v2'
    have hm:=bKA (hW.o4 σ hs1) (hW.o7 σ hs1) v2' h0 hc (m:=(aP p (σ:Int)).2) (by rw[<- hi];exact Prod.ext k rfl)
    have hv:(xR (qB p σ)).2.1.2=(W σ).dO (km (nM P σ) (rC p σ).toNat):=by
     rw[<- ep,em]
     show ((qB p σ).2.getD 0 aQ3).2=_
     rw[<- hm]
     have hmem:(qB p σ).2.getD 0 aQ3∈(qB p σ).2:=by rw[aO h0];exact List.getElem_mem h0
     exact v1 _ hmem
    have e1:cZ p (σ:Int)=bB1 (sY p σ) (xR (qB p σ)).2.1.2:=by unfold cZ;rw[if_neg (by omega),if_neg (by omega),if_neg (by omega),if_pos k,eSt,Int.toNat_natCast];rfl
    have e2:iG p (σ:Int)=p.2.2.1:=by unfold iG;rw[if_neg (by omega),if_neg (by omega)]
    have e3:iH p (σ:Int)=p.2.2.2.set σ (xR (qB p σ)).1:=by unfold iH;rw[if_pos k,Int.toNat_natCast];rfl
    rw[e1,e2,e3]
    refine ⟨hsv.s4 hC hM hc (by rw[e6];exact k) hv,fun t ht=>qA0 t ht (.inl (by omega)) (.inl (by omega)),fun t ht=>?_⟩
    rw[lG]
    by_cases htt':σ=t
    ·subst htt'
     rw[if_pos ⟨rfl,by have:=h.pr.lb;omega⟩,if_pos ⟨k,rfl⟩,<- ep]
     refine ⟨fun y hy=>v1 y (List.mem_of_mem_drop hy),?_⟩
     show ((qB p σ).2.drop 1).map (·.1)=_
     rw[List.map_drop]
    ·rw[if_neg (fun hh=>htt' hh.1)]
     exact qB0 t ht (.inr htt') (.inl (by omega))
   ·have e1:cZ p (σ:Int)=xM (sY p σ) (nM P σ)[(rC p σ).toNat].2:=by unfold cZ;rw[if_neg (by omega),if_neg (by omega),if_neg (by omega),if_neg (by omega),if_pos k,eSt,<- hi]
    have e2:iG p (σ:Int)=p.2.2.1:=by unfold iG;rw[if_neg (by omega),if_neg (by omega)]
    have e3:iH p (σ:Int)=p.2.2.2:=by unfold iH;rw[if_neg (by omega),if_neg (by omega)]
    rw[e1,e2,e3]
    exact ⟨hsv.s5 hC hM hst hc (by rw[e6];exact k),fun t ht=>qA0 t ht (.inl (by omega)) (.inl (by omega)),fun t ht=>qB0 t ht (.inl (by omega)) (.inl (by omega))⟩
   ·have e1:cZ p (σ:Int)=if decide (σ=0)=true then aA2 (xQ (sY p σ) (nM P σ)[(rC p σ).toNat].2 (p.1.getD (aP p (σ:Int)).2.toNat (aK aF)).2) [] else xQ (sY p σ) (nM P σ)[(rC p σ).toNat].2 (p.1.getD (aP p (σ:Int)).2.toNat (aK aF)).2:=by
     unfold cZ
     rw[if_neg (by omega),if_neg (by omega),if_neg (by omega),if_neg (by omega),if_neg (by omega),if_pos k,eSt,<- hi]
     by_cases h0:σ=0
     ·rw[if_pos (by omega),if_pos (decide_eq_true h0)]
     ·rw[if_neg (by omega),if_neg (by rw[decide_eq_false h0];decide)]
    have e2:iG p (σ:Int)=p.2.2.1:=by unfold iG;rw[if_neg (by omega),if_neg (by omega)]
    have e3:iH p (σ:Int)=p.2.2.2:=by unfold iH;rw[if_neg (by omega),if_neg (by omega)]
    have h6:=(hst.s6 hC hc (by rw[e6];exact k) httv).1
    rw[e1,e2,e3,h6]
    exact ⟨hsv.s6 hC hM hst hc (by rw[e6];exact k) htt,fun t ht=>qA0 t ht (.inl (by omega)) (.inl (by omega)),fun t ht=>qB0 t ht (.inl (by omega)) (.inl (by omega))⟩
   ·have hs0:=hk.2.2.2.1 k
    obtain ⟨τ,rfl⟩:∃ τ,σ=τ+1:=⟨σ - 1,by omega⟩
    have et:(((τ+1:Nat):Int) - 1).toNat=τ:=by omega
    have he':=he
    rw[bRG f1 f2 f3 k,Bool.and_eq_true,decide_eq_true_eq,et] at he'
    obtain ⟨c1,c2⟩:=hS.cp τ hσ
    have hqB:lX (qB p τ)=true:=(h.pr.qb τ hσ).1.B c1 c2
    have hroom:((qB p τ).2.length:Int)<(qB p τ).1:=by
     have:=he'.2
     unfold aHE at this
     rw[decide_eq_true_eq] at this
     exact this
    have vD:=hst.vD
    rw[if_pos (by rw[e6];exact k)] at vD
    have hb5:=hS.b5
    have ep:=uV (q:=qB p τ) (x:=((aP p ((τ+1:Nat):Int)).2,(sY p (τ+1)).2.2.2.2.2.2.2.2.2.2.1)) hqB ((oT _).2 ⟨((cP _ _).1 vD).1,hmi'.1,by show (aP p ((τ+1:Nat):Int)).2<5;omega⟩) hroom
    obtain ⟨v1,v2⟩:=h.qb τ hσ
    have e1:cZ p ((τ+1:Nat):Int)=aA2 (sY p (τ+1)) []:=by unfold cZ;rw[if_neg (by omega),if_neg (by omega),if_neg (by omega),if_neg (by omega),if_neg (by omega),if_neg (by omega),if_pos k,eSt]
    have e2:iG p ((τ+1:Nat):Int)=p.2.2.1:=by unfold iG;rw[if_neg (by omega),if_neg (by omega)]
    have e3:iH p ((τ+1:Nat):Int)=p.2.2.2.set τ (yY (qB p τ) ((aP p ((τ+1:Nat):Int)).2,(sY p (τ+1)).2.2.2.2.2.2.2.2.2.2.1)).1:=by unfold iH;rw[if_neg (by omega),if_pos k,et,eSt];rfl
    rw[e1,e2,e3]
    refine ⟨hsv.s7 hC hM hc (.inl (by rw[e6];exact k)) (.inl rfl),fun t ht=>qA0 t ht (.inl (by omega)) (.inl (by omega)),fun t ht=>?_⟩
    rw[lG]
    by_cases htt':τ=t
    ·subst htt'
     rw[if_pos ⟨rfl,by have:=h.pr.lb;omega⟩,if_neg (fun hh=>by omega),if_pos ⟨k,rfl⟩,<- ep]
     refine ⟨fun y hy=>?_,?_⟩
     ·have hy':y∈(qB p τ).2++[((aP p ((τ+1:Nat):Int)).2,(sY p (τ+1)).2.2.2.2.2.2.2.2.2.2.1)]:=hy
      rcases List.mem_append.1 hy' with hy'|hy'
      ·exact v1 y hy'
      ·rw[List.mem_singleton] at hy'
       subst hy'
       rw[<- hW.ld τ hσ,<- em]
       exact hsv.vD (by rw[e6];exact k)
     ·show ((qB p τ).2++[((aP p ((τ+1:Nat):Int)).2,(sY p (τ+1)).2.2.2.2.2.2.2.2.2.2.1)]).map (·.1)=_
      rw[List.map_append];rfl
    ·rw[if_neg (fun hh=>htt' hh.1)]
     exact qB0 t ht (.inl (by omega)) (.inr (by omega))
   ·have e1:cZ p (σ:Int)=sY p σ:=by unfold cZ;rw[if_neg (by omega),if_neg (by omega),if_neg (by omega),if_neg (by omega),if_neg (by omega),if_neg (by omega),if_neg (by omega),eSt]
    have e2:iG p (σ:Int)=p.2.2.1:=by unfold iG;rw[if_neg (by omega),if_neg (by omega)]
    have e3:iH p (σ:Int)=p.2.2.2:=by unfold iH;rw[if_neg (by omega),if_neg (by omega)]
    rw[e1,e2,e3]
    exact ⟨hsv.s7 hC hM hc (.inr (by rw[e6];exact k)) (.inr rfl),fun t ht=>qA0 t ht (.inl (by omega)) (.inl (by omega)),fun t ht=>qB0 t ht (.inl (by omega)) (.inl (by omega))⟩
  obtain ⟨k1,k2,k3⟩:=key
  have lenA:∀ t,t+1<n->(rV 1 (nN L ((t+1:Nat):Int))).length<=(rV 3 (nN L (t:Int))).length:=fun t ht=>by have:=(h.pr.qa t ht).2;omega
  have lenB:∀ t,t+1<n->(rV 4 (nN L (t:Int))).length<=(rV 7 (nN L ((t+1:Nat):Int))).length:=fun t ht=>by have:=(h.pr.qb t ht).2;omega
  refine ⟨hpr,fun t ht=>?_,fun t ht=>?_,fun t ht=>?_⟩
  ·rw[estN]
   by_cases htt:σ=t
   ·subst htt;rw[if_pos rfl,hpc];exact k1
   ·rw[if_neg htt,hpo t htt];exact h.st t ht
  ·obtain ⟨a1,a2⟩:=k2 t ht
   unfold qA
   rw[eA]
   refine ⟨a1,?_⟩
   rw[a2,mo,mo,(h.qa t ht).2]
   by_cases c1:(aP p (σ:Int)).1=1/\σ=t+1
   ·rw[if_pos c1,if_neg (show ¬ ((aP p (σ:Int)).1=3/\σ=t) from fun hh=>by omega),if_pos c1,List.append_nil,List.drop_drop,List.length_append,List.length_singleton]
   ·by_cases c3:(aP p (σ:Int)).1=3/\σ=t
    ·rw[if_neg c1,if_pos c3,if_pos c3,if_neg c1,List.append_nil,List.drop_append_of_le_length (lenA t ht)]
    ·rw[if_neg c1,if_neg c3,if_neg c3,if_neg c1,List.append_nil,List.append_nil]
  ·obtain ⟨a1,a2⟩:=k3 t ht
   unfold qB
   rw[eR]
   refine ⟨a1,?_⟩
   rw[a2,mo,mo,(h.qb t ht).2]
   by_cases c1:(aP p (σ:Int)).1=4/\σ=t
   ·rw[if_pos c1,if_neg (show ¬ ((aP p (σ:Int)).1=7/\σ=t+1) from fun hh=>by omega),if_pos c1,List.append_nil,List.drop_drop,List.length_append,List.length_singleton]
   ·by_cases c3:(aP p (σ:Int)).1=7/\σ=t+1
    ·rw[if_neg c1,if_pos c3,if_pos c3,if_neg c1,List.append_nil,List.drop_append_of_le_length (lenB t ht)]
    ·rw[if_neg c1,if_neg c3,if_neg c3,if_neg c1,List.append_nil,List.append_nil]
theorem PrV.run (hS:PSt P n ops redo caps K) (hW:PSw P n ops redo W):(l:List Int)->{p:bI}->{L:List aGK}->PrV redo caps W p L->PrV redo caps W (nY p l) (L++aPT p l)
 | [],p,L,h=>by rw[show aPT p []=[] from rfl,List.append_nil];exact h
 | s :: l,p,L,h=>by
  have h1:=PrV.run hS hW l (h.step hS hW s)
  rw[List.append_assoc] at h1
  exact h1
end
def orK (f:Nat->Bool):Nat->Bool
 | 0=>false
 | k+1=>orK f k || f k
theorem aM8 {f:Nat->Bool}:{k:Nat}->orK f k=true↔∃ i,i<k/\f i=true
 | 0=>⟨fun h=>(by cases h),fun ⟨i,h,_⟩=>absurd h (Nat.not_lt_zero _)⟩
 | k+1=>by
  rw[orK,Bool.or_eq_true,aM8 (k:=k)]
  constructor
  ·rintro (⟨i,h1,h2⟩|h)
   ·exact ⟨i,by omega,h2⟩
   ·exact ⟨k,by omega,h⟩
  ·rintro ⟨i,h1,h2⟩
   rcases Nat.lt_or_eq_of_le (Nat.le_of_lt_succ h1) with h|rfl
   ·exact .inl ⟨i,h,h2⟩
   ·exact .inr h2
theorem aVX (m:List dU) (x:List Int):(k:Nat)->(jD m x k).2=orK (fun j=>(sX (m.getD j nO) (uT m x j)).2) k
 | 0=>rfl
 | k+1=>by
  show ((jD m x k).2 || (sX (m.getD k nO) ((jD m x k).1.getD k [])).2)=_
  rw[aVX m x k,aFB m x k k (Nat.le_refl _)];rfl
def aAC (m:List dU) (a e:Nat):List dU:=List.drop a (List.take e m)
theorem aWC {m:List dU} {a e j:Nat} (h:a+j<e):(aAC m a e).getD j nO=m.getD (a+j) nO:=by
 unfold aAC
 rw[List.getD_eq_getElem?_getD,List.getD_eq_getElem?_getD,List.getElem?_drop,List.getElem?_take,if_pos h]
theorem aW8 {m:List dU} {x:List Int} {a e:Nat}:(j:Nat)->a+j<=e->uT (aAC m a e) (uT m x a) j=uT m x (a+j)
 | 0,_=>rfl
 | j+1,h=>by
  show (sX ((aAC m a e).getD j nO) (uT (aAC m a e) (uT m x a) j)).1=(sX (m.getD (a+j) nO) (uT m x (a+j))).1
  rw[aW8 j (by omega),aWC (by omega)]
def bkF (m:List dU) (x t:List Int):Nat->List Int
 | 0=>(qE fC (uT m x m.length) t).1
 | k+1=>(lR (m.getD (m.length - 1 - k) nO) (uT m x (m.length - 1 - k)) (bkF m x t k)).1
def dlF (m:List dU) (x t:List Int) (j:Nat):List Int:=bkF m x t (m.length - j)
theorem bZ9 {m:List dU} {x t:List Int} {j:Nat} (h:j<m.length):dlF m x t j=(lR (m.getD j nO) (uT m x j) (dlF m x t (j+1))).1:=by
 unfold dlF
 rw[show m.length - j=(m.length - (j+1))+1 by omega]
 show (lR (m.getD (m.length - 1 - (m.length - (j+1))) nO) (uT m x (m.length - 1 - (m.length - (j+1)))) _).1=_
 rw[show m.length - 1 - (m.length - (j+1))=j by omega]
def grF (m:List dU) (x t:List Int) (j:Nat):List Int:=(lR (m.getD j nO) (uT m x j) (dlF m x t (j+1))).2.1
def fbF (m:List dU) (x t:List Int) (j:Nat):Bool:=(lR (m.getD j nO) (uT m x j) (dlF m x t (j+1))).2.2
theorem aZ5 {m:List dU} {x t:List Int} {a e:Nat} (ha:a<=e) (he:e<=m.length) {r:dG} (hr:∀ j,a+j<e->r.getD j []=uT m x (a+j)):(k:Nat)->k<=e - a ->
  (iI (aAC m a e) r (dlF m x t e) (e - a) k).2.1=dlF m x t (e - k)/\(∀ j,e - a - k<=j->j<e - a->((iI (aAC m a e) r (dlF m x t e) (e - a) k).1.getD j [])=grF m x t (a+j)) /\
  ((iI (aAC m a e) r (dlF m x t e) (e - a) k).2.2=true↔∃ j,e - a - k<=j/\j<e - a/\fbF m x t (a+j)=true)
 | 0,_=>⟨rfl,fun j h1 h2=>by omega,⟨fun h=>(by cases h),fun ⟨j,h1,h2,_⟩=>by omega⟩⟩
 | k+1,hk=>by
  have w1:∀ j,e - a - k<=j->e - a - (k+1)<=j:=fun j h=>by omega
  have w2:e - a - (k+1)<=e - a - 1 - k/\e - a - 1 - k<e - a:=by omega
  have w4:∀ j,e - a - (k+1)<=j->¬ e - a - 1 - k=j->e - a - k<=j:=fun j h1 h2=>by omega
  have hj:a+(e - a - 1 - k)<e:=by omega
  have e1:e - k=a+(e - a - 1 - k)+1:=by omega
  have e7:a+(e - a - 1 - k)<m.length:=by omega
  have e8:a+(e - a - 1 - k)=e - (k+1):=by omega
  obtain ⟨i1,i2,i3⟩:=aZ5 ha he hr k (by omega)
  have hl:=rD (aAC m a e) r (dlF m x t e) (e - a) k
  have eo:lR ((aAC m a e).getD (e - a - 1 - k) nO) (r.getD (e - a - 1 - k) []) (iI (aAC m a e) r (dlF m x t e) (e - a) k).2.1=lR (m.getD (a+(e - a - 1 - k)) nO) (uT m x (a+(e - a - 1 - k))) (dlF m x t (a+(e - a - 1 - k)+1)):=by
   rw[aWC hj,hr _ hj,i1,e1]
  refine ⟨?_,fun j h1 h2=>?_,?_⟩
  ·show (lR ((aAC m a e).getD (e - a - 1 - k) nO) (r.getD (e - a - 1 - k) []) (iI (aAC m a e) r (dlF m x t e) (e - a) k).2.1).1=_
   rw[eo,<- bZ9 e7,e8]
  ·show (((iI (aAC m a e) r (dlF m x t e) (e - a) k).1.set (e - a - 1 - k) (lR ((aAC m a e).getD (e - a - 1 - k) nO) (r.getD (e - a - 1 - k) []) (iI (aAC m a e) r (dlF m x t e) (e - a) k).2.1).2.1).getD j [])=_
   rw[lG,eo]
   by_cases hjj:e - a - 1 - k=j
   ·rw[if_pos ⟨hjj,by rw[hl,<- hjj];exact w2.2⟩,<- hjj];rfl
   ·rw[if_neg (fun hh=>hjj hh.1)];exact i2 j (w4 j h1 hjj) h2
  ·show ((iI (aAC m a e) r (dlF m x t e) (e - a) k).2.2 || (lR ((aAC m a e).getD (e - a - 1 - k) nO) (r.getD (e - a - 1 - k) []) (iI (aAC m a e) r (dlF m x t e) (e - a) k).2.1).2.2)=true↔_
   rw[eo,Bool.or_eq_true,i3]
   constructor
   ·rintro (⟨j,h1,h2,h3⟩|h)
    ·exact ⟨j,w1 j h1,h2,h3⟩
    ·exact ⟨e - a - 1 - k,w2.1,w2.2,h⟩
   ·rintro ⟨j,h1,h2,h3⟩
    by_cases hjj:e - a - 1 - k=j
    ·refine .inr ?_
     rw[<- hjj] at h3;exact h3
    ·exact .inl ⟨j,w4 j h1 hjj,h2,h3⟩
def slR (R:dG) (a e:Nat):dG:=List.drop a (List.take e R)
theorem aXE {R:dG} {a e j:Nat} (h:a+j<e):((slR R a e).getD j []:List Int)=R.getD (a+j) []:=by
 unfold slR
 rw[List.getD_eq_getElem?_getD,List.getD_eq_getElem?_getD,List.getElem?_drop,List.getElem?_take,if_pos h]
theorem bFK {R:dG} {a e:Nat} (h:e<=List.length R):List.length (slR R a e)=e - a:=by
 unfold slR;rw[List.length_drop,List.length_take];omega
theorem cB3 (A B:dG) (a e:Nat):slR (eV A B) a e=eV (slR A a e) (slR B a e):=by
 unfold slR eV
 rw[List.take_zipWith,List.drop_zipWith]
theorem cB8 (R:dG) {a e:Nat} (h:a<=e):List.take a R++slR R a e=List.take e R:=by
 unfold slR
 have:=List.take_append_drop a (List.take e R)
 rw[List.take_take,Nat.min_eq_left h] at this
 exact this
theorem bSS {A B:dG} (hl:List.length A=List.length B) (h:∀ j,j<List.length A->(A.getD j []:List Int)=B.getD j []):A=B:=by
 refine List.ext_getElem hl fun i h1 h2=>?_
 have:=h i h1
 rwa [aO h1,aO h2] at this
theorem aRG {A B:dG} (hl:List.length A=List.length B):qM A B=true↔∃ j,j<List.length A/\bBP (A.getD j []) (B.getD j [])=true:=by
 unfold qM
 rw[List.any_eq_true]
 constructor
 ·rintro ⟨y,hy,h⟩
  obtain ⟨j,hj,e⟩:=List.mem_iff_getElem.1 hy
  rw[List.length_zip] at hj
  rw[List.getElem_zip] at e
  refine ⟨j,by omega,?_⟩
  rw[aO (show j<List.length A by omega),aO (show j<List.length B by omega)]
  rw[<- e] at h
  exact h
 ·rintro ⟨j,hj,h⟩
  rw[aO hj,aO (show j<List.length B by omega)] at h
  exact ⟨(A[j],B[j]'(by omega)),List.mem_iff_getElem.2 ⟨j,by rw[List.length_zip];omega,List.getElem_zip⟩,h⟩
theorem bV9 {m:List dU} {p:bA} (hm:bY m=true) (hp:lF m p=true):mH m p=((kH m (jD m p.1 m.length).1 (dlF m p.1 p.2 m.length)).1,(qQ (uT m p.1 m.length) p.2).1,
  (jD m p.1 m.length).2 || (qQ (uT m p.1 m.length) p.2).2 || (qE fC (uT m p.1 m.length) p.2).2 || (kH m (jD m p.1 m.length).1 (dlF m p.1 p.2 m.length)).2.2):=by
 have hp':=hp
 unfold lF at hp'
 rw[Bool.and_eq_true] at hp'
 have e:oX m p.1=jD m p.1 m.length:=by unfold oX;rw[if_pos ⟨hm,hp'.1⟩]
 have e2:(jD m p.1 m.length).1.getD m.length []=uT m p.1 m.length:=aFB m p.1 _ _ (Nat.le_refl _)
 have e3:dlF m p.1 p.2 m.length=(qE fC (uT m p.1 m.length) p.2).1:=by unfold dlF;rw[Nat.sub_self];rfl
 unfold mH
 rw[if_pos ⟨hm,hp⟩,e,e2,e3]
theorem bZC (m:List dU):aAC m 0 m.length=m:=by unfold aAC;rw[List.take_length];rfl
def bdS (c:bB) (s:Nat):Nat:=(aZ c.1 c.2.1 (s:Int)).1.toNat
def beS (c:bB) (s:Nat):Nat:=(aZ c.1 c.2.1 (s:Int)).2.toNat
def xB (b:List bA) (i:Int):List Int:=(b.getD i.toNat (aK aF)).1
def tB (b:List bA) (i:Int):List Int:=(b.getD i.toNat (aK aF)).2
section
variable {c:bB} {b:List bA}
theorem aYF (h:cH c b=0) {s:Nat} (hs:s<(aV c b).2.1.length):bdS c s<beS c s/\beS c s<=List.length c.1:=⟨(wP h hs).2.1,(wP h hs).2.2.1⟩
theorem cC1 (h:cH c b=0):bdS c 0=0:=by
 obtain ⟨a1,a2,a3,a4,a5,a6,a7,a8⟩:=pV h
 unfold bdS
 rw[qD a3 (by omega) (by omega)]
 dsimp only
 rw[if_neg (by omega)];rfl
theorem aVS (h:cH c b=0) {s:Nat} (hs:s+1<(aV c b).2.1.length):bdS c (s+1)=beS c s:=by
 obtain ⟨a1,a2,a3,a4,a5,a6,a7,a8⟩:=pV h
 have hn:=zP h
 unfold bdS beS
 rw[qD a3 (by omega) (by omega),qD a3 (by omega) (by omega)]
 dsimp only
 rw[if_pos (by omega),if_pos (by omega),show (((s+1:Nat):Int) - 1)=(s:Int) by omega]
theorem aS3 (h:cH c b=0) {s:Nat} (hs:s+1=(aV c b).2.1.length):beS c s=List.length c.1:=by
 obtain ⟨a1,a2,a3,a4,a5,a6,a7,a8⟩:=pV h
 have hn:=zP h
 unfold beS
 rw[qD a3 (by omega) (by omega)]
 dsimp only
 rw[if_neg (by omega),Int.toNat_natCast]
theorem aZK (h:cH c b=0) {Q:Nat->Prop}:(∃ j,j<List.length c.1/\Q j)↔∃ s,s<(aV c b).2.1.length/\∃ j,j<beS c s - bdS c s/\Q (bdS c s+j):=by
 have hl:=wM h
 constructor
 ·rintro ⟨j,hj,hq⟩
  have key:∀ k,k<(aV c b).2.1.length->j<beS c k->∃ s,s<(aV c b).2.1.length/\bdS c s<=j/\j<beS c s:=fun k=>by
   induction k with
   | zero=>intro h1 h2;exact ⟨0,h1,by rw[cC1 h];omega,h2⟩
   | succ k ih =>
    intro h1 h2
    by_cases h3:bdS c (k+1)<=j
    ·exact ⟨k+1,h1,h3,h2⟩
    ·rw[aVS h h1] at h3
     exact ih (by omega) (by omega)
  obtain ⟨s,h1,h2,h3⟩:=key ((aV c b).2.1.length - 1) (by omega) (by rw[aS3 h (by omega)];exact hj)
  exact ⟨s,h1,j - bdS c s,by omega,by rw[show bdS c s+(j - bdS c s)=j by omega];exact hq⟩
 ·rintro ⟨s,h1,j,h2,hq⟩
  have:=aYF h h1
  exact ⟨bdS c s+j,by omega,hq⟩
end
def wX (c:bB) (b:List bA) (s:Nat) (i:Int):List Int:=uT c.1 (xB b i) (bdS c s)
def wR (c:bB) (b:List bA) (s:Nat) (i:Int):dG:=(jD (oY c s) (wX c b s i) (oY c s).length).1
def wO (c:bB) (b:List bA) (s:Nat) (i:Int):List Int:=(wR c b s i).getD (oY c s).length []
noncomputable def aH3 (c:bB) (b:List bA) (s:Nat):Bool:=decide (s+1=(aV c b).2.1.length)
noncomputable def wD (c:bB) (b:List bA) (s:Nat) (i:Int):List Int:=if aH3 c b s=true then (qE fC (wO c b s i) (tB b i)).1 else dlF c.1 (xB b i) (tB b i) (beS c s)
noncomputable def wG (c:bB) (b:List bA) (s:Nat) (i:Int):dG:=(kH (oY c s) (wR c b s i) (wD c b s i)).1
noncomputable def wS (c:bB) (b:List bA) (s:Nat):Nat->dG
 | 0=>kJ (oY c s)
 | β+1=>eV (wS c b s β) (wG c b s (β:Int))
noncomputable def wL (c:bB) (b:List bA) (s:Nat):Nat->Int
 | 0=>0
 | φ+1=>if aH3 c b s=true then (gI (wL c b s φ) (qQ (wO c b s (φ:Int)) (tB b (φ:Int))).1).1 else wL c b s φ
noncomputable def wF (c:bB) (b:List bA) (s:Nat) (φ:Nat):Bool:=(jD (oY c s) (wX c b s (φ:Int)) (oY c s).length).2 || (aH3 c b s&&((qQ (wO c b s (φ:Int)) (tB b (φ:Int))).2 || (gI (wL c b s φ) (qQ (wO c b s (φ:Int)) (tB b (φ:Int))).1).2))
noncomputable def wB (c:bB) (b:List bA) (s:Nat) (β:Nat):Bool:=((aH3 c b s&&(qE fC (wO c b s (β:Int)) (tB b (β:Int))).2) || (kH (oY c s) (wR c b s (β:Int)) (wD c b s (β:Int))).2.2) || qM (wS c b s β) (wG c b s (β:Int))
noncomputable def stW (c:bB) (b:List bA) (s:Nat):StW (oY c s) (decide (s=0)) (decide (s+1=(aV c b).2.1.length)) ((aV c b).1.length:Int) where
 xI:=wX c b s
 xO:=wO c b s
 dO:=wD c b s
 dI:=fun i=>(kH (oY c s) (wR c b s i) (wD c b s i)).2.1
 rows:=wR c b s
 gr:=wG c b s
 t:=tB b
 RS:=wS c b s
 LS:=wL c b s
 FA:=orK (wF c b s)
 BA:=orK (wB c b s)
 f1:=fun i _ _=>⟨rfl,rfl⟩
 b1:=fun i _ _=>⟨rfl,rfl⟩
 d1:=fun hl i _ _=>by unfold wD aH3;rw[if_pos hl]
 r1:=fun β _=>rfl
 l1:=fun hl φ _=>by rw[wL];unfold aH3;rw[if_pos hl]
 l0:=fun hl φ=>by rw[wL];unfold aH3;rw[if_neg (by rw[hl];decide)]
 lf:=fun φ=>by
  induction φ with
  | zero=>show mK 0=true;decide
  | succ φ ih =>
   rw[wL]
   split
   ·exact aFI _
   ·exact ih
 fa:=fun φ _=>rfl
 ba:=fun β _=>rfl
section
variable {c:bB} {b:List bA}
theorem bZV (h:cH c b=0) {s:Nat} (hs:s<(aV c b).2.1.length) (i:Int) {j:Nat} (hj:bdS c s+j<=beS c s):(wR c b s i).getD j []=uT c.1 (xB b i) (bdS c s+j):=by
 have hb:=aYF h hs
 have hl:=(wP h hs).2.2.2.2.1
 have hl':(oY c s).length=beS c s - bdS c s:=hl
 unfold wR
 rw[aFB _ _ _ j (by omega)]
 exact aW8 (m:=c.1) (x:=xB b i) (a:=bdS c s) (e:=beS c s) j hj
theorem w_O (h:cH c b=0) {s:Nat} (hs:s<(aV c b).2.1.length) (i:Int):wO c b s i=uT c.1 (xB b i) (beS c s):=by
 have hb:=aYF h hs
 have hl:(oY c s).length=beS c s - bdS c s:=(wP h hs).2.2.2.2.1
 unfold wO
 rw[bZV h hs i (by omega),show bdS c s+(oY c s).length=beS c s by omega]
theorem w_D (h:cH c b=0) {s:Nat} (hs:s<(aV c b).2.1.length) (i:Int):wD c b s i=dlF c.1 (xB b i) (tB b i) (beS c s):=by
 unfold wD aH3
 split
 ·rename_i hl
  rw[decide_eq_true_eq] at hl
  rw[w_O h hs,aS3 h hl]
  unfold dlF
  rw[Nat.sub_self];rfl
 ·rfl
theorem bG8 (h:cH c b=0) {s:Nat} (hs:s<(aV c b).2.1.length) (i:Int):(kH (oY c s) (wR c b s i) (wD c b s i)).2.1=dlF c.1 (xB b i) (tB b i) (bdS c s)/\(∀ j,j<beS c s - bdS c s->(wG c b s i).getD j []=grF c.1 (xB b i) (tB b i) (bdS c s+j)) /\
  ((kH (oY c s) (wR c b s i) (wD c b s i)).2.2=true↔∃ j,j<beS c s - bdS c s/\fbF c.1 (xB b i) (tB b i) (bdS c s+j)=true):=by
 have hb:=aYF h hs
 have hl:(oY c s).length=beS c s - bdS c s:=(wP h hs).2.2.2.2.1
 obtain ⟨k1,k2,k3⟩:=aZ5 (m:=c.1) (x:=xB b i) (t:=tB b i) (a:=bdS c s) (e:=beS c s) (by omega) hb.2 (r:=wR c b s i) (fun j hj=>bZV h hs i (by omega)) (beS c s - bdS c s) (Nat.le_refl _)
 have e:kH (oY c s) (wR c b s i) (wD c b s i)=iI (aAC c.1 (bdS c s) (beS c s)) (wR c b s i) (dlF c.1 (xB b i) (tB b i) (beS c s)) (beS c s - bdS c s) (beS c s - bdS c s):=by
  unfold kH
  rw[hl,w_D h hs];rfl
 unfold wG
 rw[e]
 refine ⟨by rw[k1,show beS c s - (beS c s - bdS c s)=bdS c s from Nat.sub_sub_self (Nat.le_of_lt hb.1)],fun j hj=>k2 j (by rw[Nat.sub_self];exact Nat.zero_le _) hj,k3.trans ⟨fun ⟨j,_,h2,h3⟩=>⟨j,h2,h3⟩,fun ⟨j,h2,h3⟩=>⟨j,by rw[Nat.sub_self];exact Nat.zero_le _,h2,h3⟩⟩⟩
theorem bLD (m:List dU) (x t:List Int):(∀ j,j<m.length->((kH m (jD m x m.length).1 (dlF m x t m.length)).1.getD j [])=grF m x t j)/\((kH m (jD m x m.length).1 (dlF m x t m.length)).2.2=true↔∃ j,j<m.length/\fbF m x t j=true):=by
 obtain ⟨k1,k2,k3⟩:=aZ5 (m:=m) (x:=x) (t:=t) (a:=0) (e:=m.length) (Nat.zero_le _) (Nat.le_refl _) (r:=(jD m x m.length).1) (fun j hj=>by rw[Nat.zero_add];exact aFB m x _ j (by omega)) (m.length - 0) (Nat.le_refl _)
 have e:kH m (jD m x m.length).1 (dlF m x t m.length)=iI (aAC m 0 m.length) (jD m x m.length).1 (dlF m x t m.length) (m.length - 0) (m.length - 0):=by
  unfold kH;rw[bZC,Nat.sub_zero]
 rw[e]
 refine ⟨fun j hj=>by have:=k2 j (by omega) (by omega);rwa [Nat.zero_add] at this,k3.trans ⟨fun ⟨j,_,h2,h3⟩=>⟨j,by omega,by rwa [Nat.zero_add] at h3⟩,fun ⟨j,h2,h3⟩=>⟨j,by omega,by omega,by rwa [Nat.zero_add]⟩⟩⟩
theorem bXJ (h:cH c b=0) {i:Nat} (hi:i<b.length):lF c.1 (b.getD i (aK aF))=true:=by
 have hb:=((vC _ _).1 (pV h).2.1).2.2
 rw[aO hi]
 exact List.all_eq_true.1 hb _ (List.getElem_mem hi)
theorem mic (h:cH c b=0) {i:Nat} (hi:i<b.length):mH c.1 (b.getD i (aK aF))=((kH c.1 (jD c.1 (xB b (i:Int)) c.1.length).1 (dlF c.1 (xB b (i:Int)) (tB b (i:Int)) c.1.length)).1,(qQ (uT c.1 (xB b (i:Int)) c.1.length) (tB b (i:Int))).1,
  (jD c.1 (xB b (i:Int)) c.1.length).2 || (qQ (uT c.1 (xB b (i:Int)) c.1.length) (tB b (i:Int))).2 || (qE fC (uT c.1 (xB b (i:Int)) c.1.length) (tB b (i:Int))).2 || (kH c.1 (jD c.1 (xB b (i:Int)) c.1.length).1 (dlF c.1 (xB b (i:Int)) (tB b (i:Int)) c.1.length)).2.2):=by
 rw[bV9 (pV h).1 (bXJ h hi)]
 unfold xB tB
 rw[Int.toNat_natCast]
theorem w_G (h:cH c b=0) {s:Nat} (hs:s<(aV c b).2.1.length) {i:Nat} (hi:i<b.length):wG c b s (i:Int)=slR (mH c.1 (b.getD i (aK aF))).1 (bdS c s) (beS c s):=by
 have hb:=aYF h hs
 have hl:(oY c s).length=beS c s - bdS c s:=(wP h hs).2.2.2.2.1
 have hm:List.length (mH c.1 (b.getD i (aK aF))).1=List.length c.1:=by rw[mic h hi];exact rD _ _ _ _ _
 have hg:List.length (wG c b s (i:Int))=beS c s - bdS c s:=by rw[<- hl];exact rD _ _ _ _ _
 refine bSS (by rw[hg,bFK (by omega)]) fun j hj=>?_
 rw[(bG8 h hs (i:Int)).2.1 j (by omega),aXE (by omega),mic h hi]
 exact ((bLD c.1 (xB b (i:Int)) (tB b (i:Int))).1 _ (by omega)).symm
theorem bQ1 (h:cH c b=0):aA0 c.1 b 0=(kJ c.1,0,false):=by
 show yQ c.1=_
 unfold yQ;rw[if_pos (pV h).1]
theorem w_S (h:cH c b=0) {s:Nat} (hs:s<(aV c b).2.1.length):(β:Nat)->β<=b.length->wS c b s β=slR (aA0 c.1 b β).1 (bdS c s) (beS c s)
 | 0,_=>by
  rw[bQ1 h]
  show kJ (List.drop (bdS c s) (List.take (beS c s) c.1))=List.drop (bdS c s) (List.take (beS c s) (kJ c.1))
  unfold kJ
  rw[List.map_drop,List.map_take]
 | β+1,hβ=>by
  show eV (wS c b s β) (wG c b s (β:Int))=slR (eV (aA0 c.1 b β).1 (mH c.1 (b.getD β (aK aF))).1) _ _
  rw[w_S h hs β (by omega),w_G h hs (by omega),cB3]
theorem w_L (h:cH c b=0) {s:Nat} (hs:s+1=(aV c b).2.1.length):(φ:Nat)->φ<=b.length->wL c b s φ=(aA0 c.1 b φ).2.1
 | 0,_=>by rw[bQ1 h];rfl
 | φ+1,hφ=>by
  have e:wO c b s (φ:Int)=uT c.1 (xB b (φ:Int)) c.1.length:=by rw[w_O h (by omega),aS3 h hs]
  rw[wL,if_pos (by unfold aH3;exact decide_eq_true hs),w_L h hs φ (by omega),e]
  show _=(gI (aA0 c.1 b φ).2.1 (mH c.1 (b.getD φ (aK aF))).2.1).1
  rw[mic h (by omega)]
theorem bH3 (h:cH c b=0):(β:Nat)->β<=b.length->List.length (aA0 c.1 b β).1=List.length c.1
 | 0,_=>by rw[bQ1 h];exact rE _
 | β+1,hβ=>by
  show List.length (eV (aA0 c.1 b β).1 (mH c.1 (b.getD β (aK aF))).1)=_
  have hm:List.length (mH c.1 (b.getD β (aK aF))).1=List.length c.1:=by rw[mic h (by omega)];exact rD _ _ _ _ _
  rw[nB,bH3 h β (by omega),hm,Nat.min_self]
theorem bOE (h:cH c b=0):(β:Nat)->β<=b.length->((aA0 c.1 b β).2.2=true↔∃ i,i<β/\((mH c.1 (b.getD i (aK aF))).2.2=true\/qM (aA0 c.1 b i).1 (mH c.1 (b.getD i (aK aF))).1=true\/(gI (aA0 c.1 b i).2.1 (mH c.1 (b.getD i (aK aF))).2.1).2=true))
 | 0,_=>by rw[bQ1 h];exact ⟨fun h=>(by cases h),fun ⟨i,h,_⟩=>absurd h (Nat.not_lt_zero _)⟩
 | β+1,hβ=>by
  have ih:=bOE h β (by omega)
  show ((aA0 c.1 b β).2.2 || (mH c.1 (b.getD β (aK aF))).2.2 || qM (aA0 c.1 b β).1 (mH c.1 (b.getD β (aK aF))).1 || (gI (aA0 c.1 b β).2.1 (mH c.1 (b.getD β (aK aF))).2.1).2)=true↔_
  rw[Bool.or_eq_true,Bool.or_eq_true,Bool.or_eq_true,ih]
  constructor
  ·rintro (((⟨i,h1,h2⟩|h1)|h1)|h1)
   ·exact ⟨i,by omega,h2⟩
   ·exact ⟨β,by omega,.inl h1⟩
   ·exact ⟨β,by omega,.inr (.inl h1)⟩
   ·exact ⟨β,by omega,.inr (.inr h1)⟩
  ·rintro ⟨i,h1,h2⟩
   rcases Nat.lt_or_eq_of_le (Nat.le_of_lt_succ h1) with h3|rfl
   ·exact .inl (.inl (.inl ⟨i,h3,h2⟩))
   ·rcases h2 with h2|h2|h2
    ·exact .inl (.inl (.inr h2))
    ·exact .inl (.inr h2)
    ·exact .inr h2
theorem bTZ (h:cH c b=0) {i:Nat} (hi:i<b.length):((mH c.1 (b.getD i (aK aF))).2.2=true\/qM (aA0 c.1 b i).1 (mH c.1 (b.getD i (aK aF))).1=true\/(gI (aA0 c.1 b i).2.1 (mH c.1 (b.getD i (aK aF))).2.1).2=true) ↔
  ∃ s,s<(aV c b).2.1.length/\(wF c b s i=true\/wB c b s i=true):=by
 have hpl:=wM h
 have hmr:=mic h hi
 have hml:List.length (mH c.1 (b.getD i (aK aF))).1=List.length c.1:=by rw[hmr];exact rD _ _ _ _ _
 have hsl:=bH3 h i (by omega)
 have hnl:(aV c b).2.1.length - 1+1=(aV c b).2.1.length:=by omega
 have F1:(jD c.1 (xB b (i:Int)) c.1.length).2=true↔∃ s,s<(aV c b).2.1.length/\(jD (oY c s) (wX c b s (i:Int)) (oY c s).length).2=true:=by
  rw[aVX,aM8,aZK h]
  refine ⟨fun ⟨s,hs,j,hj,e⟩=>⟨s,hs,?_⟩,fun ⟨s,hs,e⟩=>⟨s,hs,?_⟩⟩
  ·have hl:(oY c s).length=beS c s - bdS c s:=(wP h hs).2.2.2.2.1
   rw[aVX,aM8]
   refine ⟨j,by omega,?_⟩
   have e1:=aWC (m:=c.1) (a:=bdS c s) (e:=beS c s) (j:=j) (by omega)
   have e2:=aW8 (m:=c.1) (x:=xB b (i:Int)) (a:=bdS c s) (e:=beS c s) j (by omega)
   show (sX ((aAC c.1 (bdS c s) (beS c s)).getD j nO) (uT (aAC c.1 (bdS c s) (beS c s)) (uT c.1 (xB b (i:Int)) (bdS c s)) j)).2=true
   rw[e1,e2];exact e
  ·have hl:(oY c s).length=beS c s - bdS c s:=(wP h hs).2.2.2.2.1
   rw[aVX,aM8] at e
   obtain ⟨j,hj,e⟩:=e
   refine ⟨j,by omega,?_⟩
   have e1:=aWC (m:=c.1) (a:=bdS c s) (e:=beS c s) (j:=j) (by omega)
   have e2:=aW8 (m:=c.1) (x:=xB b (i:Int)) (a:=bdS c s) (e:=beS c s) j (by omega)
   have e':(sX ((aAC c.1 (bdS c s) (beS c s)).getD j nO) (uT (aAC c.1 (bdS c s) (beS c s)) (uT c.1 (xB b (i:Int)) (bdS c s)) j)).2=true:=e
   rw[e1,e2] at e';exact e'
 have F2:(kH c.1 (jD c.1 (xB b (i:Int)) c.1.length).1 (dlF c.1 (xB b (i:Int)) (tB b (i:Int)) c.1.length)).2.2=true↔∃ s,s<(aV c b).2.1.length/\(kH (oY c s) (wR c b s (i:Int)) (wD c b s (i:Int))).2.2=true:=by
  rw[(bLD c.1 (xB b (i:Int)) (tB b (i:Int))).2,aZK h]
  exact ⟨fun ⟨s,hs,e⟩=>⟨s,hs,(bG8 h hs (i:Int)).2.2.2 e⟩,fun ⟨s,hs,e⟩=>⟨s,hs,(bG8 h hs (i:Int)).2.2.1 e⟩⟩
 have F3:qM (aA0 c.1 b i).1 (mH c.1 (b.getD i (aK aF))).1=true↔∃ s,s<(aV c b).2.1.length/\qM (wS c b s i) (wG c b s (i:Int))=true:=by
  rw[aRG (by omega),hsl,aZK h]
  have aux:∀ s,s<(aV c b).2.1.length->((∃ j,j<beS c s - bdS c s/\bBP ((aA0 c.1 b i).1.getD (bdS c s+j) []) ((mH c.1 (b.getD i (aK aF))).1.getD (bdS c s+j) [])=true)↔qM (wS c b s i) (wG c b s (i:Int))=true):=fun s hs=>by
   have hb:=aYF h hs
   rw[w_S h hs i (by omega),w_G h hs hi,aRG (by rw[bFK (by omega),bFK (by omega)]),bFK (by omega)]
   refine ⟨fun ⟨j,hj,e⟩=>⟨j,hj,by rw[aXE (by omega),aXE (by omega)];exact e⟩,fun ⟨j,hj,e⟩=>⟨j,hj,by rw[aXE (by omega),aXE (by omega)] at e;exact e⟩⟩
  exact ⟨fun ⟨s,hs,e⟩=>⟨s,hs,(aux s hs).1 e⟩,fun ⟨s,hs,e⟩=>⟨s,hs,(aux s hs).2 e⟩⟩
 have eO:wO c b ((aV c b).2.1.length - 1) (i:Int)=uT c.1 (xB b (i:Int)) c.1.length:=by rw[w_O h (by omega),aS3 h hnl]
 have eL:=w_L h hnl i (by omega)
 have eLast:aH3 c b ((aV c b).2.1.length - 1)=true:=by unfold aH3;exact decide_eq_true hnl
 have only:∀ s,aH3 c b s=true->s=(aV c b).2.1.length - 1:=fun s hs=>by unfold aH3 at hs;rw[decide_eq_true_eq] at hs;omega
 rw[F3,hmr]
 dsimp only
 rw[Bool.or_eq_true,Bool.or_eq_true,Bool.or_eq_true,F1,F2]
 unfold wF wB
 constructor
 ·rintro ((((⟨s,hs,e⟩|e)|e)|⟨s,hs,e⟩)|⟨s,hs,e⟩|e)
  ·exact ⟨s,hs,.inl (by rw[e];rfl)⟩
  ·exact ⟨(aV c b).2.1.length - 1,by omega,.inl (by rw[eLast,eO,e];simp)⟩
  ·exact ⟨(aV c b).2.1.length - 1,by omega,.inr (by rw[eLast,eO,e];rfl)⟩
  ·exact ⟨s,hs,.inr (by rw[e];simp)⟩
  ·exact ⟨s,hs,.inr (by rw[e];simp)⟩
  ·exact ⟨(aV c b).2.1.length - 1,by omega,.inl (by rw[eLast,eO,eL,e];simp)⟩
 ·rintro ⟨s,hs,e|e⟩
  ·rw[Bool.or_eq_true,Bool.and_eq_true,Bool.or_eq_true] at e
   rcases e with e|⟨e1,e|e⟩
   ·exact .inl (.inl (.inl (.inl ⟨s,hs,e⟩)))
   ·rw[only s e1,eO] at e
    exact .inl (.inl (.inl (.inr e)))
   ·rw[only s e1,eO,eL] at e
    exact .inr (.inr e)
  ·rw[Bool.or_eq_true,Bool.or_eq_true,Bool.and_eq_true] at e
   rcases e with (⟨e1,e⟩|e)|e
   ·rw[only s e1,eO] at e
    exact .inl (.inl (.inr e))
   ·exact .inl (.inr ⟨s,hs,e⟩)
   ·exact .inr (.inl ⟨s,hs,e⟩)
end
def MX (first last redo:Bool) (a b:eZ):Prop:=((b.1=2/\first=false)\/b.1=3\/((b.1=5\/b.1=6)/\last=false)\/(b.1=6/\redo=true)\/b.1=7)->b.2=a.2
instance (first last redo:Bool) (a b:eZ):Decidable (MX first last redo a b):=by unfold MX;infer_instance
def bIB (first last redo:Bool):List eZ->Bool
 | []=>true
 | i :: l=>decide (MX first last redo i (l.getD 0 (0,0)))&&bIB first last redo l
theorem aH9 {first last redo:Bool}:(l:List eZ)->bIB first last redo l=true->∀ k,k<l.length->MX first last redo (l.getD k (0,0)) (l.getD (k+1) (0,0))
 | [],_,k,hk=>absurd hk (Nat.not_lt_zero _)
 | i :: l,h,k,hk=>by
  rw[bIB,Bool.and_eq_true,decide_eq_true_eq] at h
  cases k with
  | zero=>exact h.1
  | succ k=>exact aH9 l h.2 k (by simpa using hk)
theorem cAK {first last redo:Bool} {mi:Int} {pl:List eZ} (h:bIB first last redo pl=true) (h2:rV 2 pl=nL mi) (h6:rV 6 pl=nL mi):PlM first last redo mi pl :=
 ⟨fun k hk a b=>aH9 pl h k hk (.inl ⟨a,b⟩),fun k hk a=>aH9 pl h k hk (.inr (.inl a)),fun k hk a b=>aH9 pl h k hk (.inr (.inr (.inl ⟨a,b⟩))),fun k hk a b=>aH9 pl h k hk (.inr (.inr (.inr (.inl ⟨a,b⟩)))),fun k hk a=>aH9 pl h k hk (.inr (.inr (.inr (.inr a)))),h2,h6⟩
def cBM (ds n s mi:Int) (r:Bool):Bool :=
 bIB (decide (s=0)) (decide (s+1=n)) r (rZ ds n s mi r)&&(decide (rV 2 (rZ ds n s mi r)=nL mi)&&decide (rV 6 (rZ ds n s mi r)=nL mi))
theorem bVA:(([1,2]:List Int).all fun ds=>([1,2,3,4]:List Int).all fun n=>([0,1,2,3]:List Int).all fun s=>([1,2,3,4,5]:List Int).all fun mi=>[true,false].all fun r=>decide (n<=s) || cBM ds n s mi r)=true:=by kernel_rfl
theorem bYW {ds n s mi:Int} (r:Bool) (hd:ds=1\/ds=2) (hn:1<=n/\n<=4) (hs:0<=s/\s<n) (hm:1<=mi/\mi<=5):cBM ds n s mi r=true:=by
 have h:=bVA
 simp only[List.all_eq_true] at h
 have:=h ds (by simp;omega) n (by simp;omega) s (by simp;omega) mi (by simp;omega) r (by cases r <;> simp)
 rw[decide_eq_false (show ¬ n<=s by omega),Bool.false_or] at this
 exact this
section
variable {c:bB} {b:List bA}
theorem bPI (h:cH c b=0):(aV c b).1=b:=by rw[<- zT h]
theorem bSO (h:cH c b=0):PSw (aV c b) (aV c b).2.1.length (oY c) (fun s=>c.2.2.2.1.getD s false) (stW c b):=by
 obtain ⟨a1,a2,a3,a4,a5,a6,a7,a8⟩:=pV h
 have hn:=zP h
 have hb:=((vC _ _).1 a2).2.1
 have eb:=bPI h
 have hT:=bJH h
 refine ⟨fun s hs=>?_,fun s hs i=>?_,fun s hs i=>?_,fun i h0 h1=>?_,fun s hs i h0 h1=>?_,hT.o1,hT.o3,hT.o4,hT.o7⟩
 ·have hc:=bYW (c.2.2.2.1.getD s false) (bJ3 h) ⟨by omega,a5⟩ (s:=(s:Int)) ⟨by omega,by omega⟩ (mi:=(b.length:Int)) ⟨by omega,by omega⟩
  unfold cBM at hc
  rw[Bool.and_eq_true,Bool.and_eq_true,decide_eq_true_eq,decide_eq_true_eq] at hc
  rw[(aB2 h hs).1,eb]
  have e1:decide ((s:Int)=0)=decide (s=0):=by rw[decide_eq_decide];omega
  have e2:decide ((s:Int)+1=bP c.1 c.2.1)=decide (s+1=(aV c b).2.1.length):=by rw[decide_eq_decide];omega
  rw[e1,e2] at hc
  exact cAK hc.1 hc.2.1 hc.2.2
 ·show wO c b s i=wX c b (s+1) i
  rw[w_O h (by omega)];unfold wX;rw[aVS h hs]
 ·show (kH (oY c (s+1)) (wR c b (s+1) i) (wD c b (s+1) i)).2.1=wD c b s i
  rw[(bG8 h hs i).1,w_D h (by omega),aVS h hs]
 ·show _=wX c b 0 i
  unfold wX
  rw[cC1 h,eb];rfl
 ·show _=tB b i
  rw[eb];rfl
theorem bVF (h:cH c b=0):PrV (fun s=>c.2.2.2.1.getD s false) (fun s=>c.2.2.2.2.1.getD s 0) (stW c b) (aV c b) []:=by
 have hI:=aGZ h
 have hS:=zO h
 have hp0:=fun s hs=>(aB2 h (s:=s) hs).2
 refine ⟨hI,fun s hs=>?_,fun s hs=>?_,fun s hs=>?_⟩
 ·rw[hp0 s hs]
  show StV _ _ _ 0 _
  obtain ⟨n1,n2,n3,n4,n5⟩:=(hS.plc s hs).n0
  obtain ⟨h1,h2,h3,h4,h5,h6⟩:=wP h hs
  have hn:=zP h
  have hs2:s<(bP c.1 c.2.1).toNat:=by omega
  have est:sY (aV c b) s=(0,rZ c.2.2.1 (bP c.1 c.2.1) (s:Int) (b.length:Int) (c.2.2.2.1.getD s false),oY c s,((s:Int)==bP c.1 c.2.1 - 1),c.2.2.2.1.getD s false,[],[],[],[],[],[],yQ (oY c s)):=by
   unfold sY
   rw[<- zT h]
   dsimp only
   rw[tJ _ _ _ hs2]
   unfold aDX aIZ
   have h4':bY (List.drop (aZ c.1 c.2.1 (s:Int)).1.toNat (List.take (aZ c.1 c.2.1 (s:Int)).2.toNat c.1))=true:=h4
   rw[if_pos h4',Int.toNat_natCast]
   rfl
  have hz:yQ (oY c s)=(kJ (oY c s),0,false):=by unfold yQ;rw[if_pos h4]
  rw[est,hz]
  exact ⟨fun a b=>absurd (n1.1 ⟨a,b⟩) (by decide),fun a=>absurd (n2.1 a).1 (by decide),fun a b=>(n3.1 ⟨a,b⟩).elim (fun hh=>absurd hh (by decide)) (fun hh=>absurd hh.1 (by decide)),fun a=>absurd (n5.1 a).1 (by decide),fun a b=>absurd (n4.1 ⟨a,b⟩) (by decide),fun y hy=>(by cases hy),rfl,rfl,rfl⟩
 ·have q:=(hI.qa s hs).2
  have e:(qA (aV c b) s).2=[]:=by
   refine List.eq_nil_of_length_eq_zero ?_
   have:(rV 3 (nN [] (s:Int))).length=0:=rfl
   omega
  rw[e]
  exact ⟨fun y hy=>(by cases hy),rfl⟩
 ·have q:=(hI.qb s hs).2
  have e:(qB (aV c b) s).2=[]:=by
   refine List.eq_nil_of_length_eq_zero ?_
   have:(rV 7 (nN [] ((s+1:Nat):Int))).length=0:=rfl
   omega
  rw[e]
  exact ⟨fun y hy=>(by cases hy),rfl⟩
theorem cBY (s:Nat):(stW c b s).RS=wS c b s:=rfl
theorem cBC (s:Nat):(stW c b s).LS=wL c b s:=rfl
theorem cAT (s:Nat):(stW c b s).FA=orK (wF c b s):=rfl
theorem cAE (s:Nat):(stW c b s).BA=orK (wB c b s):=rfl
theorem bWT (h:cH c b=0) {s:Nat} (hs:s<(aV c b).2.1.length) :
  (sY (zX c b) s).2.2.2.2.2.2.2.2.2.2.2.1=slR (aA0 c.1 b b.length).1 (bdS c s) (beS c s)/\(sY (zX c b) s).2.2.2.2.2.2.2.2.2.2.2.2.1=wL c b s b.length /\
  ((sY (zX c b) s).2.2.2.2.2.2.2.2.2.2.2.2.2=true↔∃ i,i<b.length/\(wF c b s i=true\/wB c b s i=true)):=by
 have hS:=zO h
 have hW:=bSO h
 have eb:=bPI h
 have hV:=(bVF h).run hS hW (zY (aV c b).2.1.length ((aV c b).2.1.length * aGR c b))
 have hv:StV (stW c b s) (c.2.2.2.1.getD s false) (nM (aV c b) s) (rC (zX c b) s).toNat (sY (zX c b) s):=hV.st s hs
 have hpc:=bZO hV.pr.tr (aHB h) hs
 have ek:(rC (zX c b) s).toNat=(nM (aV c b) s).length:=by
  have:rC (zX c b) s=((nM (aV c b) s).length:Int):=hpc
  omega
 have hM:=hW.pm s hs
 have c6:cn 6 (nM (aV c b) s) (nM (aV c b) s).length=b.length:=by
  unfold cn
  rw[List.take_length,hM.o6,bJ4,eb];omega
 have c2:cn 2 (nM (aV c b) s) (nM (aV c b) s).length=b.length:=by
  unfold cn
  rw[List.take_length,hM.o2,bJ4,eb];omega
 rw[ek] at hv
 have vR:=hv.vR
 have vL:=hv.vL
 have vA:=hv.vA
 rw[c6,cBY] at vR
 rw[c2,cBC] at vL
 rw[c2,c6,cAT,cAE] at vA
 refine ⟨by rw[vR,w_S h hs b.length (Nat.le_refl _)],vL,?_⟩
 rw[vA,Bool.or_eq_true,aM8,aM8]
 constructor
 ·rintro (⟨i,h1,h2⟩|⟨i,h1,h2⟩)
  ·exact ⟨i,h1,.inl h2⟩
  ·exact ⟨i,h1,.inr h2⟩
 ·rintro ⟨i,h1,h2|h2⟩
  ·exact .inl ⟨i,h1,h2⟩
  ·exact .inr ⟨i,h1,h2⟩
theorem cAQ (p:bI):xS p 0=([],0,false):=rfl
theorem bVB (p:bI) (k:Nat):(xS p (k+1)).1=(xS p k).1++(sY p k).2.2.2.2.2.2.2.2.2.2.2.1:=rfl
theorem bWB (p:bI) (k:Nat):(xS p (k+1)).2.1=(sY p k).2.2.2.2.2.2.2.2.2.2.2.2.1:=rfl
theorem bU1 (p:bI) (k:Nat):(xS p (k+1)).2.2=((xS p k).2.2 || (sY p k).2.2.2.2.2.2.2.2.2.2.2.2.2):=rfl
theorem cAY (h:cH c b=0):(k:Nat)->k<(aV c b).2.1.length->(xS (zX c b) (k+1)).1=List.take (beS c k) (aA0 c.1 b b.length).1/\(xS (zX c b) (k+1)).2.1=wL c b k b.length /\
  ((xS (zX c b) (k+1)).2.2=true↔∃ s,s<k+1/\∃ i,i<b.length/\(wF c b s i=true\/wB c b s i=true)):=fun k=>by
 induction k with
 | zero =>
  intro hk
  obtain ⟨e1,e2,e3⟩:=bWT h hk
  have b0:=cC1 h
  rw[bVB,bWB,bU1,cAQ,e1,e2,b0]
  refine ⟨?_,rfl,?_⟩
  ·rw[List.nil_append];unfold slR;rw[List.drop_zero]
  ·rw[Bool.false_or,e3]
   constructor
   ·intro hh;exact ⟨0,Nat.zero_lt_one,hh⟩
   ·rintro ⟨s,h1,h2⟩
    have hs:s=0:=by omega
    rw[hs] at h2;exact h2
 | succ k ih =>
  intro hk
  obtain ⟨e1,e2,e3⟩:=bWT h hk
  obtain ⟨i1,i2,i3⟩:=ih (by omega)
  have b1:=aVS h hk
  have b2:=(aYF h hk).1
  rw[bVB,bWB,bU1,i1,e1,e2,b1]
  rw[b1] at b2
  refine ⟨cB8 _ (Nat.le_of_lt b2),rfl,?_⟩
  rw[Bool.or_eq_true,i3,e3]
  constructor
  ·rintro (⟨s,h1,h2⟩|h2)
   ·exact ⟨s,by omega,h2⟩
   ·exact ⟨k+1,by omega,h2⟩
  ·rintro ⟨s,h1,h2⟩
   rcases Nat.lt_or_eq_of_le (Nat.le_of_lt_succ h1) with h3|rfl
   ·exact .inl ⟨s,h3,h2⟩
   ·exact .inr h2
theorem bYN (h:cH c b=0):(zX c b).2.1.length=(aV c b).2.1.length:=by
 have hI:=(aGZ h).run (zO h) (zY (aV c b).2.1.length ((aV c b).2.1.length * aGR c b))
 exact hI.tr.ln
theorem bIA (h:cH c b=0):jG c b=(aM0 c.1 b,0):=by
 obtain ⟨a1,a2,a3,a4,a5,a6,a7,a8⟩:=pV h
 have hl:=wM h
 have hln:=bYN h
 have hd:aLH (zX c b)=true:=by
  unfold aLH
  rw[aHB h,hln,decide_eq_true (show 0<(aV c b).2.1.length by omega)];rfl
 obtain ⟨k,ek⟩:∃ k,(aV c b).2.1.length=k+1:=⟨(aV c b).2.1.length - 1,by omega⟩
 obtain ⟨i1,i2,i3⟩:=cAY h k (by omega)
 unfold jG aP9 aM0
 rw[if_pos h,if_pos hd,if_pos a2,hln,ek]
 have hq:=bH3 h b.length (Nat.le_refl _)
 refine Prod.ext (Prod.ext ?_ (Prod.ext ?_ ?_)) rfl
 ·show (xS (zX c b) (k+1)).1=_
  rw[i1,aS3 h (by omega),<- hq,List.take_length]
 ·show (xS (zX c b) (k+1)).2.1=_
  rw[i2,w_L h (by omega) b.length (Nat.le_refl _)]
 ·show (xS (zX c b) (k+1)).2.2=_
  rw[Bool.eq_iff_iff,i3,bOE h b.length (Nat.le_refl _)]
  constructor
  ·rintro ⟨s,h1,i,h2,h3⟩
   exact ⟨i,h2,(bTZ h h2).2 ⟨s,by omega,h3⟩⟩
  ·rintro ⟨i,h2,h3⟩
   obtain ⟨s,h1,h4⟩:=(bTZ h h2).1 h3
   exact ⟨s,by omega,i,h2,h4⟩
end
set_option maxRecDepth 100000
def aKL (r:Int) (p g:List Int) (n:Nat):List Int:=mp n fun k=>(fC (p.getD k 0) (gO r (g.getD k 0)).1).1
def aSC (r:Int) (p g:List Int) (n:Nat):Bool:=an n fun k=>(gO r (g.getD k 0)).2 || (fC (p.getD k 0) (gO r (g.getD k 0)).1).2
def bBY (r:Int) (o:dU) (g:List Int):dU:=(o.1,o.2.1,o.2.2.1,aKL r o.2.2.2 g o.2.2.2.length)
def xJ (r:Int) (m:List dU) (g:dG) (k:Nat):List dU:=mp m.length fun i=>if i<k then bBY r (m.getD i nO) (g.getD i []) else m.getD i nO
def aSX (r:Int) (m:List dU) (g:dG) (n:Nat):Bool:=an n fun i=>aSC r (m.getD i nO).2.2.2 (g.getD i []) (m.getD i nO).2.2.2.length
def vN (m:List dU) (g:dV) (r:Int):List dU × Bool:=if bY m=true/\mK r=true/\aIM m g.1=true then (xJ r m g.1 m.length,aSX r m g.1 m.length) else (m,false)
theorem bDL (r:Int) (m:List dU) (g:dG):xJ r m g 0=m:=by
 unfold xJ
 refine (bOZ fun i _=>?_).trans (bXG m nO)
 rw[if_neg (by omega)]
theorem zM (r:Int) (m:List dU) (g:dG) (k:Nat):(xJ r m g k).length=m.length:=eX _ _
theorem bK9 (r:Int) (m:List dU) (g:dG) {k:Nat} (h:k<m.length):(xJ r m g k).getD k nO=m.getD k nO:=by
 unfold xJ;rw[tJ _ _ _ h,if_neg (by omega)]
theorem bE0 (r:Int) (m:List dU) (g:dG) {k:Nat} (h:k<m.length) (o:dU) (ho:o=bBY r (m.getD k nO) (g.getD k [])):(xJ r m g k).set k o=xJ r m g (k+1):=by
 subst ho
 refine List.ext_getElem (by rw[List.length_set,zM,zM]) fun i h1 h2=>?_
 have hi:i<m.length:=by rw[zM] at h2;exact h2
 have e:(xJ r m g (k+1))[i]=if i<k+1 then bBY r (m.getD i nO) (g.getD i []) else m.getD i nO:=by
  rw[<- aO h2 (d:=nO)];exact tJ _ _ _ hi
 have e0:∀ h0:i<(xJ r m g k).length,(xJ r m g k)[i]=if i<k then bBY r (m.getD i nO) (g.getD i []) else m.getD i nO:=fun h0=>by
  rw[<- aO h0 (d:=nO)];exact tJ _ _ _ hi
 rw[e,List.getElem_set]
 by_cases hk:k=i
 ·subst hk;rw[if_pos rfl,if_pos (by omega)]
 ·rw[if_neg hk,e0]
  by_cases hl:i<k
  ·rw[if_pos hl,if_pos (by omega)]
  ·rw[if_neg hl,if_neg (by omega)]
theorem aE7 {m:List dU} {g:dV} {r:Int} (h:¬ (bY m=true/\mK r=true/\aIM m g.1=true)):(m,false)=vN m g r:=(if_neg h).symm
theorem bDM {m:List dU} {g:dV} {r:Int} (h1:bY m=true) (h2:mK r=true) (h3:aIM m g.1=true):(xJ r m g.1 m.length,aSX r m g.1 m.length)=vN m g r:=(if_pos ⟨h1,h2,h3⟩).symm
def bV2 (x:List dU × (dV × Int)):Prop:=bC aB x.1<=1000000000/\bC aG x.2.1<=1000000000
noncomputable def jM:Con:=⟨52,aB,aB,[.val ⟨true,aB,[]⟩],[⟨true,aB,[1]⟩],false,none,
 ((fun x=>bC aB x<=1000000000):(aS)->Prop),
 ((fun x=>x):(aS)->(aS))⟩
def aO9:T:=yA 0 0 1
theorem aGM:Con.Holds Tryz.prog jM:=tk ⟨[],[]⟩ aO9 (aD aJQ aL) fun (x:aS) hx hp=>by
 dsimp only [jM] at hx hp ⊢
 have hq:bC aB x<=1000000000:=hp
 delta aO9 aBE;refine gH ?_
 exact ⟨hq,fun _=>by first|rfl|trivial⟩
noncomputable def aT6:Con:=⟨59,(.cD0 aB (.cD0 aG tI)),(.cD0 aB .bool),[.val ⟨true,aB,[]⟩,.val ⟨true,aG,[]⟩,.val ⟨false,tI,[]⟩],[⟨true,aB,[2]⟩,⟨false,.bool,[0]⟩],false,none,
 ((fun x=>bV2 x):(aS × (dV × Int))->Prop),
 ((fun x=>vN x.1 x.2.1 x.2.2):(aS × (dV × Int))->(aS × Bool))⟩
def bCT:T:=lC (jO aB aG tI 0) <| nD 1 (jO aB aG tI 0) 2 3 aB aX <| nD 2 (qJ aG tI 0) 4 5 aB aX <| bT 117 aA (.p1 aJ tY (gQ aB aG tI 1 0)) <| bT 98 bQ (jO aB aG tI 0) <| kC eW 6 7 <| cE 8 (vH aB aX) <| dX (pM aB) (mkA (pM aB) (eE aM cL 1)) 98 bQ (jO aB aG tI 0) <| kR bM (jX aB 9) 10 11 (iV 117 aA aJ (.p1 aJ tY (gQ aB aG tI 1 0)) aB 9 <| cN kO <| iV 98 bQ aB (jO aB aG tI 0) aB 9 <| cN (dH bQ 14) <| kC eW 13 15 <| cG 16 (lC (jO aB aG tI 0) <| .ret (vH aB mV)) <| .loop cB (cO cB aM (cQ (pM aB) 9) aT) <| iV 98 bQ aB (jO aB aG tI 0) aB 9 <| cN (dH bQ 18) <| eM bM (jX aA 17) 19 <| cG 20 (iV 117 aA aJ (.p1 aJ tY (gQ aB aG tI 1 0)) aB 9 <| iV 3 tI aA (.Z 21) aA 17 <| cI 3 tI (qJ aG tI 0) tP <| iV 98 bQ aB (jO aB aG tI 0) aB 9 <| iV 3 tI aA (dH bQ 24) aA 17 <| nV 4 (aTJ tI 25 (cS 23)) 3 tI (cS 26) <| kB 3 8 aA aA (lU 17) 27 <| sJ cB 17 (gZ aA 17 1 0 cB (eE aAD bK 28)) <| jJ tI 1 23 (gZ aA 17 1 0 cB (eE aAD bK 28)) <| gZ aA 17 1 0 cB (eE aAD (kP tI 1 26) 28)) <| iV 98 bQ aB (dD (pM aB) 9) aB 9 <| iV 98 bQ aB (dD (pM aB) 9) aB 9 <| mG 98 bQ aB bQ [dD (pM aB) 9,jX aB 9,lK bF 22,rM 22,tK 22,lU 17] <| gZ aB 9 1 1 (pM aB) (eE (.Z 24) (cQ cB 17) 23)) (sI aB (dD (pM aB) 9) (pM aB) 9)
theorem bDP:Con.Holds Tryz.prog aT6:=tk ⟨[(2984,8009,oS 37 17++[.dr 0,.dr 1,.tm 10 0,.tm 9 0,.sl 5]),(2965,40017,[.tm 12 0,.on 11,.tm 9 0,.sl 8])],[(2959,72021,[],[8])]⟩ bCT (aD aI2 (aD rH (aD aHJ (aD aHS (aD aYO aL))))) fun (x:aS × (dV × Int)) hx hp=>by
 dsimp only [aT6] at hx hp ⊢
 obtain ⟨m,⟨gr,gl,gs⟩,rate⟩:=x
 obtain ⟨hq1,hq2⟩:bC aB m<=1000000000/\bC aG (gr,gl,gs)<=1000000000:=hp
 have hB:=rG (t:=aB) hq1
 have hC:=(rG (t:=aG) hq2).1
 have hml:m.length<=1000000000:=hB.1
 have hgl:gr.length<=1000000000:=hC.1
 delta bCT aAH oG aAN aA5 aIE;refine gH ?_
 refine iC ?_
 refine ⟨hq1,fun _=>⟨fun h=>aE7 (by rw[h];simp),fun h1=>⟨fun h=>aE7 (by rw[h];simp),fun h2 _ _=>⟨fun h=>aE7 fun hh=>?_,fun h3=>?_⟩⟩⟩⟩
 ·have:=(xN _ _).1 hh.2.2;dsimp only at this;omega
 have hlen:gr.length=m.length:=by omega
 refine xL (fun k=>((k:Int),aSX rate m gr k,xJ rate m gr k)) (fun k=>∀ i,i<k->aR1 m gr i=true) m.length (by show (_,_)=(_,_);rw[bDL];rfl) (by omega) fun I μ k hk hG2 _ go=>?_
 dsimp only
 refine iC ?_
 by_cases hkn:k<m.length
 ·have hkg:k<gr.length:=by omega
  have e:=aCT m gr hkn hkg
  have hm:=(hB.2 _ (List.getElem_mem hkn)).2.2.2.1
  have hk2:=hC.2 _ (List.getElem_mem hkg)
  have hs:=bE0 rate m gr hkn
  have hg:=bK9 rate m gr hkn
  have hl:=zM rate m gr k
  have ha:aSX rate m gr (k+1)=(aSX rate m gr k || aSC rate (m.getD k nO).2.2.2 (gr.getD k []) (m.getD k nO).2.2.2.length):=rF k _
  have eP:(m.getD k nO).2.2.2.length=m[k].2.2.2.length:=by rw[aO hkn]
  have eG:(gr.getD k []).length=gr[k].length:=by rw[aO hkg]
  have fit:((gr.getD k []).length:Int)=((m.getD k nO).2.2.2.length:Int)->∀ i,i<k+1->aR1 m gr i=true:=fun h i hi=>by
   rcases Nat.lt_or_eq_of_le (Nat.le_of_lt_succ hi) with h'|rfl
   ·exact hG2 i h'
   ·exact e.2 (by omega)
  rw[show List.getD m k (aK bQ)=m.getD k nO from rfl,show List.getD (xJ rate m gr k) k (aK bQ)=(xJ rate m gr k).getD k nO from rfl,show List.getD gr k (aK aA)=gr.getD k [] from rfl,hg]
  have ho:∀ p,p=aKL rate (m.getD k nO).2.2.2 (gr.getD k []) (m.getD k nO).2.2.2.length->(xJ rate m gr k).set k ((m.getD k nO).1,(m.getD k nO).2.1,(m.getD k nO).2.2.1,p)=xJ rate m gr (k+1):=fun p hp=>hs _ (by rw[hp];rfl)
  clear hs
  have hno:¬ ((gr.getD k []).length:Int)=((m.getD k nO).2.2.2.length:Int)->(m,false)=vN m (gr,gl,gs) rate:=fun hne=>aE7 fun hh=>by
   have:=e.1 (((xN _ _).1 hh.2.2).2 k hkn);omega
  generalize m.getD k nO=o at *
  generalize gr.getD k []=G at *
  refine fun _=>⟨fun _=>⟨by omega,fun _ _=>⟨by omega,fun _ _=>⟨fun hne=>⟨hq1,fun _=>hno hne⟩,fun heq=>?_⟩⟩⟩,fun hge=>by omega⟩
  refine fN (fun j=>((j:Int),aSX rate m gr k || aSC rate o.2.2.2 G j,aKL rate o.2.2.2 G j)) o.2.2.2.length (by show (_,_)=(_,_);rw[show aSC rate o.2.2.2 G 0=false from rfl,Bool.or_false];rfl) fun I2 μ2 j hj _ go2=>?_
  dsimp only
  refine iC ?_
  have hb:aSC rate o.2.2.2 G (j+1)=(aSC rate o.2.2.2 G j || ((gO rate (G.getD j 0)).2 || (fC (o.2.2.2.getD j 0) (gO rate (G.getD j 0)).1).2)):=rF j _
  have hv:aKL rate o.2.2.2 G (j+1)=aKL rate o.2.2.2 G j++[(fC (o.2.2.2.getD j 0) (gO rate (G.getD j 0)).1).1]:=lE j _
  have hvl:(aKL rate o.2.2.2 G j).length=j:=eX _ _
  rw[hb,hv,<- Bool.or_assoc,<- Bool.or_assoc] at go2
  rw[hl]
  (repeat' first|intro _|(refine go2 _ ?_ ?_ ?_)|(refine go2 _ ?_ ?_)|(refine go _ ?_ ?_ ?_)|(refine go _ ?_ ?_)|(with_reducible apply And.intro))
  all_goals first|omega|(unfold maxLen;omega)|exact fit heq _ (by assumption)|skip
  all_goals first|exact Prod.ext rfl (Prod.ext (bE4 (by assumption)) rfl)|exact Prod.ext rfl (Prod.ext (bCK (by assumption) (by assumption)) rfl)|exact Prod.ext rfl (Prod.ext (bDR (by assumption) (by assumption)) rfl)|skip
  have e9:j=o.2.2.2.length:=by omega
  subst e9
  exact Prod.ext rfl (Prod.ext ha.symm (ho _ rfl))
 ·have:k=m.length:=by omega
  subst this
  refine fun _=>⟨fun _=>by omega,fun _=>?_⟩
  exact bDM (g:=(gr,gl,gs)) (r:=rate) h1 h2 ((xN m gr).2 ⟨hlen,hG2⟩)
theorem bJ8 {w:World} {cs:Array Value} {d:Ty.D aB} (h:rd aB w cs.toList d) :
  ∃ p0 c0,cs = #[.slice p0 (List.length (d)) c0]/\jT (Ty.n bQ) (rd bQ w) w p0 (List.length (d)) c0 (d):=by
 obtain ⟨p0,n0,q0,hcs,s0⟩:=h
 obtain rfl:=s0.lens
 exact ⟨_,_,mF hcs,s0⟩
theorem bX3 {w:World} {cs:Array Value} {d:Ty.D aG} (h:rd aG w cs.toList d) :
  ∃ p0 c0,cs = #[.slice p0 (List.length (d.1)) c0,.int .i64 (d.2.1),.bool (d.2.2)]/\jT (Ty.n eF) (rd eF w) w p0 (List.length (d.1)) c0 (d.1)/\(Lit.int .i64 (d.2.1)).wf=true:=by
 obtain ⟨_,_,hcs,⟨p0,n0,q0,rfl,s0⟩,⟨_,_,rfl,⟨rfl,w1⟩,rfl⟩⟩:=h
 obtain rfl:=s0.lens
 exact ⟨_,_,mF hcs,s0,w1⟩
theorem cBU {w:World} {cs:Array Value} {d:Ty.D eF} (h:rd eF w cs.toList d) :
  ∃ p0 c0,cs = #[.slice p0 (List.length (d)) c0]/\jT (Ty.n pZ) (rd pZ w) w p0 (List.length (d)) c0 (d):=by
 obtain ⟨p0,n0,q0,hcs,s0⟩:=h
 obtain rfl:=s0.lens
 exact ⟨_,_,mF hcs,s0⟩
theorem cAX {w:World} {p:Option Addr} {len cap:Nat} {l:List (Ty.D eF)} (h:jT (Ty.n eF) (rd eF w) w p len cap l) (k:Nat) (hk:k<List.length l) (x:Ty.D eF) (hx:l[k]=x) :
  ∃ b off p0 c0,p=some ⟨b,off,none⟩/\b<w.heap.size/\w.cell? ⟨b,off+k,none⟩=some (.slice p0 (List.length (x)) c0)/\jT (Ty.n pZ) (rd pZ w) w p0 (List.length (x)) c0 (x):=by
 subst hx
 obtain ⟨b,off,hp,hb,cs,hl,hc,hr⟩:=h.2.2.2.2 k hk
 obtain ⟨p0,c0,hcs,s0⟩:=cBU (cs:=cs.toArray) (by simpa using hr)
 obtain rfl:=congrArg Array.toList hcs
 exact ⟨b,off,_,_,hp,hb,by simpa [Ty.n] using hc 0 (by simp),s0⟩
theorem bI4 (cs0:Array Value) (d0:Ty.D aB) (w:World) (r0:rd aB w cs0.toList d0) (hp:jM.pre d0) :
  Calls Tryz.prog 52 #[.agg cs0] w (fun e w'=>∃ (rs0:Array Value),e = .returned (.agg rs0)/\FrA aB w.heap.size w'.heap.size w' rs0.toList ((d0):Ty.D aB)/\Below w.heap.size w w'):=by
 have hA:fD w jM.ams [.agg cs0] (fW (jM.ams.map (·.mv.t)) (SV.as _ ⟨jM.argTy,d0⟩)):=by
  have e:SV.as (cV (jM.ams.map (·.mv.t))) ⟨jM.argTy,d0⟩=d0:=SV.as_self _ _
  rw[e]
  exact (fD.cons rfl (by simp[mkV,Value.cells]) r0 fD.nil)
 have hg:=aGM.givesL rfl (x:=d0) hp (kE.okD (kE.of_rd r0)) hA
 have e:SV.as (cV (jM.rms.map (·.t))) ⟨jM.resTy,jM.fn d0⟩=(d0):=SV.as_self _ _
 rw[e] at hg
 refine hg.mono fun e w' hh=>?_
 clear hg
 obtain ⟨rs,bl,he,ho,hn,hb,bel⟩:=hh
 obtain ⟨r0,rs0,b0,bb0,rfl,rfl,k0,ho⟩:=tT.inv ho
 obtain ⟨rfl,rfl⟩:=ho
 obtain ⟨e0,f0⟩:=k0.agA rfl (hn.sublist (List.sublist_append_left _ _)) (fun b h=>hb b ((List.sublist_append_left _ _).subset h))
 exact ⟨_,he.trans (congrArg (fun l=>Ending.returned (aP1 l)) (congr (congrArg List.cons e0) rfl)),f0,bel⟩
theorem bR8 (cs0:Array Value) (d0:Ty.D aB) (w:World) (r0:rd aB w cs0.toList d0) (hp:gB.pre d0) :
  Calls Tryz.prog 83 #[.agg cs0] w (fun e w'=>e = .returned (.bool ((bY d0):Bool))/\Below w.heap.size w w'):=by
 have hA:fD w gB.ams [.agg cs0] (fW (gB.ams.map (·.mv.t)) (SV.as _ ⟨gB.argTy,d0⟩)):=by
  have e:SV.as (cV (gB.ams.map (·.mv.t))) ⟨gB.argTy,d0⟩=d0:=SV.as_self _ _
  rw[e]
  exact (fD.cons rfl (by simp[mkV,Value.cells]) r0 fD.nil)
 have hg:=oL.givesL rfl (x:=d0) hp (kE.okD (kE.of_rd r0)) hA
 have e:SV.as (cV (gB.rms.map (·.t))) ⟨gB.resTy,gB.fn d0⟩=(bY d0):=SV.as_self _ _
 rw[e] at hg
 refine hg.mono fun e w' hh=>?_
 clear hg
 obtain ⟨rs,bl,he,ho,hn,hb,bel⟩:=hh
 obtain ⟨r0,rs0,b0,bb0,rfl,rfl,k0,ho⟩:=tT.inv ho
 obtain ⟨rfl,rfl⟩:=ho
 have e0:=k0.bool
 exact ⟨he.trans (congrArg (fun l=>Ending.returned (aP1 l)) (congr (congrArg List.cons e0) rfl)),bel⟩
theorem bXF (x0:Int) (w:World) (r0:(Lit.int .i64 x0).wf=true) (hp:oW.pre x0) :
  Calls Tryz.prog 84 #[.int .i64 x0] w (fun e w'=>e = .returned (.bool ((mK x0):Bool))/\Below w.heap.size w w'):=by
 have hA:fD w oW.ams [.int .i64 x0] (fW (oW.ams.map (·.mv.t)) (SV.as _ ⟨oW.argTy,x0⟩)):=by
  have e:SV.as (cV (oW.ams.map (·.mv.t))) ⟨oW.argTy,x0⟩=x0:=SV.as_self _ _
  rw[e]
  exact (fD.cons rfl rfl (show rd (.int .i64) w [.int .i64 x0] x0 from ⟨rfl,r0⟩) fD.nil)
 have hg:=aMF.givesL rfl (x:=x0) hp (kE.okD (kE.of_rd (show rd (.int .i64) w [.int .i64 x0] x0 from ⟨rfl,r0⟩))) hA
 have e:SV.as (cV (oW.rms.map (·.t))) ⟨oW.resTy,oW.fn x0⟩=(mK x0):=SV.as_self _ _
 rw[e] at hg
 refine hg.mono fun e w' hh=>?_
 clear hg
 obtain ⟨rs,bl,he,ho,hn,hb,bel⟩:=hh
 obtain ⟨r0,rs0,b0,bb0,rfl,rfl,k0,ho⟩:=tT.inv ho
 obtain ⟨rfl,rfl⟩:=ho
 have e0:=k0.bool
 exact ⟨he.trans (congrArg (fun l=>Ending.returned (aP1 l)) (congr (congrArg List.cons e0) rfl)),bel⟩
theorem cBS (cs0:Array Value) (d0:Ty.D aB) (p1:Option Addr) (c1:Nat) (l1:List (Ty.D eF)) (w:World) (r0:rd aB w cs0.toList d0) (r1:jT (Ty.n eF) (rd eF w) w p1 (List.length l1) c1 l1) (hp:lP.pre (d0,l1)) :
  Calls Tryz.prog 85 #[.agg cs0,.slice p1 (List.length l1) c1] w (fun e w'=>e = .returned (.bool ((aIM d0 l1):Bool))/\Below w.heap.size w w'):=by
 have hA:fD w lP.ams [.agg cs0,.slice p1 (List.length l1) c1] (fW (lP.ams.map (·.mv.t)) (SV.as _ ⟨lP.argTy,(d0,l1)⟩)):=by
  have e:SV.as (cV (lP.ams.map (·.mv.t))) ⟨lP.argTy,(d0,l1)⟩=(d0,l1):=SV.as_self _ _
  rw[e]
  exact (fD.cons rfl (by simp[mkV,Value.cells]) r0 (fD.cons rfl rfl (jT.toRd (e:=117) r1) fD.nil))
 have hg:=aQN.givesL rfl (x:=(d0,l1)) hp ⟨kE.okD (kE.of_rd r0),kE.okD (kE.of_rd (jT.toRd (e:=117) r1))⟩ hA
 have e:SV.as (cV (lP.rms.map (·.t))) ⟨lP.resTy,lP.fn (d0,l1)⟩=(aIM d0 l1):=SV.as_self _ _
 rw[e] at hg
 refine hg.mono fun e w' hh=>?_
 clear hg
 obtain ⟨rs,bl,he,ho,hn,hb,bel⟩:=hh
 obtain ⟨r0,rs0,b0,bb0,rfl,rfl,k0,ho⟩:=tT.inv ho
 obtain ⟨rfl,rfl⟩:=ho
 have e0:=k0.bool
 exact ⟨he.trans (congrArg (fun l=>Ending.returned (aP1 l)) (congr (congrArg List.cons e0) rfl)),bel⟩
theorem bWN (x0:Int) (x1:Int) (w:World) (r0:(Lit.int .i64 x0).wf=true) (r1:(Lit.int .i64 x1).wf=true) (hp:mR.pre (x0,x1)) :
  Calls Tryz.prog 86 #[.int .i64 x0,.int .i64 x1] w (fun e w'=>e = .returned (.tuple #[.int .i64 ((gO x0 x1).1:Int),.bool ((gO x0 x1).2:Bool)])/\Below w.heap.size w w'):=by
 have hA:fD w mR.ams [.int .i64 x0,.int .i64 x1] (fW (mR.ams.map (·.mv.t)) (SV.as _ ⟨mR.argTy,(x0,x1)⟩)):=by
  have e:SV.as (cV (mR.ams.map (·.mv.t))) ⟨mR.argTy,(x0,x1)⟩=(x0,x1):=SV.as_self _ _
  rw[e]
  exact (fD.cons rfl rfl (show rd (.int .i64) w [.int .i64 x0] x0 from ⟨rfl,r0⟩) (fD.cons rfl rfl (show rd (.int .i64) w [.int .i64 x1] x1 from ⟨rfl,r1⟩) fD.nil))
 have hg:=aIV.givesL rfl (x:=(x0,x1)) hp ⟨kE.okD (kE.of_rd (show rd (.int .i64) w [.int .i64 x0] x0 from ⟨rfl,r0⟩)),kE.okD (kE.of_rd (show rd (.int .i64) w [.int .i64 x1] x1 from ⟨rfl,r1⟩))⟩ hA
 have e:SV.as (cV (mR.rms.map (·.t))) ⟨mR.resTy,mR.fn (x0,x1)⟩=(gO x0 x1):=SV.as_self _ _
 rw[e] at hg
 refine hg.mono fun e w' hh=>?_
 clear hg
 obtain ⟨rs,bl,he,ho,hn,hb,bel⟩:=hh
 obtain ⟨r0,rs0,b0,bb0,rfl,rfl,k0,ho⟩:=tT.inv ho
 obtain ⟨r1,rs1,b1,bb1,rfl,rfl,k1,ho⟩:=tT.inv ho
 obtain ⟨rfl,rfl⟩:=ho
 have e0:=k0.int
 have e1:=k1.bool
 exact ⟨he.trans (congrArg (fun l=>Ending.returned (aP1 l)) (congr (congrArg List.cons e0) (congr (congrArg List.cons e1) rfl))),bel⟩
theorem bT5 (x0:Int) (x1:Int) (w:World) (r0:(Lit.int .i64 x0).wf=true) (r1:(Lit.int .i64 x1).wf=true) (hp:pJ.pre (x0,x1)) :
  Calls Tryz.prog 87 #[.int .i64 x0,.int .i64 x1] w (fun e w'=>e = .returned (.tuple #[.int .i64 ((fC x0 x1).1:Int),.bool ((fC x0 x1).2:Bool)])/\Below w.heap.size w w'):=by
 have hA:fD w pJ.ams [.int .i64 x0,.int .i64 x1] (fW (pJ.ams.map (·.mv.t)) (SV.as _ ⟨pJ.argTy,(x0,x1)⟩)):=by
  have e:SV.as (cV (pJ.ams.map (·.mv.t))) ⟨pJ.argTy,(x0,x1)⟩=(x0,x1):=SV.as_self _ _
  rw[e]
  exact (fD.cons rfl rfl (show rd (.int .i64) w [.int .i64 x0] x0 from ⟨rfl,r0⟩) (fD.cons rfl rfl (show rd (.int .i64) w [.int .i64 x1] x1 from ⟨rfl,r1⟩) fD.nil))
 have hg:=bAT.givesL rfl (x:=(x0,x1)) hp ⟨kE.okD (kE.of_rd (show rd (.int .i64) w [.int .i64 x0] x0 from ⟨rfl,r0⟩)),kE.okD (kE.of_rd (show rd (.int .i64) w [.int .i64 x1] x1 from ⟨rfl,r1⟩))⟩ hA
 have e:SV.as (cV (pJ.rms.map (·.t))) ⟨pJ.resTy,pJ.fn (x0,x1)⟩=(fC x0 x1):=SV.as_self _ _
 rw[e] at hg
 refine hg.mono fun e w' hh=>?_
 clear hg
 obtain ⟨rs,bl,he,ho,hn,hb,bel⟩:=hh
 obtain ⟨r0,rs0,b0,bb0,rfl,rfl,k0,ho⟩:=tT.inv ho
 obtain ⟨r1,rs1,b1,bb1,rfl,rfl,k1,ho⟩:=tT.inv ho
 obtain ⟨rfl,rfl⟩:=ho
 have e0:=k0.int
 have e1:=k1.bool
 exact ⟨he.trans (congrArg (fun l=>Ending.returned (aP1 l)) (congr (congrArg List.cons e0) (congr (congrArg List.cons e1) rfl))),bel⟩
def bIS (w:World) (R:aB.D × Bool) (e:Ending) (w':World):Prop:=∃ cs':Array Value,e = .returned (.tuple #[.agg cs',.bool R.2])/\FrA aB w.heap.size w'.heap.size w' cs'.toList R.1/\Below w.heap.size w w'
end Go.Proofs.YtlhaoiaieiladaaGreat
