/- UGrads: lemmas. No conditions. -/
import Derived.Test.YtlhaoiaieiladaaGreatGrd
namespace Go.Proofs.YtlhaoiaieiladaaGreat
open Go.ChangeShapes Go.WideShapes Go.ChangeAt Go.RowKit Go.Deep
set_option linter.unusedVariables false
set_option linter.unusedSimpArgs false
noncomputable section
set_option maxRecDepth 100000
def aHN (c:bB) (b:List bA) (n:Int):List dV × Bool :=
 if (iE b n).length=0\/(b.length:Int)<n then ([],false)
 else if ((List.range (iE b n).length).all fun i=>decide ((jG c ((iE b n).getD i [])).2=0))=true then (mp (iE b n).length fun i=>(jG c ((iE b n).getD i [])).1,true) else ([],false)
theorem aWG {b:List bA} {n:Nat} (h:bC aE b<=n):b.length<=n/\∀ p∈b,List.length p.1<=n/\List.length p.2<=n:=by
 have e:bC aE b=List.length b+((b:List bA).map (bC aF)).sum:=rfl
 refine ⟨by omega,fun p hp=>?_⟩
 obtain ⟨i,hi,rfl⟩:=List.getElem_of_mem hp
 have h4:=gC (bC aF) b i hi
 have h5:=nZ (bC aF) b (i+1)
 have e2:bC aF b[i]=bC aA b[i].1+bC aA b[i].2:=rfl
 rw[gY,gY] at e2
 omega
theorem bV5 (b:List bA) (N i:Nat):bC aE (xV b N i)<=bC aE b:=by
 have e:∀ l:List bA,bC aE l=List.length l+((l:List bA).map (bC aF)).sum:=fun l=>rfl
 rw[e,e]
 unfold xV
 have h1:∀ (l:List bA) (k:Nat),(List.drop k l).length+((List.drop k l).map (bC aF)).sum<=l.length+(l.map (bC aF)).sum:=fun l k=>by
  have:(l.map (bC aF)).sum=((l.take k++l.drop k).map (bC aF)).sum:=by rw[List.take_append_drop]
  rw[this,List.map_append,List.sum_append,List.length_drop];omega
 have h2:=h1 (List.take (qV (b.length / N) (b.length % N) (i+1)) b) (qV (b.length / N) (b.length % N) i)
 have h3:=nZ (bC aF) b (qV (b.length / N) (b.length % N) (i+1))
 have h4:(List.take (qV (b.length / N) (b.length % N) (i+1)) b).length<=b.length:=by rw[List.length_take];omega
 omega
theorem aT1 (b:List bA) (n:Int) {i:Nat} (hi:i<(iE b n).length):bC aE ((iE b n).getD i [])<=bC aE b:=by
 unfold iE at hi ⊢
 split at hi
 ·exact absurd hi (Nat.not_lt_zero _)
 ·rename_i h
  rw[eX] at hi
  rw[if_neg h,tJ _ _ _ hi]
  exact bV5 _ _ _
theorem aON (b:List bA) (n:Int):(iE b n).length<=4:=by
 unfold iE
 split
 ·exact Nat.zero_le _
 ·rw[eX];omega
def aPB:Con:=⟨35,(.cD0 aE tI),aA1,[.val ⟨false,aE,[]⟩,.val ⟨false,tI,[]⟩],[⟨false,aA1,[2]⟩],false,none,
 ((fun x=>bC aE x.1<=2000000):(bW × Int)->Prop),
 ((fun x=>iE x.1 x.2):(bW × Int)->(List bW))⟩
def bA3:T:=iS bM (iD aE 1 0) 1 <| cE 1 (.nl 73 aE) <| dY (iD aE 1 0) 4 <| cE 2 (.nl 73 aE) <| .loop nS (cO nS aM aM (.nl 73 aE)) <| bX bM (lK dF 3) (iD aE 1 0) <| fY 4 (bT 77 aF (pC aE) <| bX (.quo .i64) iR (iD aE 1 0) <| eM cC (vZ dF 1 3) 6 <| bT 77 aF (pC aE) <| bX aPE gP (iD aE 1 0) <| eM bM (lK dF 3) 9 <| cG 10 (gT cC 7 1 <| aGP 77 aF aE (pC aE) (vZ dF 1 3) 11 <| yK 0 kO (kA 73 aE) 13 <| dM (tH 73 aE) dF dF (dD nS 3) 14 <| aA9 (lK dF 3) 1 0 nS (eE kT iX 15)) <| aGP 77 aF aE (pC aE) (vZ dF 1 3) 7 <| yK 0 iX (kA 73 aE) 12 <| dM (tH 73 aE) dF dF (dD nS 3) 13 <| aA9 (lK dF 3) 1 0 nS (eE iL lN 14)) (dD nS 3)
theorem bNL:Con.Holds Tryz.prog aPB:=tk ⟨[(2984,4003,oS 15 9++[.tm 7 0,.tm 6 0,.on 5,.sl 1])],[(2968,28012,[40],[]),(2968,20011,[40],[])]⟩ bA3 (aD aGE aL) fun (x:bW × Int) hx hp=>by
 dsimp only [aPB] at hx hp ⊢
 obtain ⟨l,n⟩:=x
 have hz:bC aE l<=2000000:=hp
 change List bA at l
 obtain ⟨h1,h2⟩:=aWG hz
 delta bA3 xK;refine gH ?_
 refine iC ?_
 unfold iE
 try dsimp only
 refine ⟨fun h=>by rw[if_pos (by omega)],fun h=>⟨fun h'=>by rw[if_pos (by omega)],fun h'=>?_⟩⟩
 rw[if_neg (by omega)]
 obtain ⟨N,rfl⟩:∃ N:Nat,n=(N:Int):=⟨n.toNat,by omega⟩
 rw[Int.toNat_natCast]
 have hN:1<=N:=by omega
 refine fN (fun k=>((k:Int),((qV (l.length / N) (l.length % N) k:Nat):Int),mp k (xV l N))) N rfl fun I μ k hk _ go=>?_
 try dsimp only
 refine iC ?_
 rw[cC5,cCA]
 have hq:l.length / N<=l.length:=Nat.div_le_self _ _
 have hq0:(0:Int)<=((l.length / N:Nat):Int):=Int.natCast_nonneg _
 have e0:=aN5 (L:=l.length) (N:=N) (i:=k) hN hk
 have eS:qV (l.length / N) (l.length % N) (k+1)=qV (l.length / N) (l.length % N) k+l.length / N+(if k<l.length % N then 1 else 0):=rfl
 have hm:(mp k (xV l N)).length=k:=eX _ _
 refine ⟨fun hlt=>?_,fun hge=>?_⟩
 ·have hk':k<N:=by omega
  have hsz:=bV5 l N k
  have e1:=aN5 (L:=l.length) (N:=N) (i:=k+1) hN hk'
  have hseg:∀ p∈xV l N k,List.length p.1<=2000000/\List.length p.2<=2000000:=fun p hp=>by have:=h2 p (bH9 p hp);omega
  have hsl:(xV l N k).length<=2000000:=by have:=(aWG hsz).1;omega
  have en:((mp k (xV l N))++[xV l N k]:List (List bA))=mp (k+1) (xV l N):=(lE _ _).symm
  by_cases hr:k<l.length % N
  ·rw[if_pos hr] at eS
   have ez:((qV (l.length / N) (l.length % N) k:Nat):Int)+((l.length / N:Nat):Int)+1=((qV (l.length / N) (l.length % N) (k+1):Nat):Int):=by rw[eS];push_cast;rfl
   have es:List.drop (qV (l.length / N) (l.length % N) k) (List.take (((qV (l.length / N) (l.length % N) k:Nat):Int)+((l.length / N:Nat):Int)+1).toNat l)=xV l N k:=by
    rw[ez,Int.toNat_natCast]
    rfl
   rw[es,hm]
   (repeat' first|intro _|(refine go2 _ ?_ ?_ ?_)|(refine go2 _ ?_ ?_)|(refine go _ ?_ ?_ ?_)|(refine go _ ?_ ?_)|(with_reducible apply And.intro))
   all_goals first|omega|exact hsl|exact (hseg _ (by assumption)).1|exact (hseg _ (by assumption)).2|(unfold maxLen;omega)|(exfalso;omega)|(show bC aE (xV l N k)<=1000000000;omega)|exact pk2 ez en
  ·rw[if_neg hr] at eS
   have ez:((qV (l.length / N) (l.length % N) k:Nat):Int)+((l.length / N:Nat):Int)=((qV (l.length / N) (l.length % N) (k+1):Nat):Int):=by rw[eS];push_cast;omega
   have es:List.drop (qV (l.length / N) (l.length % N) k) (List.take (((qV (l.length / N) (l.length % N) k:Nat):Int)+((l.length / N:Nat):Int)).toNat l)=xV l N k:=by
    rw[ez,Int.toNat_natCast]
    rfl
   rw[es,hm]
   (repeat' first|intro _|(refine go2 _ ?_ ?_ ?_)|(refine go2 _ ?_ ?_)|(refine go _ ?_ ?_ ?_)|(refine go _ ?_ ?_)|(with_reducible apply And.intro))
   all_goals first|omega|exact hsl|exact (hseg _ (by assumption)).1|exact (hseg _ (by assumption)).2|(unfold maxLen;omega)|(exfalso;omega)|(show bC aE (xV l N k)<=1000000000;omega)|exact pk2 ez en
 ·have:k=N:=by omega
  subst this
  rfl
def aPC:Con:=⟨29,(.cD0 aE tI),aA1,[.val ⟨false,aE,[]⟩,.val ⟨false,tI,[]⟩],[⟨false,aA1,[2]⟩],false,none,
 ((fun x=>bC aE x.1<=2000000):(bW × Int)->Prop),
 ((fun x=>iE x.1 x.2):(bW × Int)->(List bW))⟩
def aY5:T:=kS 0 aQ (iO (iD aE 1 0) gF 4) 1 2 (.nl 73 aE) <| .loop nS (cO nS aM aM (.nl 73 aE)) <| bX bM (lK dF 3) (iD aE 1 0) <| fY 4 (bT 77 aF (pC aE) <| bX (.quo .i64) iR (iD aE 1 0) <| bT 77 aF (pC aE) <| bX aPE lN (iD aE 1 0) <| eM bM (lK dF 3) 8 <| cG 9 (gT cC 6 1 <| yG aE (rB aE (vZ dF 1 3) (.nl 77 aF)) <| eM cC (vZ dF 1 3) 10 <| sT aE 11 12 13 (cR 77 aF aE (pC aE) aE 11 <| cR 77 aF aE (pC aE) aE 11 <| iT (sS 3 8) aA aA aT (qT aA aA 14) <| iT (sS 3 8) aA aA aT (xA 15) <| dM (kA 77 aF) aA aA kT 17 <| dM (.cD7 77 aF 48) aE aE (dN aE 11) 18 <| fE aE 11 1 0 aE 20 19) <| oP 73 aE (dN aE 11) <| dM (tH 73 aE) dF dF (dD nS 3) 14 <| eM cC (vZ dF 1 3) 10 <| aA9 (lK dF 3) 1 1 nS (eE mV kT 15)) <| yG aE (rB aE (vZ dF 1 3) (.nl 77 aF)) <| eM cC (vZ dF 1 3) 6 <| sT aE 10 11 12 (cR 77 aF aE (pC aE) aE 10 <| cR 77 aF aE (pC aE) aE 10 <| iT (sS 3 8) aA aA aT (qT aA aA 13) <| iT (sS 3 8) aA aA aT (xA 14) <| dM (kA 77 aF) aA aA iL 16 <| dM (.cD7 77 aF 48) aE aE (dN aE 10) 17 <| fE aE 10 1 0 aE 19 18) <| oP 73 aE (dN aE 10) <| dM (tH 73 aE) dF dF (dD nS 3) 13 <| eM cC (vZ dF 1 3) 6 <| aA9 (lK dF 3) 1 1 nS (eE kT iL 14)) (dD nS 3)
theorem bMR:Con.Holds Tryz.prog aPC:=tk ⟨[(2984,2003,oS 14 11++[.tm 7 0,.tm 6 0,.on 5,.sl 1]),(2963,14011,[.tm 10 0,.sl 4]),(2963,10010,[.tm 10 0,.sl 4])],[(2955,30014,[57,50],[]),(2956,22014,[],[4]),(2955,26013,[57,50],[]),(2956,18013,[],[4])]⟩ aY5 (aD mC aL) fun (x:bW × Int) hx hp=>by
 dsimp only [aPC] at hx hp ⊢
 obtain ⟨l,n⟩:=x
 have hz:bC aE l<=2000000:=hp
 change List bA at l
 obtain ⟨h1,h2⟩:=aWG hz
 delta aY5 kY;refine gH ?_
 refine iC ?_
 unfold iE
 try dsimp only
 refine ⟨fun h=>by rw[if_pos h],fun h=>?_⟩
 rw[if_neg (by omega)]
 obtain ⟨N,rfl⟩:∃ N:Nat,n=(N:Int):=⟨n.toNat,by omega⟩
 rw[Int.toNat_natCast]
 have hN:1<=N:=by omega
 refine fN (fun k=>((k:Int),((qV (l.length / N) (l.length % N) k:Nat):Int),mp k (xV l N))) N rfl fun I μ k hk _ go=>?_
 try dsimp only
 refine iC ?_
 rw[cC5,cCA]
 have hq:l.length / N<=l.length:=Nat.div_le_self _ _
 have hq0:(0:Int)<=((l.length / N:Nat):Int):=Int.natCast_nonneg _
 have e0:=aN5 (L:=l.length) (N:=N) (i:=k) hN hk
 have eS:qV (l.length / N) (l.length % N) (k+1)=qV (l.length / N) (l.length % N) k+l.length / N+(if k<l.length % N then 1 else 0):=rfl
 have hm:(mp k (xV l N)).length=k:=eX _ _
 refine ⟨fun hlt=>?_,fun hge=>?_⟩
 rotate_left
 ·have:k=N:=by omega
  subst this
  rfl
 have hk':k<N:=by omega
 have e1:=aN5 (L:=l.length) (N:=N) (i:=k+1) hN hk'
 have en:((mp k (xV l N))++[xV l N k]:List (List bA))=mp (k+1) (xV l N):=(lE _ _).symm
 have hsl:=bI8 (l:=l) hN hk'
 have hat:∀ j (hj:j<(xV l N k).length),∃ hk:qV (l.length / N) (l.length % N) k+j<l.length,(xV l N k)[j]=l[qV (l.length / N) (l.length % N) k+j]:=fun j hj=>bZK hN hk' hj
 have hS2:∀ p∈xV l N k,List.length p.1<=2000000/\List.length p.2<=2000000:=fun p hp=>by have:=h2 p (bH9 p hp);omega
 have hk0:qV (l.length / N) (l.length % N) k+(xV l N k).length=qV (l.length / N) (l.length % N) (k+1):=by rw[hsl,eS];omega
 have ez1:k<l.length % N->((qV (l.length / N) (l.length % N) k:Nat):Int)+(((l.length / N:Nat):Int)+1)=((qV (l.length / N) (l.length % N) (k+1):Nat):Int):=fun h=>by rw[eS,if_pos h];omega
 have ez2:¬ k<l.length % N->((qV (l.length / N) (l.length % N) k:Nat):Int)+((l.length / N:Nat):Int)=((qV (l.length / N) (l.length % N) (k+1):Nat):Int):=fun h=>by rw[eS,if_neg h];omega
 clear eS hsl
 rw[<- en] at go
 clear en
 generalize xV l N k=S at *
 generalize qV (l.length / N) (l.length % N) (k+1)=o' at *
 generalize qV (l.length / N) (l.length % N) k=o at *
 generalize (mp k (xV l N))=M at *
 by_cases hr:k<l.length % N
 ·have ez:=ez1 hr
  clear ez1 ez2
  (repeat' first|intro _|(with_reducible apply And.intro))
  all_goals first|omega|skip
  refine fN (fun j=>(((o+j:Nat):Int),List.take j S)) S.length rfl fun I2 μ2 j hj _ go2=>?_
  dsimp only
  refine iC ?_
  have htl:(List.take j S).length=j:=by rw[List.length_take];omega
  by_cases hj':j<S.length
  ·obtain ⟨hb1,hb2⟩:=hat j hj'
   have e5:l.getD (o+j) (aK aF)=S[j]:=by rw[aO hb1];exact hb2.symm
   have e6:List.take j S++[S[j]]=List.take (j+1) S:=mE hj'
   have h5:=hS2 S[j] (List.getElem_mem hj')
   rw[e5]
   rw[<- e6] at go2
   generalize S[j]=p at *
   (repeat' first|intro _|(refine go2 _ ?_ ?_ ?_)|(refine go2 _ ?_ ?_)|(refine go _ ?_ ?_ ?_)|(refine go _ ?_ ?_)|(with_reducible apply And.intro))
   all_goals first|omega|(unfold maxLen;omega)|exact Prod.ext (show (((o+j:Nat):Int)+1)=((o+(j+1):Nat):Int) by omega) rfl|skip
  ·have hjj:j=S.length:=by omega
   subst hjj
   rw[List.take_length]
   (repeat' first|intro _|(refine go2 _ ?_ ?_ ?_)|(refine go2 _ ?_ ?_)|(refine go _ ?_ ?_ ?_)|(refine go _ ?_ ?_)|(with_reducible apply And.intro))
   all_goals first|omega|(unfold maxLen;omega)|exact pk2 ez rfl|skip
 ·have ez:=ez2 hr
  clear ez1 ez2
  (repeat' first|intro _|(with_reducible apply And.intro))
  all_goals first|omega|skip
  refine fN (fun j=>(((o+j:Nat):Int),List.take j S)) S.length rfl fun I2 μ2 j hj _ go2=>?_
  dsimp only
  refine iC ?_
  have htl:(List.take j S).length=j:=by rw[List.length_take];omega
  by_cases hj':j<S.length
  ·obtain ⟨hb1,hb2⟩:=hat j hj'
   have e5:l.getD (o+j) (aK aF)=S[j]:=by rw[aO hb1];exact hb2.symm
   have e6:List.take j S++[S[j]]=List.take (j+1) S:=mE hj'
   have h5:=hS2 S[j] (List.getElem_mem hj')
   rw[e5]
   rw[<- e6] at go2
   generalize S[j]=p at *
   (repeat' first|intro _|(refine go2 _ ?_ ?_ ?_)|(refine go2 _ ?_ ?_)|(refine go _ ?_ ?_ ?_)|(refine go _ ?_ ?_)|(with_reducible apply And.intro))
   all_goals first|omega|(unfold maxLen;omega)|exact Prod.ext (show (((o+j:Nat):Int)+1)=((o+(j+1):Nat):Int) by omega) rfl|skip
  ·have hjj:j=S.length:=by omega
   subst hjj
   rw[List.take_length]
   (repeat' first|intro _|(refine go2 _ ?_ ?_ ?_)|(refine go2 _ ?_ ?_)|(refine go _ ?_ ?_ ?_)|(refine go _ ?_ ?_)|(with_reducible apply And.intro))
   all_goals first|omega|(unfold maxLen;omega)|exact pk2 ez rfl|skip
def oF:Con:=⟨10,(.cD0 aH (.cD0 aE tI)),(.cD0 (.slice 69 aG) .bool),[.val ⟨true,aH,[]⟩,.val ⟨false,aE,[]⟩,.val ⟨false,tI,[]⟩],[⟨false,(.slice 69 aG),[2]⟩,⟨false,.bool,[0]⟩],false,none,
 ((fun x=>bC aH x.1<=2000000/\bC aE x.2.1<=2000000):(bB × (bW × Int))->Prop),
 ((fun x=>aHN x.1 x.2.1 x.2.2):(bB × (bW × Int))->((List dV) × Bool))⟩
def aQQ:T:=lC (eH (eK aH aE tI) 0) <| bT 73 aE aX <| oR iZ 0 <| cE 3 (vH mI (.nl 69 aG)) <| bT 77 aF (gQ aH aE tI 1 0) <| bX bM gD (dD (eK aH aE tI) 0) <| cE 5 (vH mI (.nl 69 aG)) <| iN 73 aE aX (kL mI) (rN mI 69 aG) <| nR mI 7 6 8 (cR 73 aE dF aX mI 7 <| cR 73 aE dF aX mI 7 <| yJ 1 aH aE (jO aH aE tI 0) gN <| wA (iD aG 1 11) 0 <| cE 12 (vH mI (.nl 69 aG)) <| oP 69 aG (qT aG tI 11) <| dM (.cD7 69 aG 40) mI mI (dN mI 7) 13 <| fE mI 7 1 0 mI 15 14) (aLG mI (dN mI 7) bK)
theorem bGZ:Con.Holds Tryz.prog oF:=tk ⟨[(2984,4007,oS 26 17++[.dr 8]++oS 16 14++[.dr 0,.dr 1,.dr 2,.tm 29 0,.on 9,.sl 3])],[(2967,20013,[],[6])]⟩ aQQ (aD bNL (aD aNH aL)) fun (x:bB × (bW × Int)) hx hp=>by
 dsimp only [oF] at hx hp ⊢
 obtain ⟨c,b,n⟩:=x
 obtain ⟨hp1,hp2⟩:bC aH c<=2000000/\bC aE b<=2000000:=hp
 have hb:=aWG hp2
 have hs4:=aON b n
 have hss:=fun i hi=>aT1 b n (i:=i) hi
 delta aQQ aPB aB9;refine gH ?_
 refine iC ?_
 have hno:(iE b n).length=0\/(b.length:Int)<n->([],false)=aHN c b n:=fun h=>by unfold aHN;rw[if_pos h]
 have hbad:∀ k,k<(iE b n).length->¬ (jG c ((iE b n).getD k [])).2=0->([],false)=aHN c b n:=fun k hk h=>by
  unfold aHN
  split
  ·rfl
  ·rw[if_neg]
   intro ha
   have:=List.all_eq_true.1 ha k (List.mem_range.2 hk)
   exact h (of_decide_eq_true this)
 have hok:¬ ((iE b n).length=0\/(b.length:Int)<n)->(∀ k,k<(iE b n).length->(jG c ((iE b n).getD k [])).2=0)->(mp (iE b n).length fun i=>(jG c ((iE b n).getD i [])).1,true)=aHN c b n:=fun h h2=>by
  unfold aHN
  rw[if_neg h,if_pos]
  exact List.all_eq_true.2 fun k hk=>decide_eq_true (h2 k (List.mem_range.1 hk))
 generalize aHN c b n=R at *
 generalize iE b n=S at *
 refine ⟨hp2,fun _ _=>⟨fun h=>hno (.inl (by omega)),fun h0 _=>⟨fun h=>hno (.inr (by omega)),fun h1=>?_⟩⟩⟩
 intro _
 refine xL (fun k=>((k:Int),mp k fun i=>(jG c (S.getD i [])).1)) (fun k=>∀ i,i<k->(jG c (S.getD i [])).2=0) S.length rfl (fun i hi=>absurd hi (Nat.not_lt_zero _)) fun I μ k hk hG _ go=>?_
 have hml:(mp k fun i=>(jG c (S.getD i [])).1).length=k:=eX _ _
 have hmn:(mp (k+1) fun i=>(jG c (S.getD i [])).1)=(mp k fun i=>(jG c (S.getD i [])).1)++[(jG c (S.getD k [])).1]:=lE _ _
 dsimp only
 refine iC ?_
 by_cases hk':k<S.length
 ·have hz:=hss k hk'
  have hbk:=hbad k hk'
  have hnx:(jG c (S.getD k [])).2=0->∀ i,i<k+1->(jG c (S.getD i [])).2=0:=fun h i hi=>by
   rcases Nat.lt_or_eq_of_le (Nat.le_of_lt_succ hi) with h'|rfl
   ·exact hG i h'
   ·exact h
  have e0:List.getD S k (aK aE)=S.getD k []:=rfl
  rw[e0]
  rw[hmn] at go
  generalize (mp k fun i=>(jG c (S.getD i [])).1)=M at *
  clear hG hbad hok hno hmn e0
  (repeat' first|intro _|(refine go _ ?_ ?_ ?_)|(refine go _ ?_ ?_)|(with_reducible apply And.intro))
  all_goals first|omega|(unfold maxLen;omega)|exact hbk (by assumption)|exact hnx (by assumption) _ (by assumption)|rfl|skip
 ·have hkk:k=S.length:=by omega
  subst hkk
  (repeat' first|intro _|(refine go _ ?_ ?_ ?_)|(refine go _ ?_ ?_)|(with_reducible apply And.intro))
  all_goals first|omega|exact hok (by omega) hG|skip
def oE:Con:=⟨7,(.cD0 aH (.cD0 aE tI)),(.cD0 (.slice 69 aG) .bool),[.val ⟨true,aH,[]⟩,.val ⟨false,aE,[]⟩,.val ⟨false,tI,[]⟩],[⟨false,(.slice 69 aG),[2]⟩,⟨false,.bool,[0]⟩],false,none,
 ((fun x=>bC aH x.1<=2000000/\bC aE x.2.1<=2000000):(bB × (bW × Int))->Prop),
 ((fun x=>aHN x.1 x.2.1 x.2.2):(bB × (bW × Int))->((List dV) × Bool))⟩
def aRZ:T:=lC (eH (eK aH aE tI) 0) <| bT 73 aE aX <| oR iZ 0 <| cE 3 (vH mI (.nl 69 aG)) <| bT 77 aF (gQ aH aE tI 1 0) <| bX bM gD (dD (eK aH aE tI) 0) <| cE 5 (vH mI (.nl 69 aG)) <| dX (kL mI) (rN mI 69 aG) 73 aE aX <| nR mI 6 7 8 (cR 73 aE dF aX mI 6 <| cR 73 aE dF aX mI 6 <| yJ 1 aH aE (jO aH aE tI 0) gN <| wA (iD aG 1 11) 0 <| cE 12 (vH mI (.nl 69 aG)) <| oP 69 aG (qT aG tI 11) <| dM (.cD7 69 aG 40) mI mI (dN mI 6) 13 <| fE mI 6 1 0 mI 15 14) (aLG mI (dN mI 6) bK)
theorem bES:Con.Holds Tryz.prog oE:=tk ⟨[(2984,4006,oS 25 13++[.dr 0,.dr 1,.dr 2,.tm 10 0,.on 8,.sl 3])],[(2969,20013,[],[6])]⟩ aRZ (aD bMR (aD bBO aL)) fun (x:bB × (bW × Int)) hx hp=>by
 dsimp only [oE] at hx hp ⊢
 obtain ⟨c,b,n⟩:=x
 obtain ⟨hp1,hp2⟩:bC aH c<=2000000/\bC aE b<=2000000:=hp
 have hb:=aWG hp2
 have hs4:=aON b n
 have hss:=fun i hi=>aT1 b n (i:=i) hi
 delta aRZ aPC aG5;refine gH ?_
 refine iC ?_
 have hno:(iE b n).length=0\/(b.length:Int)<n->([],false)=aHN c b n:=fun h=>by unfold aHN;rw[if_pos h]
 have hbad:∀ k,k<(iE b n).length->¬ (jG c ((iE b n).getD k [])).2=0->([],false)=aHN c b n:=fun k hk h=>by
  unfold aHN
  split
  ·rfl
  ·rw[if_neg]
   intro ha
   have:=List.all_eq_true.1 ha k (List.mem_range.2 hk)
   exact h (of_decide_eq_true this)
 have hok:¬ ((iE b n).length=0\/(b.length:Int)<n)->(∀ k,k<(iE b n).length->(jG c ((iE b n).getD k [])).2=0)->(mp (iE b n).length fun i=>(jG c ((iE b n).getD i [])).1,true)=aHN c b n:=fun h h2=>by
  unfold aHN
  rw[if_neg h,if_pos]
  exact List.all_eq_true.2 fun k hk=>decide_eq_true (h2 k (List.mem_range.1 hk))
 generalize aHN c b n=R at *
 generalize iE b n=S at *
 refine ⟨hp2,fun _ _=>⟨fun h=>hno (.inl (by omega)),fun h0 _=>⟨fun h=>hno (.inr (by omega)),fun h1=>?_⟩⟩⟩
 refine xL (fun k=>((k:Int),mp k fun i=>(jG c (S.getD i [])).1)) (fun k=>∀ i,i<k->(jG c (S.getD i [])).2=0) S.length rfl (fun i hi=>absurd hi (Nat.not_lt_zero _)) fun I μ k hk hG _ go=>?_
 have hml:(mp k fun i=>(jG c (S.getD i [])).1).length=k:=eX _ _
 have hmn:(mp (k+1) fun i=>(jG c (S.getD i [])).1)=(mp k fun i=>(jG c (S.getD i [])).1)++[(jG c (S.getD k [])).1]:=lE _ _
 dsimp only
 refine iC ?_
 by_cases hk':k<S.length
 ·have hz:=hss k hk'
  have hbk:=hbad k hk'
  have hnx:(jG c (S.getD k [])).2=0->∀ i,i<k+1->(jG c (S.getD i [])).2=0:=fun h i hi=>by
   rcases Nat.lt_or_eq_of_le (Nat.le_of_lt_succ hi) with h'|rfl
   ·exact hG i h'
   ·exact h
  have e0:List.getD S k (aK aE)=S.getD k []:=rfl
  rw[e0]
  rw[hmn] at go
  generalize (mp k fun i=>(jG c (S.getD i [])).1)=M at *
  clear hG hbad hok hno hmn e0
  (repeat' first|intro _|(refine go _ ?_ ?_ ?_)|(refine go _ ?_ ?_)|(with_reducible apply And.intro))
  all_goals first|omega|(unfold maxLen;omega)|exact hbk (by assumption)|exact hnx (by assumption) _ (by assumption)|rfl|skip
 ·have hkk:k=S.length:=by omega
  subst hkk
  (repeat' first|intro _|(refine go _ ?_ ?_ ?_)|(refine go _ ?_ ?_)|(with_reducible apply And.intro))
  all_goals first|omega|exact hok (by omega) hG|skip
end
theorem bEW {w:World} {p:Option Addr} {len cap:Nat} {l:List Bool} (h:jT 1 (rd .bool w) w p len cap l) (k:Nat) (hk:k<l.length) :
  ∃ b off,p=some ⟨b,off,none⟩/\b<w.heap.size/\w.cell? ⟨b,off+k,none⟩=some (.bool l[k]):=by
 obtain ⟨b,off,hp,hb,cs,hl,hc,hr⟩:=h.2.2.2.2 k hk
 obtain rfl:cs=[.bool l[k]]:=hr
 exact ⟨b,off,hp,hb,by simpa using hc 0 (by simp)⟩
theorem bL8 (p:Option Addr) (len cap:Nat) (l:List Bool) (w:World) (h:jT 1 (rd .bool w) w p len cap l) (hlen:l.length<=1048576) :
  Calls Tryz.prog 33 #[.slice p len cap] w (bOU 4 .bool w l):=by
 obtain rfl:=h.lens
 have hmk:=aBR Tryz.prog 26 4 (.bool false) 1 .bool Tryz.underlying26 (by kernel_rfl) rfl l.length (by omega) (by omega)
 go_enter Tryz.func33,Tryz.ntmps33
 go_wp2
 go_loopw [4] (fun i wr=>∃ k:Nat,k<=l.length/\i = .int .i64 k/\Below w.heap.size w wr/\cU bZ w.heap.size wr.heap.size wr [.slice (some ⟨w.heap.size,0,none⟩) l.length l.length] (l.take k++List.replicate (l.length - k) false)) (fun i _=>l.length - (intOf i).toNat)
 case atStart=>exact ⟨0,by omega,rfl,(Below.refl _ _).alloc (Nat.le_refl _) _,(cU.made w .bool _ l.length (by simp[maxLen];omega)).mono (Nat.le_refl _) (by simp) (Nat.le_refl _)⟩
 case round =>
  obtain ⟨k,hk,rfl,hb,hf⟩:=hrel
  by_cases hlt:k<l.length
  ·obtain ⟨b,off,rfl,hlb,hc⟩:=bEW h k hlt
   have c1:wr.cell? ⟨b,off+k,none⟩=some (.bool l[k]):=(hb.cell hlb).trans hc
   obtain ⟨b',cap',hv,_,_,hfz,c,hcl,hcc,_⟩:=hf.at k (by simp;omega)
   simp only[Value.slice.injEq,fL,Addr.mk.injEq,and_true] at hv
   obtain ⟨rfl,-,rfl⟩:=hv
   have c2:wr.cell? ⟨w.heap.size,k,none⟩=some (c[0]'(by rw[hcl];exact Nat.one_pos)):=by simpa [Ty.n] using hcc 0 (by rw[hcl];exact Nat.one_pos)
   have c3:=hfz k
   have HF:=Lib.hid hf
   clear h hc hcc hfz hf
   go_wp2
   go_roundw
   case rel =>
    refine ⟨k+1,by omega,by go_num,hb.setCell (Nat.le_refl _) _,?_⟩
    have h1:=HF.out.set k (by simp;omega) (hb.size) (Nat.le_refl _) (cU.bool (x:=l[k]) (Nat.le_refl _))
    simp only[Ty.n,Nat.mul_one,setCells] at h1
    rw[aR2 l false k hlt] at h1
    simpa [World.setCell] using h1
   case measure=>simp[intOf];omega
  ·clear h
   go_wp2
   go_ret
   obtain rfl:k=l.length:=by omega
   exact ⟨_,_,rfl,by simpa using hf,hb⟩
theorem bJI (p q:Option Addr) (len cap len' cap':Nat) (l:List Bool) (w:World) (h:jT 1 (rd .bool w) w p len cap l) (h':jT 1 (rd .bool w) w q len' cap' l) :
  Calls Tryz.prog 40 #[.slice p len cap,.slice q len' cap'] w (tF (.bool true) w):=by
 obtain rfl:=h.lens
 obtain rfl:=h'.lens
 have hmx:l.length<=maxLen:=by have:=h.2.1;have:=h.2.2.1;omega
 unfold maxLen at hmx
 go_enter Tryz.func40,Tryz.ntmps40
 go_wp2
 go_loopw [5] (fun i wr=>∃ k:Nat,k<=l.length/\i = .int .i64 k/\Below w.heap.size w wr) (fun i _=>l.length - (intOf i).toNat)
 case atStart=>exact ⟨0,by omega,rfl,Below.refl _ _⟩
 case round =>
  obtain ⟨k,hk,rfl,hb⟩:=hrel
  by_cases hlt:k<l.length
  ·obtain ⟨b,off,rfl,hlb,hc⟩:=bEW h k hlt
   obtain ⟨b2,off2,rfl,hlb2,hc2⟩:=bEW h' k hlt
   have c1:wr.cell? ⟨b,off+k,none⟩=some (.bool l[k]):=(hb.cell hlb).trans hc
   have c2:wr.cell? ⟨b2,off2+k,none⟩=some (.bool l[k]):=(hb.cell hlb2).trans hc2
   clear h h' hc hc2
   go_wp2
   go_quiet (fail)
   go_wp2
   go_roundw
   case rel=>exact ⟨k+1,by omega,by go_num,below_drewN hb _⟩
   case measure=>simp[intOf];omega
  ·clear h h'
   go_wp2
   go_ret
   exact ⟨rfl,hb⟩
theorem aTX (p:Option Addr) (len cap:Nat) (left:Int) (w:World) (h1:len<=maxLen) (h0:0<=left) (h2:left<=9223372036854775807) :
  Calls Tryz.prog 27 #[.slice p len cap,.int .i64 left] w (tF (.int .i64 (szR left len)) w):=by
 unfold maxLen at h1
 by_cases hc:(len:Int)<=left
 ·have hc2:¬ (left - len<0):=by omega
  go_enter Tryz.func27,Tryz.ntmps27
  go_wp2
  go_ret
  exact ⟨iF (by unfold szR;rw[if_pos (by omega)]),Below.refl _ _⟩
 ·have hc2:left - len<0:=by omega
  go_enter Tryz.func27,Tryz.ntmps27
  go_wp2
  go_ret
  exact ⟨iF (by unfold szR;rw[if_neg (by omega)]),Below.refl _ _⟩
theorem aOV (p:Option Addr) (len cap:Nat) (left:Int) (w:World) (h1:len<=maxLen) (h0:0<=left) (h2:left<=9223372036854775807) (h:(len:Int)<=left) :
  Calls Tryz.prog 27 #[.slice p len cap,.int .i64 left] w (tF (.int .i64 (left - len)) w):=by
 have:=aTX p len cap left w h1 h0 h2
 rwa [aFK h] at this
theorem bM4 (p:Option Addr) (len cap:Nat) (left:Int) (w:World) (h1:len<=maxLen) (h0:0<=left) (h2:left<=9223372036854775807) (h:¬ (len:Int)<=left) :
  Calls Tryz.prog 27 #[.slice p len cap,.int .i64 left] w (tF (.int .i64 (-1)) w):=by
 have:=aTX p len cap left w h1 h0 h2
 rwa [aFP h] at this
theorem bR9 (l:List Bool):bC bZ l=l.length:=by
 rw[dL,aQX (bC .bool) l (fun _=>rfl)];rfl
theorem bHA (l:List Bool):(l.map (jI .bool)).sum=l.length:=by
 induction l with
 | nil=>rfl
 | cons a m ih =>
  rw[List.map_cons,List.sum_cons,ih,List.length_cons]
  show 1+_=_
  omega
theorem bUU (l:List Bool) (k0:Int) (k:Nat) (hk:k<l.length):(mk bZ l k0)[k]'(by show k<(aBU _ _ _ _).length;rw[tV];exact hk)=decide ((k0+k) % 3=0):=by
 show (aBU (mk .bool) (jI .bool) l k0)[k]'_=_
 rw[aJ7 _ _ _ _ _ hk]
 show decide ((k0+_) % 3=0)=_
 rw[bHA,List.length_take,Nat.min_eq_left (by omega)]
theorem aVH (l:List Bool) (k0:Int):(mk bZ l k0:List Bool).length=l.length:=tV _ _ _ _
theorem bCG (l:List Bool):jI bZ l=l.length:=bHA l
set_option maxRecDepth 100000
theorem aKU {w:World} {cs:List Value} {x0:Ty.D (.slice 98 bQ)} {x1:Ty.D aA} {x2:Ty.D pZ} {x3:Ty.D bZ} {x4:Ty.D aA} {x5:Ty.D aA} (h:rd aH w cs (x0,(x1,(x2,(x3,(x4,x5)))))) :
  ∃ p0 n0 q0 p1 n1 q1 p3 n3 q3 p4 n4 q4 p5 n5 q5,cs=[.slice p0 n0 q0,.slice p1 n1 q1,.int .i64 x2,.slice p3 n3 q3,.slice p4 n4 q4,.slice p5 n5 q5]/\jT (Ty.n bQ) (rd bQ w) w p0 n0 q0 x0/\jT (Ty.n pZ) (rd pZ w) w p1 n1 q1 x1/\(Lit.int .i64 x2).wf=true/\jT (Ty.n .bool) (rd .bool w) w p3 n3 q3 x3/\jT (Ty.n pZ) (rd pZ w) w p4 n4 q4 x4/\jT (Ty.n pZ) (rd pZ w) w p5 n5 q5 x5:=by
 obtain ⟨_,_,hcs,⟨p0,n0,q0,rfl,s0⟩,⟨_,_,rfl,⟨p1,n1,q1,rfl,s1⟩,⟨_,_,rfl,⟨rfl,w2⟩,⟨_,_,rfl,⟨p3,n3,q3,rfl,s3⟩,⟨_,_,rfl,⟨p4,n4,q4,rfl,s4⟩,⟨p5,n5,q5,rfl,s5⟩⟩⟩⟩⟩⟩:=h
 exact ⟨_,_,_,_,_,_,_,_,_,_,_,_,_,_,_,hcs,s0,s1,w2,s3,s4,s5⟩
set_option maxHeartbeats 1000000 in
theorem aC8 (cs:Array Value) (d:aH.D) (w:World) (h:rd aH w cs.toList d) (hz:bC aH d<=1048576) :
  Calls Tryz.prog 8 #[.agg cs] w (bPD aH w d):=by
 obtain ⟨x0,⟨x1,⟨x2,⟨x3,⟨x4,x5⟩⟩⟩⟩⟩:=d
 obtain ⟨p0,n0,q0,p1,n1,q1,p3,n3,q3,p4,n4,q4,p5,n5,q5,hcs,s0,s1,w2,s3,s4,s5⟩:=aKU h
 obtain rfl:cs = #[.slice p0 n0 q0,.slice p1 n1 q1,.int .i64 x2,.slice p3 n3 q3,.slice p4 n4 q4,.slice p5 n5 q5]:=mF hcs
 have z0:bC aB x0<=1048576:=by simp only[bC] at hz ⊢;omega
 have z1:bC aA x1<=1048576:=by simp only[bC] at hz ⊢;omega
 have z3:bC bZ x3<=1048576:=by simp only[bC] at hz ⊢;omega
 have z4:bC aA x4<=1048576:=by simp only[bC] at hz ⊢;omega
 have z5:bC aA x5<=1048576:=by simp only[bC] at hz ⊢;omega
 clear hz hcs
 go_enter Tryz.func8,Tryz.ntmps8
 go_wp2_with fail
 refine (bJS _ x0 _ (by exact ⟨_,_,_,rfl,s0.below jL⟩) z0).mono ?_
 rintro e w90 ⟨cs0,rfl,f0,b0⟩
 obtain ⟨u0,v0⟩:=jS b0
 have y0:=b0.size
 simp only[szy] at u0 v0 y0
 have yy00:w.heap.size<w90.heap.size:=bE
 have yy01:w.heap.size+1<w90.heap.size:=bE
 have yy02:w.heap.size+1+1<w90.heap.size:=bE
 have rr0:=f0.rd
 obtain ⟨c0p0,c0n0,c0q0,hcs0,c0s0⟩:=rr0
 obtain rfl:cs0 = #[.slice c0p0 c0n0 c0q0]:=mF hcs0
 clear hcs0
 go_wp2_with fail
 refine (aAI _ _ _ x1 _ (by exact s1.below jL) (by simp only[dL] at z1;omega)).mono ?_
 rintro e w91 ⟨r1,rc1,rfl,f1,b1⟩
 obtain ⟨u1,v1⟩:=jS b1
 have y1:=b1.size
 simp only[szy] at u1 v1 y1
 have yy10:w.heap.size<w91.heap.size:=bE
 have yy11:w.heap.size+1<w91.heap.size:=bE
 have yy12:w.heap.size+1+1<w91.heap.size:=bE
 go_wp2_with fail
 refine (bL8 _ _ _ x3 _ (by exact s3.below jL) (by simp only[dL] at z3;omega)).mono ?_
 rintro e w93 ⟨r3,rc3,rfl,f3,b3⟩
 obtain ⟨u3,v3⟩:=jS b3
 have y3:=b3.size
 simp only[szy] at u3 v3 y3
 have yy30:w.heap.size<w93.heap.size:=bE
 have yy31:w.heap.size+1<w93.heap.size:=bE
 have yy32:w.heap.size+1+1<w93.heap.size:=bE
 go_wp2_with fail
 refine (aAI _ _ _ x4 _ (by exact s4.below jL) (by simp only[dL] at z4;omega)).mono ?_
 rintro e w94 ⟨r4,rc4,rfl,f4,b4⟩
 obtain ⟨u4,v4⟩:=jS b4
 have y4:=b4.size
 simp only[szy] at u4 v4 y4
 have yy40:w.heap.size<w94.heap.size:=bE
 have yy41:w.heap.size+1<w94.heap.size:=bE
 have yy42:w.heap.size+1+1<w94.heap.size:=bE
 go_wp2_with fail
 refine (aAI _ _ _ x5 _ (by exact s5.below jL) (by simp only[dL] at z5;omega)).mono ?_
 rintro e w95 ⟨r5,rc5,rfl,f5,b5⟩
 obtain ⟨u5,v5⟩:=jS b5
 have y5:=b5.size
 simp only[szy] at u5 v5 y5
 have yy50:w.heap.size<w95.heap.size:=bE
 have yy51:w.heap.size+1<w95.heap.size:=bE
 have yy52:w.heap.size+1+1<w95.heap.size:=bE
 go_wp2
 refine bodyPost_ret (v:=.agg #[.slice c0p0 c0n0 c0q0,.slice r1 (List.length x1) rc1,.int .i64 x2,.slice r3 (List.length x3) rc3,.slice r4 (List.length x4) rc4,.slice r5 (List.length x5) rc5]) (by simp[results,Tryz.results8,go_sem,u0,yy00,yy01,yy02,u1,yy10,yy11,yy12,u3,yy30,yy31,yy32,u4,yy40,yy41,yy42,u5,yy50,yy51,yy52]) rfl ⟨_,rfl,?_,?_⟩
 ·refine cU.cD0 (c1:=[_]) (c2:=[_,_,_,_,_]) (mid:=w90.heap.size) ?_ ?_ bE bE
  ·refine cU.mono (lo:=w.heap.size+1+1+1) (hi:=w90.heap.size) ?_ bE bE bE
   (repeat' first|refine cU.set1 ?_ bE _|refine cU.alloc ?_ _)
   refine cU.below ?_ b5 bE
   (repeat' first|refine cU.set1 ?_ bE _|refine cU.alloc ?_ _)
   refine cU.below ?_ b4 bE
   (repeat' first|refine cU.set1 ?_ bE _|refine cU.alloc ?_ _)
   refine cU.below ?_ b3 bE
   (repeat' first|refine cU.set1 ?_ bE _|refine cU.alloc ?_ _)
   refine cU.below ?_ b1 bE
   (repeat' first|refine cU.set1 ?_ bE _|refine cU.alloc ?_ _)
   exact f0.mono bE (Nat.le_refl _) (Nat.le_refl _)
  ·refine cU.cD0 (c1:=[_]) (c2:=[_,_,_,_]) (mid:=w91.heap.size) ?_ ?_ bE bE
   ·refine cU.mono (lo:=w90.heap.size) (hi:=w91.heap.size) ?_ bE bE bE
    (repeat' first|refine cU.set1 ?_ bE _|refine cU.alloc ?_ _)
    refine cU.below ?_ b5 bE
    (repeat' first|refine cU.set1 ?_ bE _|refine cU.alloc ?_ _)
    refine cU.below ?_ b4 bE
    (repeat' first|refine cU.set1 ?_ bE _|refine cU.alloc ?_ _)
    refine cU.below ?_ b3 bE
    (repeat' first|refine cU.set1 ?_ bE _|refine cU.alloc ?_ _)
    exact f1.mono bE (Nat.le_refl _) (Nat.le_refl _)
   ·refine cU.cD0 (c1:=[_]) (c2:=[_,_,_]) (mid:=w91.heap.size) ?_ ?_ bE bE
    ·exact cU.int w2 bE
    ·refine cU.cD0 (c1:=[_]) (c2:=[_,_]) (mid:=w93.heap.size) ?_ ?_ bE bE
     ·refine cU.mono (lo:=w91.heap.size) (hi:=w93.heap.size) ?_ bE bE bE
      (repeat' first|refine cU.set1 ?_ bE _|refine cU.alloc ?_ _)
      refine cU.below ?_ b5 bE
      (repeat' first|refine cU.set1 ?_ bE _|refine cU.alloc ?_ _)
      refine cU.below ?_ b4 bE
      (repeat' first|refine cU.set1 ?_ bE _|refine cU.alloc ?_ _)
      exact f3.mono bE (Nat.le_refl _) (Nat.le_refl _)
     ·refine cU.cD0 (c1:=[_]) (c2:=[_]) (mid:=w94.heap.size) ?_ ?_ bE bE
      ·refine cU.mono (lo:=w93.heap.size) (hi:=w94.heap.size) ?_ bE bE bE
       (repeat' first|refine cU.set1 ?_ bE _|refine cU.alloc ?_ _)
       refine cU.below ?_ b5 bE
       (repeat' first|refine cU.set1 ?_ bE _|refine cU.alloc ?_ _)
       exact f4.mono bE (Nat.le_refl _) (Nat.le_refl _)
      ·refine cU.mono (lo:=w94.heap.size) (hi:=w95.heap.size) ?_ bE bE bE
       (repeat' first|refine cU.set1 ?_ bE _|refine cU.alloc ?_ _)
       exact f5.mono bE (Nat.le_refl _) (Nat.le_refl _)
 ·exact jL
set_option maxHeartbeats 1000000 in
theorem aR4 (ca:Array Value) (d:aH.D) (left:Int) (w:World) (ha:rd aH w ca.toList d) (h0:0<=left) (h2:left<=9223372036854775807) :
  Calls Tryz.prog 5 #[.agg ca,.int .i64 left] w (tF (.int .i64 (szR left (bC aH d))) w):=by
 obtain ⟨x0,⟨x1,⟨x2,⟨x3,⟨x4,x5⟩⟩⟩⟩⟩:=d
 obtain ⟨ap0,an0,aq0,ap1,an1,aq1,ap3,an3,aq3,ap4,an4,aq4,ap5,an5,aq5,ahcs,as0,as1,aw2,as3,as4,as5⟩:=aKU ha
 obtain rfl:ca = #[.slice ap0 an0 aq0,.slice ap1 an1 aq1,.int .i64 x2,.slice ap3 an3 aq3,.slice ap4 an4 aq4,.slice ap5 an5 aq5]:=mF ahcs
 clear ahcs
 have e0:bC aH (x0,(x1,(x2,(x3,(x4,x5)))))=bC aB x0+bC aA x1+bC bZ x3+bC aA x4+bC aA x5:=by first|rfl|(simp only[bC];omega)
 have hl1:bC aA x1=an1:=by rw[as1.lens];exact gY x1
 have hm1:an1<=maxLen:=Nat.le_trans as1.2.1 as1.2.2.1
 have hl3:bC bZ x3=an3:=by rw[as3.lens];exact bR9 x3
 have hm3:an3<=maxLen:=Nat.le_trans as3.2.1 as3.2.2.1
 have hl4:bC aA x4=an4:=by rw[as4.lens];exact gY x4
 have hm4:an4<=maxLen:=Nat.le_trans as4.2.1 as4.2.2.1
 have hl5:bC aA x5=an5:=by rw[as5.lens];exact gY x5
 have hm5:an5<=maxLen:=Nat.le_trans as5.2.1 as5.2.2.1
 have HS:Hid (bC aH (x0,(x1,(x2,(x3,(x4,x5)))))=bC aB x0+an1+an3+an4+an5):=e0.trans (by rw[hl1,hl3,hl4,hl5])
 clear e0 hl1 hl3 hl4 hl5
 by_cases hf0:((bC aB x0:Nat):Int)<=left
 rotate_left
 ·go_enter Tryz.func5,Tryz.ntmps5
  go_wp2_with fail
  refine (bO4 _ x0 _ _ (by exact ⟨_,_,_,rfl,as0.below jL⟩) (by omega) (by omega) (by omega)).mono ?_
  rintro e w90 ⟨rfl,b0⟩
  obtain ⟨u0,v0⟩:=jS b0
  have y0:=b0.size
  try simp only[szy] at u0 v0 y0
  have yy00:w.heap.size<w90.heap.size:=bE
  go_wp2
  go_ret
  exact ⟨iF (by (first|rw[HS.out]|skip);unfold szR;rw[if_neg (by omega)]),jL⟩
 by_cases hf1:((an1:Nat):Int)<=left - (bC aB x0:Nat)
 rotate_left
 ·go_enter Tryz.func5,Tryz.ntmps5
  go_wp2_with fail
  refine (aE1 _ x0 _ _ (by exact ⟨_,_,_,rfl,as0.below jL⟩) (by omega) (by omega) (by omega)).mono ?_
  rintro e w90 ⟨rfl,b0⟩
  obtain ⟨u0,v0⟩:=jS b0
  have y0:=b0.size
  try simp only[szy] at u0 v0 y0
  have yy00:w.heap.size<w90.heap.size:=bE
  go_wp2_with fail
  refine (aCZ _ _ _ _ _ hm1 (by omega) (by omega) (by omega)).mono ?_
  rintro e w91 ⟨rfl,b1⟩
  obtain ⟨u1,v1⟩:=jS b1
  have y1:=b1.size
  try simp only[szy] at u1 v1 y1
  have yy10:w.heap.size<w91.heap.size:=bE
  go_wp2
  go_ret
  exact ⟨iF (by (first|rw[HS.out]|skip);unfold szR;rw[if_neg (by omega)]),jL⟩
 by_cases hf3:((an3:Nat):Int)<=left - (bC aB x0:Nat) - (an1:Nat)
 rotate_left
 ·go_enter Tryz.func5,Tryz.ntmps5
  go_wp2_with fail
  refine (aE1 _ x0 _ _ (by exact ⟨_,_,_,rfl,as0.below jL⟩) (by omega) (by omega) (by omega)).mono ?_
  rintro e w90 ⟨rfl,b0⟩
  obtain ⟨u0,v0⟩:=jS b0
  have y0:=b0.size
  try simp only[szy] at u0 v0 y0
  have yy00:w.heap.size<w90.heap.size:=bE
  go_wp2_with fail
  refine (sN _ _ _ _ _ hm1 (by omega) (by omega) (by omega)).mono ?_
  rintro e w91 ⟨rfl,b1⟩
  obtain ⟨u1,v1⟩:=jS b1
  have y1:=b1.size
  try simp only[szy] at u1 v1 y1
  have yy10:w.heap.size<w91.heap.size:=bE
  go_wp2_with fail
  refine (bM4 _ _ _ _ _ hm3 (by omega) (by omega) (by omega)).mono ?_
  rintro e w93 ⟨rfl,b3⟩
  obtain ⟨u3,v3⟩:=jS b3
  have y3:=b3.size
  try simp only[szy] at u3 v3 y3
  have yy30:w.heap.size<w93.heap.size:=bE
  go_wp2
  go_ret
  exact ⟨iF (by (first|rw[HS.out]|skip);unfold szR;rw[if_neg (by omega)]),jL⟩
 by_cases hf4:((an4:Nat):Int)<=left - (bC aB x0:Nat) - (an1:Nat) - (an3:Nat)
 rotate_left
 ·go_enter Tryz.func5,Tryz.ntmps5
  go_wp2_with fail
  refine (aE1 _ x0 _ _ (by exact ⟨_,_,_,rfl,as0.below jL⟩) (by omega) (by omega) (by omega)).mono ?_
  rintro e w90 ⟨rfl,b0⟩
  obtain ⟨u0,v0⟩:=jS b0
  have y0:=b0.size
  try simp only[szy] at u0 v0 y0
  have yy00:w.heap.size<w90.heap.size:=bE
  go_wp2_with fail
  refine (sN _ _ _ _ _ hm1 (by omega) (by omega) (by omega)).mono ?_
  rintro e w91 ⟨rfl,b1⟩
  obtain ⟨u1,v1⟩:=jS b1
  have y1:=b1.size
  try simp only[szy] at u1 v1 y1
  have yy10:w.heap.size<w91.heap.size:=bE
  go_wp2_with fail
  refine (aOV _ _ _ _ _ hm3 (by omega) (by omega) (by omega)).mono ?_
  rintro e w93 ⟨rfl,b3⟩
  obtain ⟨u3,v3⟩:=jS b3
  have y3:=b3.size
  try simp only[szy] at u3 v3 y3
  have yy30:w.heap.size<w93.heap.size:=bE
  go_wp2_with fail
  refine (aCZ _ _ _ _ _ hm4 (by omega) (by omega) (by omega)).mono ?_
  rintro e w94 ⟨rfl,b4⟩
  obtain ⟨u4,v4⟩:=jS b4
  have y4:=b4.size
  try simp only[szy] at u4 v4 y4
  have yy40:w.heap.size<w94.heap.size:=bE
  go_wp2
  go_ret
  exact ⟨iF (by (first|rw[HS.out]|skip);unfold szR;rw[if_neg (by omega)]),jL⟩
 by_cases hf5:((an5:Nat):Int)<=left - (bC aB x0:Nat) - (an1:Nat) - (an3:Nat) - (an4:Nat)
 rotate_left
 ·go_enter Tryz.func5,Tryz.ntmps5
  go_wp2_with fail
  refine (aE1 _ x0 _ _ (by exact ⟨_,_,_,rfl,as0.below jL⟩) (by omega) (by omega) (by omega)).mono ?_
  rintro e w90 ⟨rfl,b0⟩
  obtain ⟨u0,v0⟩:=jS b0
  have y0:=b0.size
  try simp only[szy] at u0 v0 y0
  have yy00:w.heap.size<w90.heap.size:=bE
  go_wp2_with fail
  refine (sN _ _ _ _ _ hm1 (by omega) (by omega) (by omega)).mono ?_
  rintro e w91 ⟨rfl,b1⟩
  obtain ⟨u1,v1⟩:=jS b1
  have y1:=b1.size
  try simp only[szy] at u1 v1 y1
  have yy10:w.heap.size<w91.heap.size:=bE
  go_wp2_with fail
  refine (aOV _ _ _ _ _ hm3 (by omega) (by omega) (by omega)).mono ?_
  rintro e w93 ⟨rfl,b3⟩
  obtain ⟨u3,v3⟩:=jS b3
  have y3:=b3.size
  try simp only[szy] at u3 v3 y3
  have yy30:w.heap.size<w93.heap.size:=bE
  go_wp2_with fail
  refine (sN _ _ _ _ _ hm4 (by omega) (by omega) (by omega)).mono ?_
  rintro e w94 ⟨rfl,b4⟩
  obtain ⟨u4,v4⟩:=jS b4
  have y4:=b4.size
  try simp only[szy] at u4 v4 y4
  have yy40:w.heap.size<w94.heap.size:=bE
  go_wp2_with fail
  refine (aCZ _ _ _ _ _ hm5 (by omega) (by omega) (by omega)).mono ?_
  rintro e w95 ⟨rfl,b5⟩
  obtain ⟨u5,v5⟩:=jS b5
  have y5:=b5.size
  try simp only[szy] at u5 v5 y5
  have yy50:w.heap.size<w95.heap.size:=bE
  go_wp2
  go_ret
  exact ⟨iF (by (first|rw[HS.out]|skip);unfold szR;rw[if_neg (by omega)]),jL⟩
 go_enter Tryz.func5,Tryz.ntmps5
 go_wp2_with fail
 refine (aE1 _ x0 _ _ (by exact ⟨_,_,_,rfl,as0.below jL⟩) (by omega) (by omega) (by omega)).mono ?_
 rintro e w90 ⟨rfl,b0⟩
 obtain ⟨u0,v0⟩:=jS b0
 have y0:=b0.size
 try simp only[szy] at u0 v0 y0
 have yy00:w.heap.size<w90.heap.size:=bE
 go_wp2_with fail
 refine (sN _ _ _ _ _ hm1 (by omega) (by omega) (by omega)).mono ?_
 rintro e w91 ⟨rfl,b1⟩
 obtain ⟨u1,v1⟩:=jS b1
 have y1:=b1.size
 try simp only[szy] at u1 v1 y1
 have yy10:w.heap.size<w91.heap.size:=bE
 go_wp2_with fail
 refine (aOV _ _ _ _ _ hm3 (by omega) (by omega) (by omega)).mono ?_
 rintro e w93 ⟨rfl,b3⟩
 obtain ⟨u3,v3⟩:=jS b3
 have y3:=b3.size
 try simp only[szy] at u3 v3 y3
 have yy30:w.heap.size<w93.heap.size:=bE
 go_wp2_with fail
 refine (sN _ _ _ _ _ hm4 (by omega) (by omega) (by omega)).mono ?_
 rintro e w94 ⟨rfl,b4⟩
 obtain ⟨u4,v4⟩:=jS b4
 have y4:=b4.size
 try simp only[szy] at u4 v4 y4
 have yy40:w.heap.size<w94.heap.size:=bE
 go_wp2_with fail
 refine (sN _ _ _ _ _ hm5 (by omega) (by omega) (by omega)).mono ?_
 rintro e w95 ⟨rfl,b5⟩
 obtain ⟨u5,v5⟩:=jS b5
 have y5:=b5.size
 try simp only[szy] at u5 v5 y5
 have yy50:w.heap.size<w95.heap.size:=bE
 go_wp2
 go_ret
 exact ⟨iF (by (first|rw[HS.out]|skip);unfold szR;rw[if_pos (by omega)];try omega),jL⟩
theorem aUB (ca:Array Value) (d:aH.D) (left:Int) (w:World) (ha:rd aH w ca.toList d) (h0:0<=left) (h2:left<=9223372036854775807) (h:((bC aH d:Nat):Int)<=left) :
  Calls Tryz.prog 5 #[.agg ca,.int .i64 left] w (tF (.int .i64 (left - (bC aH d:Nat))) w):=by
 have:=aR4 ca d left w ha h0 h2
 rwa [aFK h] at this
theorem bI9 (ca:Array Value) (d:aH.D) (left:Int) (w:World) (ha:rd aH w ca.toList d) (h0:0<=left) (h2:left<=9223372036854775807) (h:¬ ((bC aH d:Nat):Int)<=left) :
  Calls Tryz.prog 5 #[.agg ca,.int .i64 left] w (tF (.int .i64 (-1)) w):=by
 have:=aR4 ca d left w ha h0 h2
 rwa [aFP h] at this
set_option maxHeartbeats 1000000 in
theorem bF9 (ca cb:Array Value) (d:aH.D) (w:World) (ha:rd aH w ca.toList d) (hb:rd aH w cb.toList d) :
  Calls Tryz.prog 12 #[.agg ca,.agg cb] w (tF (.bool true) w):=by
 obtain ⟨x0,⟨x1,⟨x2,⟨x3,⟨x4,x5⟩⟩⟩⟩⟩:=d
 obtain ⟨ap0,an0,aq0,ap1,an1,aq1,ap3,an3,aq3,ap4,an4,aq4,ap5,an5,aq5,ahcs,as0,as1,aw2,as3,as4,as5⟩:=aKU ha
 obtain ⟨bp0,bn0,bq0,bp1,bn1,bq1,bp3,bn3,bq3,bp4,bn4,bq4,bp5,bn5,bq5,bhcs,bs0,bs1,bw2,bs3,bs4,bs5⟩:=aKU hb
 obtain rfl:ca = #[.slice ap0 an0 aq0,.slice ap1 an1 aq1,.int .i64 x2,.slice ap3 an3 aq3,.slice ap4 an4 aq4,.slice ap5 an5 aq5]:=mF ahcs
 obtain rfl:cb = #[.slice bp0 bn0 bq0,.slice bp1 bn1 bq1,.int .i64 x2,.slice bp3 bn3 bq3,.slice bp4 bn4 bq4,.slice bp5 bn5 bq5]:=mF bhcs
 clear ahcs bhcs
 go_enter Tryz.func12,Tryz.ntmps12
 go_wp2_with fail
 refine (bHU _ _ x0 _ (by exact ⟨_,_,_,rfl,as0.below jL⟩) (by exact ⟨_,_,_,rfl,bs0.below jL⟩)).mono ?_
 rintro e w90 ⟨rfl,b0⟩
 obtain ⟨u0,v0⟩:=jS b0
 have y0:=b0.size
 try simp only[szy] at u0 v0 y0
 have yy00:w.heap.size<w90.heap.size:=bE
 have yy01:w.heap.size+1<w90.heap.size:=bE
 go_wp2_with fail
 refine (yF _ _ _ _ _ _ x1 _ (by exact as1.below jL) (by exact bs1.below jL)).mono ?_
 rintro e w91 ⟨rfl,b1⟩
 obtain ⟨u1,v1⟩:=jS b1
 have y1:=b1.size
 try simp only[szy] at u1 v1 y1
 have yy10:w.heap.size<w91.heap.size:=bE
 have yy11:w.heap.size+1<w91.heap.size:=bE
 go_wp2_with fail
 refine (bJI _ _ _ _ _ _ x3 _ (by exact as3.below jL) (by exact bs3.below jL)).mono ?_
 rintro e w93 ⟨rfl,b3⟩
 obtain ⟨u3,v3⟩:=jS b3
 have y3:=b3.size
 try simp only[szy] at u3 v3 y3
 have yy30:w.heap.size<w93.heap.size:=bE
 have yy31:w.heap.size+1<w93.heap.size:=bE
 go_wp2_with fail
 refine (yF _ _ _ _ _ _ x4 _ (by exact as4.below jL) (by exact bs4.below jL)).mono ?_
 rintro e w94 ⟨rfl,b4⟩
 obtain ⟨u4,v4⟩:=jS b4
 have y4:=b4.size
 try simp only[szy] at u4 v4 y4
 have yy40:w.heap.size<w94.heap.size:=bE
 have yy41:w.heap.size+1<w94.heap.size:=bE
 go_wp2_with fail
 refine (yF _ _ _ _ _ _ x5 _ (by exact as5.below jL) (by exact bs5.below jL)).mono ?_
 rintro e w95 ⟨rfl,b5⟩
 obtain ⟨u5,v5⟩:=jS b5
 have y5:=b5.size
 try simp only[szy] at u5 v5 y5
 have yy50:w.heap.size<w95.heap.size:=bE
 have yy51:w.heap.size+1<w95.heap.size:=bE
 go_wp2
 go_ret
 exact ⟨rfl,jL⟩
theorem bZB (A B:dG):bC aJ (A++B:dG)=bC aJ A+bC aJ B:=by
 have e:∀ R:dG,bC aJ R=List.length R+((R:List (List Int)).map (bC eF)).sum:=fun R=>rfl
 rw[e,e,e,List.map_append,List.sum_append,List.length_append];omega
theorem bQU (p:bI):(k:Nat)->k<=p.2.1.length->bC aJ (xS p k).1<=((p.2.1.take k).map (bC aC)).sum
 | 0,_=>Nat.zero_le _
 | k+1,h=>by
  have ih:=bQU p k (by omega)
  have hk:k<p.2.1.length:=by omega
  have e:sY p k=p.2.1[k]:=aO hk
  rw[gC (bC aC) p.2.1 k hk]
  show bC aJ ((xS p k).1++(sY p k).2.2.2.2.2.2.2.2.2.2.2.1:dG)<=_
  rw[bZB,<- e]
  have h2:=mP (sY p k)
  omega
theorem bZD {c:bB} {b:List bA} (h1:bC aH c<=2000000) (h2:bC aE b<=2000000):bC aJ (jG c b).1.1<=100000000:=by
 by_cases ha:cH c b=0
 ·have e:jG c b=(aP9 (zX c b),0):=by unfold jG;rw[if_pos ha]
  rw[e]
  have hl:=wM ha
  have hT:=bH8 ha
  have hm:(aV c b).2.1.length * aGR c b<=4 * 240:=Nat.mul_le_mul (by omega) hT
  have hz:bC aR (zX c b)<=100000000:=bTU h1 h2 (aV c b).2.1.length (by omega)
  generalize zX c b=p at *
  show bC aJ (aP9 p).1<=_
  unfold aP9
  split
  ·have h3:=bQU p p.2.1.length (Nat.le_refl _)
   have h4:=nZ (bC aC) p.2.1 p.2.1.length
   have h5:=aE9 p
   omega
  ·exact Nat.zero_le _
 ·unfold jG;rw[if_neg ha];exact Nat.zero_le _
theorem bVD (R:dG):jI aJ R<=bC aJ R:=by
 have h:=bK7 R
 have e:jI aJ R=aY9 R:=by
  show ((R:List (List Int)).map (jI aA)).sum=((R:List (List Int)).map List.length).sum
  congr 1
  exact List.map_congr_left fun l _=>uW l
 omega
theorem bOG {α:Type} {f:α->Nat} {B:Nat}:(l:List α)->(∀ x∈l,f x<=B)->(l.map f).sum<=l.length * B
 | [],_=>Nat.zero_le _
 | x :: l,h=>by
  have h1:=bOG l fun y hy=>h y (List.mem_cons_of_mem _ hy)
  have h2:=h x List.mem_cons_self
  rw[List.map_cons,List.sum_cons,List.length_cons,Nat.succ_mul];omega
theorem bNS (d:bB) (l:List bA) (x:Int) (hz0:((bC aH d:Nat):Int)<=1048576) (hz1:((bC aE l:Nat):Int)<=1048576 - (bC aH d:Nat)):(bC aH d<=2000000/\bC aE l<=2000000)/\(bC aH d<=2000000/\bC aE l<=2000000) :=
 ⟨⟨by omega,by omega⟩,by omega,by omega⟩
noncomputable def bS6 (x:bB × (List bA × Int)):List dV × Bool:=aHN x.1 x.2.1 x.2.2
theorem bNG (d:bB) (l:List bA) (x:Int) (hz0:((bC aH d:Nat):Int)<=1048576) (hz1:((bC aE l:Nat):Int)<=1048576 - (bC aH d:Nat)):(jI (.slice 69 aG) (bS6 (d,l,x)).1:Int)<=1000000000:=by
 have key:∀ L:List dV,L.length<=4->(∀ g∈L,bC aJ g.1<=100000000)->jI (.slice 69 aG) L<=1000000000:=fun L h1 h2=>by
  have h3:=bOG (f:=jI aG) (B:=100000002) L fun g hg=>by
   have h4:=bVD g.1
   have h5:=h2 g hg
   have e:jI aG g=jI aJ g.1+(1+1):=rfl
   omega
  have e:jI (.slice 69 aG) L=(L.map (jI aG)).sum:=rfl
  omega
 have h4:∀ i,i<(iE l x).length->bC aJ (jG d ((iE l x).getD i [])).1.1<=100000000:=fun i hi=>by
  have:=aT1 l x hi
  exact bZD (by omega) (by omega)
 have hs:=aON l x
 have hk:jI (.slice 69 aG) (bS6 (d,l,x)).1<=1000000000:=by
  show jI (.slice 69 aG) (aHN d l x).1<=_
  unfold aHN
  split
  ·exact Nat.zero_le _
  split
  ·refine key _ (by rw[eX];exact hs) fun g hg=>?_
   obtain ⟨i,hi,rfl⟩:=List.getElem_of_mem hg
   rw[eX] at hi
   rw[<- aO (by rw[eX];exact hi) (d:=([],0,false)),tJ _ _ _ hi]
   exact h4 i hi
  ·exact Nat.zero_le _
 omega
set_option maxRecDepth 100000
theorem aIF {w:World} {cs:List Value} {x0:Ty.D aA} {x1:Ty.D aA} (h:rd aF w cs (x0,x1)) :
  ∃ p0 n0 q0 p1 n1 q1,cs=[.slice p0 n0 q0,.slice p1 n1 q1]/\jT (Ty.n pZ) (rd pZ w) w p0 n0 q0 x0/\jT (Ty.n pZ) (rd pZ w) w p1 n1 q1 x1:=by
 obtain ⟨_,_,hcs,⟨p0,n0,q0,rfl,s0⟩,⟨p1,n1,q1,rfl,s1⟩⟩:=h
 exact ⟨_,_,_,_,_,_,hcs,s0,s1⟩
set_option maxHeartbeats 1000000 in
theorem bN6 (cs:Array Value) (d:aF.D) (w:World) (h:rd aF w cs.toList d) (hz:bC aF d<=1048576) :
  Calls Tryz.prog 34 #[.agg cs] w (bPD aF w d):=by
 obtain ⟨x0,x1⟩:=d
 obtain ⟨p0,n0,q0,p1,n1,q1,hcs,s0,s1⟩:=aIF h
 obtain rfl:cs = #[.slice p0 n0 q0,.slice p1 n1 q1]:=mF hcs
 have z0:bC aA x0<=1048576:=by simp only[bC] at hz ⊢;omega
 have z1:bC aA x1<=1048576:=by simp only[bC] at hz ⊢;omega
 clear hz hcs
 go_enter Tryz.func34,Tryz.ntmps34
 go_wp2_with fail
 refine (aAI _ _ _ x0 _ (by exact s0.below jL) (by simp only[dL] at z0;omega)).mono ?_
 rintro e w90 ⟨r0,rc0,rfl,f0,b0⟩
 obtain ⟨u0,v0⟩:=jS b0
 have y0:=b0.size
 simp only[szy] at u0 v0 y0
 have yy00:w.heap.size<w90.heap.size:=bE
 have yy01:w.heap.size+1<w90.heap.size:=bE
 have yy02:w.heap.size+1+1<w90.heap.size:=bE
 go_wp2_with fail
 refine (aAI _ _ _ x1 _ (by exact s1.below jL) (by simp only[dL] at z1;omega)).mono ?_
 rintro e w91 ⟨r1,rc1,rfl,f1,b1⟩
 obtain ⟨u1,v1⟩:=jS b1
 have y1:=b1.size
 simp only[szy] at u1 v1 y1
 have yy10:w.heap.size<w91.heap.size:=bE
 have yy11:w.heap.size+1<w91.heap.size:=bE
 have yy12:w.heap.size+1+1<w91.heap.size:=bE
 go_wp2
 refine bodyPost_ret (v:=.agg #[.slice r0 (List.length x0) rc0,.slice r1 (List.length x1) rc1]) (by simp[results,Tryz.results34,go_sem,u0,yy00,yy01,yy02,u1,yy10,yy11,yy12]) rfl ⟨_,rfl,?_,?_⟩
 ·refine cU.cD0 (c1:=[_]) (c2:=[_]) (mid:=w90.heap.size) ?_ ?_ bE bE
  ·refine cU.mono (lo:=w.heap.size+1+1+1) (hi:=w90.heap.size) ?_ bE bE bE
   (repeat' first|refine cU.set1 ?_ bE _|refine cU.alloc ?_ _)
   refine cU.below ?_ b1 bE
   (repeat' first|refine cU.set1 ?_ bE _|refine cU.alloc ?_ _)
   exact f0.mono bE (Nat.le_refl _) (Nat.le_refl _)
  ·refine cU.mono (lo:=w90.heap.size) (hi:=w91.heap.size) ?_ bE bE bE
   (repeat' first|refine cU.set1 ?_ bE _|refine cU.alloc ?_ _)
   exact f1.mono bE (Nat.le_refl _) (Nat.le_refl _)
 ·exact jL
set_option maxHeartbeats 1000000 in
theorem aF8 (p:Option Addr) (len cap:Nat) (l:List aF.D) (w:World) (h:jT aF.n (rd aF w) w p len cap l) (hz:bC (.slice 77 aF) l<=1048576) :
  Calls Tryz.prog 9 #[.slice p len cap] w (bOU 77 aF w l):=by
 obtain rfl:=h.lens
 rw[dL] at hz
 have hlen:l.length<=1048576:=by omega
 have hmk:=aBR Tryz.prog 41 77 (.agg #[.slice none 0 0,.slice none 0 0]) 48 aF Tryz.underlying41 (by kernel_rfl) rfl l.length (by omega) (by omega)
 go_enter Tryz.func9,Tryz.ntmps9
 go_wp2
 go_loopw [4] (fun i wr=>∃ k:Nat,k<=l.length/\i = .int .i64 k/\Below w.heap.size w wr/\cU (.slice 77 aF) w.heap.size wr.heap.size wr [.slice (some ⟨w.heap.size,0,none⟩) l.length l.length] (l.take k++List.replicate (l.length - k) (aK aF))) (fun i _=>l.length - (intOf i).toNat)
 case atStart=>exact ⟨0,by omega,rfl,(Below.refl _ _).alloc (Nat.le_refl _) _,(cU.made w aF _ l.length (by simp[maxLen];omega)).mono (Nat.le_refl _) (by simp) (Nat.le_refl _)⟩
 case round =>
  obtain ⟨k,hk,rfl,hb,hf⟩:=hrel
  by_cases hlt:k<l.length
  ·obtain ⟨b,off,rfl,hlb,cs,hcs,hc,hR⟩:=h.2.2.2.2 k hlt
   have hzk:=aOX (bC aF) l k hlt
   obtain ⟨x,hx⟩:∃ x,l[k]=x:=⟨_,rfl⟩
   rw[hx] at hR hzk
   have hR0:rd aF wr cs x:=uS (fun q hq=>hb.block q hq) _ _ _ hR
   obtain ⟨x0,x1⟩:=x
   obtain ⟨p0,n0,q0,p1,n1,q1,rfl,s0,s1⟩:=aIF hR
   have c0:wr.cell? ⟨b,off+k * 2,none⟩=some (.slice p0 n0 q0):=(hb.cell hlb).trans (by have hh:=hc 0 (by simp);rw[show Ty.n aF=2 from rfl] at hh;simpa using hh)
   have c1:wr.cell? ⟨b,off+k * 2+1,none⟩=some (.slice p1 n1 q1):=(hb.cell hlb).trans (by have hh:=hc 1 (by simp);rw[show Ty.n aF=2 from rfl] at hh;simpa using hh)
   obtain ⟨b',cap',hv,_,hbl,hfz,c,hcl,hcc,_⟩:=hf.at k (by simp;omega)
   simp only[Value.slice.injEq,fL,Addr.mk.injEq,and_true] at hv
   obtain ⟨rfl,-,rfl⟩:=hv
   have HF:=Lib.hid hf;have HX:=Lib.hid hx
   have e0:wr.cell? ⟨w.heap.size,k * 2,none⟩=some (c[0]'(by rw[hcl];decide)):=by simpa [Ty.n] using hcc 0 (by rw[hcl];decide)
   have g0:wr.frozen? ⟨w.heap.size,k * 2,none⟩=false:=hfz _
   have e1:wr.cell? ⟨w.heap.size,k * 2+1,none⟩=some (c[1]'(by rw[hcl];decide)):=by simpa [Ty.n] using hcc 1 (by rw[hcl];decide)
   have g1:wr.frozen? ⟨w.heap.size,k * 2+1,none⟩=false:=hfz _
   clear h hc hcc hfz hf hx
   go_wp2_with fail
   refine (bN6 _ (x0,x1) _ (by exact hR0) (by omega)).mono ?_
   rintro e w1 ⟨cs1,rfl,f1,b1⟩
   have rr:=f1.rd
   obtain ⟨rp0,rn0,rq0,rp1,rn1,rq1,rhcs,rs0,rs1⟩:=aIF rr
   obtain rfl:cs1 = #[.slice rp0 rn0 rq0,.slice rp1 rn1 rq1]:=mF rhcs
   have e0':w1.cell? ⟨w.heap.size,k * 2,none⟩=some (c[0]'(by rw[hcl];decide)):=(b1.cell hbl).trans e0
   have g0':w1.frozen? ⟨w.heap.size,k * 2,none⟩=false:=(b1.frozen hbl).trans g0
   have e1':w1.cell? ⟨w.heap.size,k * 2+1,none⟩=some (c[1]'(by rw[hcl];decide)):=(b1.cell hbl).trans e1
   have g1':w1.frozen? ⟨w.heap.size,k * 2+1,none⟩=false:=(b1.frozen hbl).trans g1
   clear e0 g0 c0 e1 g1 c1 rhcs
   go_wp2
   go_roundw
   case rel =>
    refine ⟨k+1,by omega,by go_num,?_,?_⟩
    ·(repeat' first|refine Below.setCell ?_ bE _);exact hb.trans (b1.mono hb.size)
    ·have h1:=(HF.out.below b1 (Nat.le_refl _)).set k (by simp;omega) hb.size b1.size (x:=l[k]) (by rw[HX.out];exact f1)
     rw[aR2 l (aK aF) k hlt] at h1
     refine cU.mono (hi:=w1.heap.size) ?_ (Nat.le_refl _) bE (Nat.le_refl _)
     exact h1
   case measure=>simp[intOf];omega
  ·clear h
   go_wp2
   go_ret
   obtain rfl:k=l.length:=by omega
   exact ⟨_,_,rfl,by simpa using hf,hb⟩
set_option maxHeartbeats 1000000 in
theorem bAE (ca:Array Value) (d:aF.D) (left:Int) (w:World) (ha:rd aF w ca.toList d) (h0:0<=left) (h2:left<=9223372036854775807) :
  Calls Tryz.prog 28 #[.agg ca,.int .i64 left] w (tF (.int .i64 (szR left (bC aF d))) w):=by
 obtain ⟨x0,x1⟩:=d
 obtain ⟨ap0,an0,aq0,ap1,an1,aq1,ahcs,as0,as1⟩:=aIF ha
 obtain rfl:ca = #[.slice ap0 an0 aq0,.slice ap1 an1 aq1]:=mF ahcs
 clear ahcs
 have e0:bC aF (x0,x1)=bC aA x0+bC aA x1:=by first|rfl|(simp only[bC];omega)
 have hl0:bC aA x0=an0:=by rw[as0.lens];exact gY x0
 have hm0:an0<=maxLen:=Nat.le_trans as0.2.1 as0.2.2.1
 have hl1:bC aA x1=an1:=by rw[as1.lens];exact gY x1
 have hm1:an1<=maxLen:=Nat.le_trans as1.2.1 as1.2.2.1
 have HS:Hid (bC aF (x0,x1)=an0+an1):=e0.trans (by rw[hl0,hl1])
 clear e0 hl0 hl1
 by_cases hf0:((an0:Nat):Int)<=left
 rotate_left
 ·go_enter Tryz.func28,Tryz.ntmps28
  go_wp2_with fail
  refine (aCZ _ _ _ _ _ hm0 (by omega) (by omega) (by omega)).mono ?_
  rintro e w90 ⟨rfl,b0⟩
  obtain ⟨u0,v0⟩:=jS b0
  have y0:=b0.size
  try simp only[szy] at u0 v0 y0
  have yy00:w.heap.size<w90.heap.size:=bE
  go_wp2
  go_ret
  exact ⟨iF (by (first|rw[HS.out]|skip);unfold szR;rw[if_neg (by omega)]),jL⟩
 by_cases hf1:((an1:Nat):Int)<=left - (an0:Nat)
 rotate_left
 ·go_enter Tryz.func28,Tryz.ntmps28
  go_wp2_with fail
  refine (sN _ _ _ _ _ hm0 (by omega) (by omega) (by omega)).mono ?_
  rintro e w90 ⟨rfl,b0⟩
  obtain ⟨u0,v0⟩:=jS b0
  have y0:=b0.size
  try simp only[szy] at u0 v0 y0
  have yy00:w.heap.size<w90.heap.size:=bE
  go_wp2_with fail
  refine (aCZ _ _ _ _ _ hm1 (by omega) (by omega) (by omega)).mono ?_
  rintro e w91 ⟨rfl,b1⟩
  obtain ⟨u1,v1⟩:=jS b1
  have y1:=b1.size
  try simp only[szy] at u1 v1 y1
  have yy10:w.heap.size<w91.heap.size:=bE
  go_wp2
  go_ret
  exact ⟨iF (by (first|rw[HS.out]|skip);unfold szR;rw[if_neg (by omega)]),jL⟩
 go_enter Tryz.func28,Tryz.ntmps28
 go_wp2_with fail
 refine (sN _ _ _ _ _ hm0 (by omega) (by omega) (by omega)).mono ?_
 rintro e w90 ⟨rfl,b0⟩
 obtain ⟨u0,v0⟩:=jS b0
 have y0:=b0.size
 try simp only[szy] at u0 v0 y0
 have yy00:w.heap.size<w90.heap.size:=bE
 go_wp2_with fail
 refine (sN _ _ _ _ _ hm1 (by omega) (by omega) (by omega)).mono ?_
 rintro e w91 ⟨rfl,b1⟩
 obtain ⟨u1,v1⟩:=jS b1
 have y1:=b1.size
 try simp only[szy] at u1 v1 y1
 have yy10:w.heap.size<w91.heap.size:=bE
 go_wp2
 go_ret
 exact ⟨iF (by (first|rw[HS.out]|skip);unfold szR;rw[if_pos (by omega)];try omega),jL⟩
theorem bRQ (ca:Array Value) (d:aF.D) (left:Int) (w:World) (ha:rd aF w ca.toList d) (h0:0<=left) (h2:left<=9223372036854775807) (h:((bC aF d:Nat):Int)<=left) :
  Calls Tryz.prog 28 #[.agg ca,.int .i64 left] w (tF (.int .i64 (left - (bC aF d:Nat))) w):=by
 have:=bAE ca d left w ha h0 h2
 rwa [aFK h] at this
theorem bRF (ca:Array Value) (d:aF.D) (left:Int) (w:World) (ha:rd aF w ca.toList d) (h0:0<=left) (h2:left<=9223372036854775807) (h:¬ ((bC aF d:Nat):Int)<=left) :
  Calls Tryz.prog 28 #[.agg ca,.int .i64 left] w (tF (.int .i64 (-1)) w):=by
 have:=bAE ca d left w ha h0 h2
 rwa [aFP h] at this
set_option maxHeartbeats 1000000 in
theorem aU0 (p:Option Addr) (len cap:Nat) (l:List aF.D) (left:Int) (w:World) (h:jT aF.n (rd aF w) w p len cap l) (h0:0<=left) (h2:left<=9223372036854775807) :
  Calls Tryz.prog 6 #[.slice p len cap,.int .i64 left] w (tF (.int .i64 (szR left (bC (.slice 77 aF) l))) w):=by
 have hm:len<=maxLen:=Nat.le_trans h.2.1 h.2.2.1
 obtain rfl:=h.lens
 unfold maxLen at hm
 have HS:Hid (bC (.slice 77 aF) l=l.length+(l.map (bC aF)).sum):=dL _ _ _
 by_cases hc:(l.length:Int)<=left
 rotate_left
 ·have hc2:(left - l.length<0):=by omega
  clear h
  go_enter Tryz.func6,Tryz.ntmps6
  go_wp2
  go_ret
  exact ⟨iF (by (first|rw[HS.out]|skip);unfold szR;rw[if_neg (by omega)]),Below.refl _ _⟩
 go_enter Tryz.func6,Tryz.ntmps6
 go_wp2
 go_loopw [1,5] (fun q i wr=>∃ k:Nat,k<=l.length/\i = .int .i64 k/\∃ m:Int,q = .int .i64 m/\m=left - l.length - (((l.take k).map (bC aF)).sum:Nat)/\0<=m/\Below w.heap.size w wr) (fun _ i _=>l.length - (intOf i).toNat)
 case atStart=>exact ⟨0,by omega,rfl,_,rfl,by simp,by omega,Below.refl _ _⟩
 case round =>
  obtain ⟨k,hk,rfl,m,rfl,hm1,hm2,hb⟩:=hrel
  have hmb:m<=left:=by omega
  by_cases hlt:k<l.length
  ·obtain ⟨b,off,rfl,hlb,cs,hcs,hc1,hR⟩:=h.2.2.2.2 k hlt
   have hsum:=gC (bC aF) l k hlt
   have hsle:=rL (bC aF) l (k+1)
   obtain ⟨x,hx⟩:∃ x,l[k]=x:=⟨_,rfl⟩
   rw[hx] at hR hsum
   have hR0:rd aF wr cs x:=uS (fun q hq=>hb.block q hq) _ _ _ hR
   obtain ⟨z,hz⟩:∃ z,bC aF x=z:=⟨_,rfl⟩
   obtain ⟨s0,hs0⟩:∃ z,((l.take k).map (bC aF)).sum=z:=⟨_,rfl⟩
   obtain ⟨s1,hs1⟩:∃ z,((l.take (k+1)).map (bC aF)).sum=z:=⟨_,rfl⟩
   obtain ⟨s2,hs2⟩:∃ z,(l.map (bC aF)).sum=z:=⟨_,rfl⟩
   rw[hs0] at hsum hm1
   rw[hs1,hz] at hsum
   rw[hs1] at hsle
   rw[hs2] at hsle
   have HZ:=Lib.hid hz;have HR:=Lib.hid hR0;have H1:=Lib.hid hs1;have H2:=Lib.hid hs2;have HM:=Lib.hid hm1;have HU:=Lib.hid hsum;have HX:=Lib.hid hz
   obtain ⟨x0,x1⟩:=x
   obtain ⟨ap0,an0,aq0,ap1,an1,aq1,rfl,as0,as1⟩:=aIF hR
   have c0:wr.cell? ⟨b,off+k * 2,none⟩=some (.slice ap0 an0 aq0):=(hb.cell hlb).trans (by have hh:=hc1 0 (by simp);rw[show Ty.n aF=2 from rfl] at hh;simpa using hh)
   have c1:wr.cell? ⟨b,off+k * 2+1,none⟩=some (.slice ap1 an1 aq1):=(hb.cell hlb).trans (by have hh:=hc1 1 (by simp);rw[show Ty.n aF=2 from rfl] at hh;simpa using hh)
   clear h hc1 hcs hx hR0 hz hs0 hs1 hs2 hm1 hsum
   by_cases hfit:(z:Int)<=m
   ·go_wp2_with fail
    refine (bRQ _ (x0,x1) _ _ (by exact HR.out) (by omega) (by omega) (by rw[HZ.out];omega)).mono ?_
    rintro e w3 ⟨rfl,b3⟩
    rw[HZ.out]
    have hmz:¬ (m - z<0):=by omega
    go_wp2
    go_roundw
    case rel=>exact ⟨k+1,by omega,by go_num,_,rfl,by rw[H1.out];have:=HM.out;have:=HU.out;omega,by omega,hb.trans (b3.mono hb.size)⟩
    case measure=>simp[intOf];omega
   ·go_wp2_with fail
    refine (bRF _ (x0,x1) _ _ (by exact HR.out) (by omega) (by omega) (by rw[HZ.out];omega)).mono ?_
    rintro e w3 ⟨rfl,b3⟩
    go_wp2
    go_ret
    exact ⟨iF (by rw[HS.out,H2.out];unfold szR;rw[if_neg (by have:=HM.out;have:=HU.out;omega)]),hb.trans (b3.mono hb.size)⟩
  ·clear h
   have HM:=Lib.hid hm1;clear hm1
   go_wp2
   go_ret
   obtain rfl:k=l.length:=by omega
   have hm1:=HM.out
   rw[List.take_length] at hm1
   exact ⟨iF (by (first|rw[HS.out]|skip);unfold szR;rw[if_pos (by omega)];try omega),hb⟩
theorem bNH (p:Option Addr) (len cap:Nat) (l:List aF.D) (left:Int) (w:World) (ha:jT aF.n (rd aF w) w p len cap l) (h0:0<=left) (h2:left<=9223372036854775807) (h:((bC (.slice 77 aF) l:Nat):Int)<=left) :
  Calls Tryz.prog 6 #[.slice p len cap,.int .i64 left] w (tF (.int .i64 (left - (bC (.slice 77 aF) l:Nat))) w):=by
 have:=aU0 p len cap l left w ha h0 h2
 rwa [aFK h] at this
theorem bMG (p:Option Addr) (len cap:Nat) (l:List aF.D) (left:Int) (w:World) (ha:jT aF.n (rd aF w) w p len cap l) (h0:0<=left) (h2:left<=9223372036854775807) (h:¬ ((bC (.slice 77 aF) l:Nat):Int)<=left) :
  Calls Tryz.prog 6 #[.slice p len cap,.int .i64 left] w (tF (.int .i64 (-1)) w):=by
 have:=aU0 p len cap l left w ha h0 h2
 rwa [aFP h] at this
set_option maxHeartbeats 1000000 in
theorem bN9 (ca cb:Array Value) (d:aF.D) (w:World) (ha:rd aF w ca.toList d) (hb:rd aF w cb.toList d) :
  Calls Tryz.prog 41 #[.agg ca,.agg cb] w (tF (.bool true) w):=by
 obtain ⟨x0,x1⟩:=d
 obtain ⟨ap0,an0,aq0,ap1,an1,aq1,ahcs,as0,as1⟩:=aIF ha
 obtain ⟨bp0,bn0,bq0,bp1,bn1,bq1,bhcs,bs0,bs1⟩:=aIF hb
 obtain rfl:ca = #[.slice ap0 an0 aq0,.slice ap1 an1 aq1]:=mF ahcs
 obtain rfl:cb = #[.slice bp0 bn0 bq0,.slice bp1 bn1 bq1]:=mF bhcs
 clear ahcs bhcs
 go_enter Tryz.func41,Tryz.ntmps41
 go_wp2_with fail
 refine (yF _ _ _ _ _ _ x0 _ (by exact as0.below jL) (by exact bs0.below jL)).mono ?_
 rintro e w90 ⟨rfl,b0⟩
 obtain ⟨u0,v0⟩:=jS b0
 have y0:=b0.size
 try simp only[szy] at u0 v0 y0
 have yy00:w.heap.size<w90.heap.size:=bE
 have yy01:w.heap.size+1<w90.heap.size:=bE
 go_wp2_with fail
 refine (yF _ _ _ _ _ _ x1 _ (by exact as1.below jL) (by exact bs1.below jL)).mono ?_
 rintro e w91 ⟨rfl,b1⟩
 obtain ⟨u1,v1⟩:=jS b1
 have y1:=b1.size
 try simp only[szy] at u1 v1 y1
 have yy10:w.heap.size<w91.heap.size:=bE
 have yy11:w.heap.size+1<w91.heap.size:=bE
 go_wp2
 go_ret
 exact ⟨rfl,jL⟩
set_option maxHeartbeats 1000000 in
theorem bKF (p q:Option Addr) (len cap len' cap':Nat) (l:List aF.D) (w:World) (h:jT aF.n (rd aF w) w p len cap l) (h':jT aF.n (rd aF w) w q len' cap' l) :
  Calls Tryz.prog 13 #[.slice p len cap,.slice q len' cap'] w (tF (.bool true) w):=by
 obtain rfl:=h.lens
 obtain rfl:=h'.lens
 have hmx:l.length<=maxLen:=by have:=h.2.1;have:=h.2.2.1;omega
 unfold maxLen at hmx
 go_enter Tryz.func13,Tryz.ntmps13
 go_wp2
 go_loopw [5] (fun i wr=>∃ k:Nat,k<=l.length/\i = .int .i64 k/\Below w.heap.size w wr) (fun i _=>l.length - (intOf i).toNat)
 case atStart=>exact ⟨0,by omega,rfl,Below.refl _ _⟩
 case round =>
  obtain ⟨k,hk,rfl,hb⟩:=hrel
  by_cases hlt:k<l.length
  ·obtain ⟨b,off,rfl,hlb,cs,hcs,hc,hR⟩:=h.2.2.2.2 k hlt
   obtain ⟨b2,off2,rfl,hlb2,cs2,hcs2,hc2,hR2⟩:=h'.2.2.2.2 k hlt
   obtain ⟨x,hx⟩:∃ x,l[k]=x:=⟨_,rfl⟩
   rw[hx] at hR hR2
   have hR0:rd aF wr.drew cs x:=uS (fun q hq=>hb.block q hq) _ _ _ hR
   have hR20:rd aF wr.drew cs2 x:=uS (fun q hq=>hb.block q hq) _ _ _ hR2
   obtain ⟨x0,x1⟩:=x
   obtain ⟨ap0,an0,aq0,ap1,an1,aq1,rfl,as0,as1⟩:=aIF hR
   obtain ⟨bp0,bn0,bq0,bp1,bn1,bq1,rfl,bs0,bs1⟩:=aIF hR2
   have c0:wr.cell? ⟨b,off+k * 2,none⟩=some (.slice ap0 an0 aq0):=(hb.cell hlb).trans (by have hh:=hc 0 (by simp);rw[show Ty.n aF=2 from rfl] at hh;simpa using hh)
   have c1:wr.cell? ⟨b,off+k * 2+1,none⟩=some (.slice ap1 an1 aq1):=(hb.cell hlb).trans (by have hh:=hc 1 (by simp);rw[show Ty.n aF=2 from rfl] at hh;simpa using hh)
   have d0:wr.cell? ⟨b2,off2+k * 2,none⟩=some (.slice bp0 bn0 bq0):=(hb.cell hlb2).trans (by have hh:=hc2 0 (by simp);rw[show Ty.n aF=2 from rfl] at hh;simpa using hh)
   have d1:wr.cell? ⟨b2,off2+k * 2+1,none⟩=some (.slice bp1 bn1 bq1):=(hb.cell hlb2).trans (by have hh:=hc2 1 (by simp);rw[show Ty.n aF=2 from rfl] at hh;simpa using hh)
   have HR:=Lib.hid hR0;have HR2:=Lib.hid hR20
   clear h h' hc hc2 hx hcs hcs2 hR0 hR20
   go_wp2
   go_still_tail 8,(by kernel_rfl)
   change wpList _ _ _ _ _ wr.drew
   have hb2:Below w.heap.size w wr.drew:=hb.drew
   generalize wr.drew=w2 at hb2 HR HR2 ⊢
   go_wp2_with fail
   refine (bN9 _ _ (x0,x1) _ (by exact HR.out) (by exact HR2.out)).mono ?_
   rintro e w3 ⟨rfl,b3⟩
   go_wp2
   go_roundw
   case rel=>exact ⟨k+1,by omega,by go_num,hb2.trans (b3.mono hb2.size)⟩
   case measure=>simp[intOf];omega
  ·clear h h'
   go_wp2
   go_ret
   exact ⟨rfl,hb⟩
theorem bC2 (d0:Ty.D aH) (l1:List (Ty.D aF)) (x2:Int) (h2:(Lit.int .i64 x2).wf=true) (hz0:((bC aH d0:Nat):Int)<=(1048576:Int)) (hz1:((bC (.slice 77 aF) l1:Nat):Int)<=(1048576:Int) - (bC aH d0:Nat)) :
  ∃ (R0:List (Ty.D aG)) (R1:Bool),(∀ (cs0:Array Value) (p1:Option Addr) (c1:Nat) (w:World),rd aH w cs0.toList d0->jT (Ty.n aF) (rd aF w) w p1 (List.length l1) c1 l1->Calls Tryz.prog 7 #[.agg cs0,.slice p1 (List.length l1) c1,.int .i64 x2] w (fun e w'=>∃ p0 c0,e = .returned (.tuple #[.slice p0 (List.length R0) c0,.bool R1])/\FrR (.slice 69 aG) w.heap.size w'.heap.size w' [.slice p0 (List.length R0) c0] R0/\Below w.heap.size w w')) /\
   (∀ (cs0:Array Value) (p1:Option Addr) (c1:Nat) (w:World),rd aH w cs0.toList d0->jT (Ty.n aF) (rd aF w) w p1 (List.length l1) c1 l1->Calls Tryz.prog 10 #[.agg cs0,.slice p1 (List.length l1) c1,.int .i64 x2] w (fun e w'=>∃ p0 c0,e = .returned (.tuple #[.slice p0 (List.length R0) c0,.bool R1])/\FrA (.slice 69 aG) w.heap.size w'.heap.size w' [.slice p0 (List.length R0) c0] R0/\Below w.heap.size w w'))/\(jI (.slice 69 aG) R0:Int)<=1000000000:=by
 obtain ⟨hpS,hpI⟩:=bNS d0 l1 x2 hz0 hz1
 refine ⟨(bS6 (d0,l1,x2)).1,(bS6 (d0,l1,x2)).2,fun cs0 p1 c1 w r0 r1=>?_,fun cs0 p1 c1 w r0 r1=>?_,bNG d0 l1 x2 hz0 hz1⟩
 ·have hA:fD w oE.ams [.agg cs0,.slice p1 (List.length l1) c1,.int .i64 x2] (fW (oE.ams.map (·.mv.t)) (SV.as _ ⟨oE.argTy,(d0,l1,x2)⟩)):=by
   have e:SV.as (cV (oE.ams.map (·.mv.t))) ⟨oE.argTy,(d0,l1,x2)⟩=(d0,l1,x2):=SV.as_self _ _
   rw[e]
   exact (fD.cons rfl (by simp[mkV,Value.cells]) r0 (fD.cons rfl rfl (jT.toRd (e:=77) r1) (fD.cons rfl rfl (show rd (.int .i64) w [.int .i64 x2] x2 from ⟨rfl,h2⟩) fD.nil)))
  have hg:=bES.givesL rfl (x:=(d0,l1,x2)) hpS ⟨kE.okD (kE.of_rd r0),kE.okD (kE.of_rd (jT.toRd (e:=77) r1)),kE.okD (kE.of_rd (show rd (.int .i64) w [.int .i64 x2] x2 from ⟨rfl,h2⟩))⟩ hA
  have e:SV.as (cV (oE.rms.map (·.t))) ⟨oE.resTy,oE.fn (d0,l1,x2)⟩=bS6 (d0,l1,x2):=SV.as_self _ _
  rw[e] at hg
  refine hg.mono fun e w' hh=>?_
  clear hg
  obtain ⟨rs,bl,he,ho,hn,hb,bel⟩:=hh
  obtain ⟨r0,rs0,b0,bb0,rfl,rfl,k0,ho⟩:=tT.inv ho
  obtain ⟨r1,rs1,b1,bb1,rfl,rfl,k1,ho⟩:=tT.inv ho
  obtain ⟨rfl,rfl⟩:=ho
  obtain ⟨q0,qc0,e0,f0⟩:=k0.slR
  have e1:=k1.bool
  exact ⟨q0,qc0,he.trans (congrArg (fun l=>Ending.returned (aP1 l)) (congr (congrArg List.cons e0) (congr (congrArg List.cons e1) rfl))),f0,bel⟩
 ·have hA:fD w oF.ams [.agg cs0,.slice p1 (List.length l1) c1,.int .i64 x2] (fW (oF.ams.map (·.mv.t)) (SV.as _ ⟨oF.argTy,(d0,l1,x2)⟩)):=by
   have e:SV.as (cV (oF.ams.map (·.mv.t))) ⟨oF.argTy,(d0,l1,x2)⟩=(d0,l1,x2):=SV.as_self _ _
   rw[e]
   exact (fD.cons rfl (by simp[mkV,Value.cells]) r0 (fD.cons rfl rfl (jT.toRd (e:=77) r1) (fD.cons rfl rfl (show rd (.int .i64) w [.int .i64 x2] x2 from ⟨rfl,h2⟩) fD.nil)))
  have hg:=bGZ.givesL rfl (x:=(d0,l1,x2)) hpI ⟨kE.okD (kE.of_rd r0),kE.okD (kE.of_rd (jT.toRd (e:=77) r1)),kE.okD (kE.of_rd (show rd (.int .i64) w [.int .i64 x2] x2 from ⟨rfl,h2⟩))⟩ hA
  have e:SV.as (cV (oF.rms.map (·.t))) ⟨oF.resTy,oF.fn (d0,l1,x2)⟩=bS6 (d0,l1,x2):=SV.as_self _ _
  rw[e] at hg
  refine hg.mono fun e w' hh=>?_
  clear hg
  obtain ⟨rs,bl,he,ho,hn,hb,bel⟩:=hh
  obtain ⟨r0,rs0,b0,bb0,rfl,rfl,k0,ho⟩:=tT.inv ho
  obtain ⟨r1,rs1,b1,bb1,rfl,rfl,k1,ho⟩:=tT.inv ho
  obtain ⟨rfl,rfl⟩:=ho
  obtain ⟨q0,qc0,e0,f0⟩:=k0.slA rfl (hn.sublist (List.sublist_append_left _ _)) (fun b h=>hb b ((List.sublist_append_left _ _).subset h))
  have e1:=k1.bool
  exact ⟨q0,qc0,he.trans (congrArg (fun l=>Ending.returned (aP1 l)) (congr (congrArg List.cons e0) (congr (congrArg List.cons e1) rfl))),f0,bel⟩
theorem bGC (p:Option Addr) (len cap:Nat) (k0:Int) (l:List Bool) (bl:List Nat) (w:World) (h:Un bZ w [.slice p len cap] l bl) (hnd:bl.Nodup) (h0:0<=k0) (h1:k0+l.length<=1000000000000) :
  Calls Tryz.prog 44 #[.slice p len cap,.int .i64 k0] w (bDG bZ w [.slice p len cap] (mk bZ l k0) bl (k0+(jI bZ l:Int))):=by
 obtain ⟨rfl,hmx⟩:=aL3 h
 have HL:=Lib.hid (aVH l k0)
 unfold maxLen at hmx
 go_enter Tryz.func44,Tryz.ntmps44
 go_wp2
 go_loopw [1,5] (fun q i wr=>∃ k:Nat,k<=l.length/\i = .int .i64 k/\q = .int .i64 (k0+k)/\Only bl w wr/\Un bZ wr [.slice p l.length cap] ((mk bZ l k0:List Bool).take k++l.drop k) bl) (fun _ i _=>l.length - (intOf i).toNat)
 case atStart=>exact ⟨0,by omega,rfl,by simp,Only.refl _ _,by simpa using h⟩
 case round =>
  obtain ⟨k,hk,rfl,rfl,hb,hf⟩:=hrel
  clear h
  by_cases hlt:k<l.length
  ·have hkk:k<((mk bZ l k0:List Bool).take k++l.drop k).length:=by simp only[List.length_append,List.length_take,List.length_drop,HL.out];omega
   obtain ⟨b,cap',c,bk,hv,hbm,-,hfz,hcl,hc,hR,-,-,-,-,hU⟩:=aQ8 hf hnd k hkk
   simp only[Value.slice.injEq] at hv
   obtain ⟨rfl,-,-⟩:=hv
   obtain ⟨rfl,rfl⟩:=hR
   have c1:wr.cell? ⟨b,k,none⟩=some (.bool l[k]):=by
    have:=hc 0 (by simp)
    simp only[Ty.n,Nat.mul_one,Nat.add_zero,List.getElem_cons_zero] at this
    rw[this,aEW _ _ _ hlt HL.out]
   have c2:=hfz k
   have HU:=Lib.hid (hU 0 (.bool ((k0+k) % 3==0)) ((k0+k) % 3==0) (by simp) ⟨rfl,rfl⟩)
   have HM:=Lib.hid ((bUU l k0 k hlt).trans (show decide ((k0+(k:Int)) % 3=0)=((k0+(k:Int)) % 3==0) from rfl))
   clear hU hc hfz hf
   go_wp2
   go_roundw
   case rel =>
    refine ⟨k+1,by omega,by go_num,by go_num,hb.setCell hbm _,?_⟩
    have h2:=HU.out
    rw[aJ0 _ _ _ hlt HL.out _ HM.out] at h2
    simp only[Ty.n,Nat.mul_one,Nat.add_zero] at h2
    exact h2
   case measure=>simp[intOf];omega
  ·go_wp2
   go_ret
   obtain rfl:k=l.length:=by omega
   refine ⟨iF (by rw[bCG]),?_,hb⟩
   have e1:(mk bZ l k0:List Bool).take l.length++l.drop l.length=mk bZ l k0:=by
    rw[List.drop_length,List.append_nil,List.take_of_length_le (by rw[HL.out];exact Nat.le_refl _)]
   rw[e1] at hf
   exact hf
set_option maxHeartbeats 4000000 in
set_option maxRecDepth 100000 in
theorem bO2 (p:Option Addr) (len cap:Nat) (k0:Int) (l:List bQ.D) (bl:List Nat) (w:World) (h:Un (.slice 98 bQ) w [.slice p len cap] l bl) (hnd:bl.Nodup) (h0:0<=k0) (h1:k0+(jI (.slice 98 bQ) l:Nat)<=1000000000000) :
  Calls Tryz.prog 77 #[.slice p len cap,.int .i64 k0] w (bDG (.slice 98 bQ) w [.slice p len cap] (mk (.slice 98 bQ) l k0) bl (k0+(jI (.slice 98 bQ) l:Nat))):=by
 obtain ⟨rfl,hmx⟩:=aL3 h
 have HL:=Lib.hid (aCU (e:=98) (t:=bQ) l k0)
 rw[qF] at h1
 have hbl:=aF2 _ _ _ _ _ h
 unfold maxLen at hmx
 go_enter Tryz.func77,Tryz.ntmps77
 go_wp2
 go_loopw [1,5] (fun q i wr=>∃ k:Nat,k<=l.length/\i = .int .i64 k/\(∃ kk:Int,q = .int .i64 kk/\Hid (kk=k0+(((l.take k).map (jI bQ)).sum:Nat))/\0<=kk/\kk<=1000000000000)/\Only bl w wr/\Hid (Un (.slice 98 bQ) wr [.slice p l.length cap] ((mk (.slice 98 bQ) l k0:List bQ.D).take k++l.drop k) bl)) (fun _ i _=>l.length - (intOf i).toNat)
 case atStart=>exact ⟨0,by omega,rfl,⟨_,rfl,by show _=_;simp,by omega,by omega⟩,Only.refl _ _,by show Un _ _ _ _ _;simpa using h⟩
 case round =>
  obtain ⟨k,hk,rfl,⟨kk,rfl,hkk,hk0,hk1⟩,hb,hf⟩:=hrel
  clear h
  by_cases hlt:k<l.length
  ·obtain ⟨M,hM⟩:∃ M,M=(mk (.slice 98 bQ) l k0:List bQ.D).take k++l.drop k:=⟨_,rfl⟩
   have hkl:k<M.length:=by rw[hM];simp only[List.length_append,List.length_take,List.length_drop,HL.out];omega
   obtain ⟨x,hx⟩:∃ x,l[k]=x:=⟨_,rfl⟩
   have hMk:M[k]=x:=by subst hM;rw[aEW _ _ _ hlt HL.out,hx]
   have hset:∀ y,(mk (.slice 98 bQ) l k0:List bQ.D)[k]'(by rw[HL.out];exact hlt)=y->M.set k y=(mk (.slice 98 bQ) l k0:List bQ.D).take (k+1)++l.drop (k+1):=fun y hy=>by subst hM;exact aJ0 _ _ _ hlt HL.out _ hy
   have hmk:=aSH (e:=98) (t:=bQ) l k0 k hlt (by rw[HL.out];exact hlt)
   rw[hx,<- hkk.out] at hmk
   have hs1:=gC (jI bQ) l k hlt
   have hs2:=rL (jI bQ) l (k+1)
   rw[hx] at hs1
   have hf0:Un (.slice 98 bQ) wr [.slice p l.length cap] (M.set k x) bl:=by have hf1:=hf.out;rw[<- hM] at hf1;rw[<- hMk,List.set_getElem_self];exact hf1
   have hxb:kk+(jI bQ x:Nat)<=1000000000000:=by have:=hkk.out;omega
   have HS1:=Lib.hid hs1;have HSET:=Lib.hid hset;have HMK:=Lib.hid hmk
   clear hx hM hs1 hs2 hset hmk hf hMk
   obtain ⟨x0,⟨x1,⟨x2,x3⟩⟩⟩:=x
   have hcx:jI bQ (x0,(x1,(x2,x3)))=1+1+1+jI aA x3:=by first|rfl|(simp only[jI];omega)
   rw[hcx] at hxb
   clear hcx
   obtain ⟨b0,cap0,cu0,bu0,hv0,hbm0,hfz0,hc0,hR0,hn0,hs0,hA0,hB0⟩:=zH hf0 hnd hkl [false]
   simp only[Value.slice.injEq,fL,Addr.mk.injEq,and_true] at hv0
   obtain ⟨rfl,-,-⟩:=hv0
   have hq0:Un pZ wr cu0 x0 bu0:=hR0
   have hl0:cu0.length=1:=by rw[hq0.1];rfl
   have e0:∃ u,wr.cell? ⟨b0,k * 4,none⟩=some u:=⟨_,hc0 0 (by rw[hl0];exact Nat.zero_lt_one)⟩
   obtain ⟨u0,e0⟩:=e0
   have g0:wr.frozen? ⟨b0,k * 4,none⟩=false:=hfz0 _
   have hg0:Un (.slice 98 bQ) (wr.setCell ⟨b0,k * 4,none⟩ (.int .i64 (kk))) [.slice (some ⟨b0,0,none⟩) l.length cap] (M.set k (aVI bQ [false] _ (show Ty.D pZ from (kk:Int)))) bl:=hB0 (.int .i64 (kk)) _ hl0 ⟨rfl,aJA (show -9223372036854775808<=(kk:Int)/\(kk:Int)<=9223372036854775807 by omega),hq0.2.2⟩
   have hb0:Only bl w (wr.setCell ⟨b0,k * 4,none⟩ (.int .i64 (kk))):=Only.setCell hb hbm0 _
   clear hA0 hB0 hc0 hfz0 hR0 hq0 hl0
   obtain ⟨b1,cap1,cu1,bu1,hv1,hbm1,hfz1,hc1,hR1,hn1,hs1,hA1,hB1⟩:=zH hg0 hnd hkl [true,false]
   simp only[Value.slice.injEq,fL,Addr.mk.injEq,and_true] at hv1
   obtain ⟨hvb,-,-⟩:=hv1
   subst hvb
   have hq1:Un pZ (wr.setCell ⟨b0,k * 4,none⟩ (.int .i64 (kk))) cu1 x1 bu1:=hR1
   have hl1:cu1.length=1:=by rw[hq1.1];rfl
   have e1:∃ u,(wr.setCell ⟨b0,k * 4,none⟩ (.int .i64 (kk))).cell? ⟨b0,k * 4+1,none⟩=some u:=⟨_,hc1 0 (by rw[hl1];exact Nat.zero_lt_one)⟩
   obtain ⟨u1,e1⟩:=e1
   have g1:(wr.setCell ⟨b0,k * 4,none⟩ (.int .i64 (kk))).frozen? ⟨b0,k * 4+1,none⟩=false:=hfz1 _
   have hg1:Un (.slice 98 bQ) ((wr.setCell ⟨b0,k * 4,none⟩ (.int .i64 (kk))).setCell ⟨b0,k * 4+1,none⟩ (.int .i64 (kk+1))) [.slice (some ⟨b0,0,none⟩) l.length cap] (M.set k (aVI bQ [true,false] _ (show Ty.D pZ from (kk+1:Int)))) bl:=hB1 (.int .i64 (kk+1)) _ hl1 ⟨rfl,aJA (show -9223372036854775808<=(kk+1:Int)/\(kk+1:Int)<=9223372036854775807 by omega),hq1.2.2⟩
   have hb1:Only bl w ((wr.setCell ⟨b0,k * 4,none⟩ (.int .i64 (kk))).setCell ⟨b0,k * 4+1,none⟩ (.int .i64 (kk+1))):=Only.setCell hb0 hbm0 _
   clear hA1 hB1 hc1 hfz1 hR1 hq1 hl1
   obtain ⟨b2,cap2,cu2,bu2,hv2,hbm2,hfz2,hc2,hR2,hn2,hs2,hA2,hB2⟩:=zH hg1 hnd hkl [true,true,false]
   simp only[Value.slice.injEq,fL,Addr.mk.injEq,and_true] at hv2
   obtain ⟨hvb,-,-⟩:=hv2
   subst hvb
   have hq2:Un pZ ((wr.setCell ⟨b0,k * 4,none⟩ (.int .i64 (kk))).setCell ⟨b0,k * 4+1,none⟩ (.int .i64 (kk+1))) cu2 x2 bu2:=hR2
   have hl2:cu2.length=1:=by rw[hq2.1];rfl
   have e2:∃ u,((wr.setCell ⟨b0,k * 4,none⟩ (.int .i64 (kk))).setCell ⟨b0,k * 4+1,none⟩ (.int .i64 (kk+1))).cell? ⟨b0,k * 4+2,none⟩=some u:=⟨_,hc2 0 (by rw[hl2];exact Nat.zero_lt_one)⟩
   obtain ⟨u2,e2⟩:=e2
   have g2:((wr.setCell ⟨b0,k * 4,none⟩ (.int .i64 (kk))).setCell ⟨b0,k * 4+1,none⟩ (.int .i64 (kk+1))).frozen? ⟨b0,k * 4+2,none⟩=false:=hfz2 _
   have hg2:Un (.slice 98 bQ) (((wr.setCell ⟨b0,k * 4,none⟩ (.int .i64 (kk))).setCell ⟨b0,k * 4+1,none⟩ (.int .i64 (kk+1))).setCell ⟨b0,k * 4+2,none⟩ (.int .i64 (kk+1+1))) [.slice (some ⟨b0,0,none⟩) l.length cap] (M.set k (aVI bQ [true,true,false] _ (show Ty.D pZ from (kk+1+1:Int)))) bl:=hB2 (.int .i64 (kk+1+1)) _ hl2 ⟨rfl,aJA (show -9223372036854775808<=(kk+1+1:Int)/\(kk+1+1:Int)<=9223372036854775807 by omega),hq2.2.2⟩
   have hb2:Only bl w (((wr.setCell ⟨b0,k * 4,none⟩ (.int .i64 (kk))).setCell ⟨b0,k * 4+1,none⟩ (.int .i64 (kk+1))).setCell ⟨b0,k * 4+2,none⟩ (.int .i64 (kk+1+1))):=Only.setCell hb1 hbm0 _
   clear hA2 hB2 hc2 hfz2 hR2 hq2 hl2
   obtain ⟨b3,cap3,cu3,bu3,hv3,hbm3,hfz3,hc3,hR3,hn3,hs3,hA3,hB3⟩:=zH hg2 hnd hkl [true,true,true]
   simp only[Value.slice.injEq,fL,Addr.mk.injEq,and_true] at hv3
   obtain ⟨hvb,-,-⟩:=hv3
   subst hvb
   obtain ⟨p3,n3,q3,rfl⟩:=aIU hR3
   have e3:(((wr.setCell ⟨b0,k * 4,none⟩ (.int .i64 (kk))).setCell ⟨b0,k * 4+1,none⟩ (.int .i64 (kk+1))).setCell ⟨b0,k * 4+2,none⟩ (.int .i64 (kk+1+1))).cell? ⟨b0,k * 4+3,none⟩=some (.slice p3 n3 q3):=hc3 0 Nat.zero_lt_one
   have HA3:=Lib.hid hA3;clear hA3 hB3 hc3 hfz3
   go_wp2_with fail
   refine (vM _ _ _ _ x3 _ _ (by exact hR3) hn3 (by omega) (by have:=uW x3;omega)).mono ?_
   rintro e w3 ⟨rfl,rp3,on3⟩
   have hg3:=HA3.out w3 _ (fun q hq hz=>on3.block q hq hz) rp3
   have hb3:Only bl w w3:=Only.trans hb2 (on3.mono hs3)
   clear HA3 rp3 hR3 e3
   have HF:=Lib.hid hg3
   clear hf0 hg0 hg1 hg2 hg3
   go_wp2
   go_roundw
   case rel =>
    refine ⟨k+1,by omega,by go_num,⟨_,rfl,by show _=_;have:=HS1.out;have:=hkk.out;have hcx9:jI bQ (x0,(x1,(x2,x3)))=1+1+1+jI aA x3:=(by first|rfl|(simp only[jI];omega));omega,by omega,by omega⟩,hb3,?_⟩
    have h2:=HF.out
    rw[HSET.out _ (HMK.out.trans (by rfl))] at h2
    exact h2
   case measure=>simp[intOf];omega
  ·go_wp2
   go_ret
   obtain rfl:k=l.length:=by omega
   have hkk:=hkk.out
   rw[List.take_length] at hkk
   refine ⟨iF (by rw[qF];exact hkk),?_,hb⟩
   have hf:=hf.out
   have e1:(mk (.slice 98 bQ) l k0:List bQ.D).take l.length++l.drop l.length=mk (.slice 98 bQ) l k0:=by
    rw[List.drop_length,List.append_nil,List.take_of_length_le (by rw[HL.out];exact Nat.le_refl _)]
   rw[e1] at hf
   exact hf
set_option maxHeartbeats 4000000 in
set_option maxRecDepth 100000 in
theorem bGA (cs:Array Value) (k0:Int) (d:aB.D) (bl:List Nat) (w:World) (h:Un aB w cs.toList d bl) (hnd:bl.Nodup) (h0:0<=k0) (h1:k0+(aCN aB d:Nat)<=1000000000000) :
  Calls Tryz.prog 42 #[.agg cs,.int .i64 k0] w (cA6 aB w cs.toList (mkt aB d k0) bl (k0+(aCN aB d:Nat))):=by
 obtain ⟨x0,hx0⟩:∃ y,y=d:=⟨_,rfl⟩
 subst hx0
 have hcx:aCN aB x0=jI (.slice 98 bQ) x0:=by first|rfl|(simp only[aCN];omega)
 rw[hcx] at h1
 clear hcx
 obtain ⟨sp0,sn0,sq0,shcs⟩:=aIU h
 obtain rfl:cs = #[.slice sp0 sn0 sq0]:=mF shcs
 clear shcs
 have hbl:=aF2 _ _ _ _ _ h
 have HH:=Lib.hid h
 go_enter Tryz.func42,Tryz.ntmps42
 obtain ⟨bu0,hR0,hn0,hs0,hA0⟩:=aTH HH.out hnd []
 have hq0:Un (.slice 98 bQ) w [.slice sp0 sn0 sq0] x0 bu0:=hR0
 have HA0:=Lib.hid hA0;have HQ0:=Lib.hid hq0;clear hA0 hR0 hq0
 go_wp2_with fail
 refine (bO2 _ _ _ _ x0 _ _ (by exact (Un.keep _ _ _ _ (fun q hq=>Below.heap_alloc _ _ _ (hbl q (hs0 q hq))) HQ0.out)) hn0 (by omega) (by omega)).mono ?_
 rintro e w90 ⟨rfl,rp0,on0⟩
 have HU1:=Lib.hid (HA0.out w90 _ (fun q hq hz=>(on0.block q hq (by simp;omega)).trans (Below.heap_alloc _ _ _ hz)) rp0)
 have O1:Only bl w w90:=Only.trans (Only.alloc (Only.refl _ w) _) (on0.mono hs0)
 have HB1:=Lib.hid (fun (a:Addr) (ha:a.block=w.heap.size)=>on0.cell (a:=a) (fun hm=>by have:=hbl _ (hs0 _ hm);omega) (by rw[ha];simp))
 have zb1:w.heap.size<w90.heap.size:=by have:=on0.size;(try simp at this);omega
 clear HA0 HQ0 rp0
 go_wp2
 go_ret
 exact ⟨iF (by have hcx:aCN aB x0=jI (.slice 98 bQ) x0:=(by first|rfl|(simp only[aCN];omega));rw[hcx];try omega),(by have hh:=HU1.out;first|exact hh|(have e9:mkt aB x0 k0=(mk (.slice 98 bQ) x0 (k0)):=(by simp only[mkt,aCN,Int.natCast_add,Int.natCast_zero,Int.add_zero,Int.zero_add,<- Int.add_assoc]);rw[e9];exact hh)),O1⟩
set_option maxHeartbeats 4000000 in
set_option maxRecDepth 100000 in
theorem bBR (cs:Array Value) (k0:Int) (d:aH.D) (bl:List Nat) (w:World) (h:Un aH w cs.toList d bl) (hnd:bl.Nodup) (h0:0<=k0) (h1:k0+(aCN aH d:Nat)<=1000000000000) :
  Calls Tryz.prog 14 #[.agg cs,.int .i64 k0] w (cA6 aH w cs.toList (mkt aH d k0) bl (k0+(aCN aH d:Nat))):=by
 obtain ⟨x0,⟨x1,⟨x2,⟨x3,⟨x4,x5⟩⟩⟩⟩⟩:=d
 have hcx:aCN aH (x0,(x1,(x2,(x3,(x4,x5)))))=jI (.slice 98 bQ) x0+jI aA x1+jI bZ x3+jI aA x4+jI aA x5:=by first|rfl|(simp only[aCN,aA,bZ,pZ,tI];omega)
 rw[hcx] at h1
 clear hcx
 obtain ⟨sp0,sn0,sq0,sp1,sn1,sq1,sp3,sn3,sq3,sp4,sn4,sq4,sp5,sn5,sq5,shcs,ss0,ss1,sw2,ss3,ss4,ss5⟩:=aKU (cC3 h)
 obtain rfl:cs = #[.slice sp0 sn0 sq0,.slice sp1 sn1 sq1,.int .i64 x2,.slice sp3 sn3 sq3,.slice sp4 sn4 sq4,.slice sp5 sn5 sq5]:=mF shcs
 clear shcs
 have hbl:=aF2 _ _ _ _ _ h
 have HH:=Lib.hid h
 go_enter Tryz.func14,Tryz.ntmps14
 obtain ⟨bu0,hR0,hn0,hs0,hA0⟩:=aTH HH.out hnd [false]
 have hq0:Un aB w [.slice sp0 sn0 sq0] x0 bu0:=hR0
 have HA0:=Lib.hid hA0;have HQ0:=Lib.hid hq0;clear hA0 hR0 hq0
 go_wp2_with fail
 have ee0:aCN aB x0=jI (.slice 98 bQ) x0:=by first|rfl|(simp only[aCN,aA,bZ,pZ,tI];omega)
 have eb0:k0+(aCN aB x0:Nat)<=1000000000000:=by rw[ee0];omega
 refine (bGA _ _ x0 _ _ (by exact (Un.keep _ _ _ _ (fun q hq=>Below.heap_alloc _ _ _ (hbl q (hs0 q hq))) HQ0.out)) hn0 (by omega) eb0).mono ?_
 rintro e w90 ⟨rfl,rp0,on0⟩
 rw[ee0]
 have HU1:=Lib.hid (HA0.out w90 _ (fun q hq hz=>(on0.block q hq (by simp;omega)).trans (Below.heap_alloc _ _ _ hz)) rp0)
 have O1:Only bl w w90:=Only.trans (Only.alloc (Only.refl _ w) _) (on0.mono hs0)
 have HB1:=Lib.hid (fun (a:Addr) (ha:a.block=w.heap.size)=>on0.cell (a:=a) (fun hm=>by have:=hbl _ (hs0 _ hm);omega) (by rw[ha];simp))
 have zb1:w.heap.size<w90.heap.size:=by have:=on0.size;(try simp at this);omega
 clear HA0 HQ0 rp0
 obtain ⟨bu1,hR1,hn1,hs1,hA1⟩:=aTH HU1.out hnd [true,false]
 have hq1:Un aA w90 [.slice sp1 sn1 sq1] x1 bu1:=hR1
 have HA1:=Lib.hid hA1;have HQ1:=Lib.hid hq1;clear hA1 hR1 hq1
 skip
 have q1_1:w90.cell? ⟨w.heap.size,1,none⟩=some (.slice sp1 sn1 sq1):=(HB1.out ⟨w.heap.size,1,none⟩ rfl).trans (by simp)
 go_wp2_with fail
 refine (vM _ _ _ _ x1 _ _ (by exact HQ1.out) hn1 (by omega) (by have:=uW x1;omega)).mono ?_
 rintro e w91 ⟨rfl,rp1,on1⟩
 have HU2:=Lib.hid (HA1.out w91 _ (fun q hq hz=>on1.block q hq hz) rp1)
 have O2:Only bl w w91:=Only.trans O1 (on1.mono hs1)
 have HB2:=Lib.hid (fun (a:Addr) (ha:a.block=w.heap.size)=>(on1.cell (a:=a) (fun hm=>by have:=hbl _ (hs1 _ hm);omega) (by rw[ha];exact zb1)).trans (HB1.out a ha))
 clear q1_1
 have zb2:w.heap.size<w91.heap.size:=by have:=on1.size;(try simp at this);omega
 clear HA1 HQ1 rp1
 obtain ⟨bu3,hR3,hn3,hs3,hA3⟩:=aTH HU2.out hnd [true,true,true,false]
 have hq3:Un bZ w91 [.slice sp3 sn3 sq3] x3 bu3:=hR3
 have HA3:=Lib.hid hA3;have HQ3:=Lib.hid hq3;clear hA3 hR3 hq3
 skip
 have q3_2:w91.cell? ⟨w.heap.size,3,none⟩=some (.slice sp3 sn3 sq3):=(HB2.out ⟨w.heap.size,3,none⟩ rfl).trans (by simp)
 go_wp2_with fail
 refine (bGC _ _ _ _ x3 _ _ (by exact HQ3.out) hn3 (by omega) (by have:=bCG x3;omega)).mono ?_
 rintro e w93 ⟨rfl,rp3,on3⟩
 have HU3:=Lib.hid (HA3.out w93 _ (fun q hq hz=>on3.block q hq hz) rp3)
 have O3:Only bl w w93:=Only.trans O2 (on3.mono hs3)
 have HB3:=Lib.hid (fun (a:Addr) (ha:a.block=w.heap.size)=>(on3.cell (a:=a) (fun hm=>by have:=hbl _ (hs3 _ hm);omega) (by rw[ha];exact zb2)).trans (HB2.out a ha))
 clear q3_2
 have zb3:w.heap.size<w93.heap.size:=by have:=on3.size;(try simp at this);omega
 clear HA3 HQ3 rp3
 obtain ⟨bu4,hR4,hn4,hs4,hA4⟩:=aTH HU3.out hnd [true,true,true,true,false]
 have hq4:Un aA w93 [.slice sp4 sn4 sq4] x4 bu4:=hR4
 have HA4:=Lib.hid hA4;have HQ4:=Lib.hid hq4;clear hA4 hR4 hq4
 skip
 have q4_3:w93.cell? ⟨w.heap.size,4,none⟩=some (.slice sp4 sn4 sq4):=(HB3.out ⟨w.heap.size,4,none⟩ rfl).trans (by simp)
 go_wp2_with fail
 refine (vM _ _ _ _ x4 _ _ (by exact HQ4.out) hn4 (by omega) (by have:=uW x4;omega)).mono ?_
 rintro e w94 ⟨rfl,rp4,on4⟩
 have HU4:=Lib.hid (HA4.out w94 _ (fun q hq hz=>on4.block q hq hz) rp4)
 have O4:Only bl w w94:=Only.trans O3 (on4.mono hs4)
 have HB4:=Lib.hid (fun (a:Addr) (ha:a.block=w.heap.size)=>(on4.cell (a:=a) (fun hm=>by have:=hbl _ (hs4 _ hm);omega) (by rw[ha];exact zb3)).trans (HB3.out a ha))
 clear q4_3
 have zb4:w.heap.size<w94.heap.size:=by have:=on4.size;(try simp at this);omega
 clear HA4 HQ4 rp4
 obtain ⟨bu5,hR5,hn5,hs5,hA5⟩:=aTH HU4.out hnd [true,true,true,true,true]
 have hq5:Un aA w94 [.slice sp5 sn5 sq5] x5 bu5:=hR5
 have HA5:=Lib.hid hA5;have HQ5:=Lib.hid hq5;clear hA5 hR5 hq5
 skip
 have q5_4:w94.cell? ⟨w.heap.size,5,none⟩=some (.slice sp5 sn5 sq5):=(HB4.out ⟨w.heap.size,5,none⟩ rfl).trans (by simp)
 go_wp2_with fail
 refine (vM _ _ _ _ x5 _ _ (by exact HQ5.out) hn5 (by omega) (by have:=uW x5;omega)).mono ?_
 rintro e w95 ⟨rfl,rp5,on5⟩
 have HU5:=Lib.hid (HA5.out w95 _ (fun q hq hz=>on5.block q hq hz) rp5)
 have O5:Only bl w w95:=Only.trans O4 (on5.mono hs5)
 have HB5:=Lib.hid (fun (a:Addr) (ha:a.block=w.heap.size)=>(on5.cell (a:=a) (fun hm=>by have:=hbl _ (hs5 _ hm);omega) (by rw[ha];exact zb4)).trans (HB4.out a ha))
 clear q5_4
 have zb5:w.heap.size<w95.heap.size:=by have:=on5.size;(try simp at this);omega
 clear HA5 HQ5 rp5
 go_wp2
 go_ret
 exact ⟨iF (by have hcx:aCN aH (x0,(x1,(x2,(x3,(x4,x5)))))=jI (.slice 98 bQ) x0+jI aA x1+jI bZ x3+jI aA x4+jI aA x5:=(by first|rfl|(simp only[aCN,aA,bZ,pZ,tI];omega));rw[hcx];try omega),(by have hh:=HU5.out;first|exact hh|(have e9:mkt aH (x0,(x1,(x2,(x3,(x4,x5))))) k0=((mk (.slice 98 bQ) x0 (k0)),((mk aA x1 (k0+(jI (.slice 98 bQ) x0:Nat))),(x2,((mk bZ x3 (k0+(jI (.slice 98 bQ) x0:Nat)+(jI aA x1:Nat))),((mk aA x4 (k0+(jI (.slice 98 bQ) x0:Nat)+(jI aA x1:Nat)+(jI bZ x3:Nat))),(mk aA x5 (k0+(jI (.slice 98 bQ) x0:Nat)+(jI aA x1:Nat)+(jI bZ x3:Nat)+(jI aA x4:Nat)))))))):=(by simp only[mkt,aCN,Int.natCast_add,Int.natCast_zero,Int.add_zero,Int.zero_add,<- Int.add_assoc]);rw[e9];exact hh)),O5⟩
set_option maxHeartbeats 4000000 in
set_option maxRecDepth 100000 in
theorem bGT (p:Option Addr) (len cap:Nat) (k0:Int) (l:List aF.D) (bl:List Nat) (w:World) (h:Un (.slice 77 aF) w [.slice p len cap] l bl) (hnd:bl.Nodup) (h0:0<=k0) (h1:k0+(jI (.slice 77 aF) l:Nat)<=1000000000000) :
  Calls Tryz.prog 15 #[.slice p len cap,.int .i64 k0] w (bDG (.slice 77 aF) w [.slice p len cap] (mk (.slice 77 aF) l k0) bl (k0+(jI (.slice 77 aF) l:Nat))):=by
 obtain ⟨rfl,hmx⟩:=aL3 h
 have HL:=Lib.hid (aCU (e:=77) (t:=aF) l k0)
 rw[qF] at h1
 have hbl:=aF2 _ _ _ _ _ h
 unfold maxLen at hmx
 go_enter Tryz.func15,Tryz.ntmps15
 go_wp2
 go_loopw [1,5] (fun q i wr=>∃ k:Nat,k<=l.length/\i = .int .i64 k/\(∃ kk:Int,q = .int .i64 kk/\Hid (kk=k0+(((l.take k).map (jI aF)).sum:Nat))/\0<=kk/\kk<=1000000000000)/\Only bl w wr/\Hid (Un (.slice 77 aF) wr [.slice p l.length cap] ((mk (.slice 77 aF) l k0:List aF.D).take k++l.drop k) bl)) (fun _ i _=>l.length - (intOf i).toNat)
 case atStart=>exact ⟨0,by omega,rfl,⟨_,rfl,by show _=_;simp,by omega,by omega⟩,Only.refl _ _,by show Un _ _ _ _ _;simpa using h⟩
 case round =>
  obtain ⟨k,hk,rfl,⟨kk,rfl,hkk,hk0,hk1⟩,hb,hf⟩:=hrel
  clear h
  by_cases hlt:k<l.length
  ·obtain ⟨M,hM⟩:∃ M,M=(mk (.slice 77 aF) l k0:List aF.D).take k++l.drop k:=⟨_,rfl⟩
   have hkl:k<M.length:=by rw[hM];simp only[List.length_append,List.length_take,List.length_drop,HL.out];omega
   obtain ⟨x,hx⟩:∃ x,l[k]=x:=⟨_,rfl⟩
   have hMk:M[k]=x:=by subst hM;rw[aEW _ _ _ hlt HL.out,hx]
   have hset:∀ y,(mk (.slice 77 aF) l k0:List aF.D)[k]'(by rw[HL.out];exact hlt)=y->M.set k y=(mk (.slice 77 aF) l k0:List aF.D).take (k+1)++l.drop (k+1):=fun y hy=>by subst hM;exact aJ0 _ _ _ hlt HL.out _ hy
   have hmk:=aSH (e:=77) (t:=aF) l k0 k hlt (by rw[HL.out];exact hlt)
   rw[hx,<- hkk.out] at hmk
   have hs1:=gC (jI aF) l k hlt
   have hs2:=rL (jI aF) l (k+1)
   rw[hx] at hs1
   have hf0:Un (.slice 77 aF) wr [.slice p l.length cap] (M.set k x) bl:=by have hf1:=hf.out;rw[<- hM] at hf1;rw[<- hMk,List.set_getElem_self];exact hf1
   have hxb:kk+(jI aF x:Nat)<=1000000000000:=by have:=hkk.out;omega
   have HS1:=Lib.hid hs1;have HSET:=Lib.hid hset;have HMK:=Lib.hid hmk
   clear hx hM hs1 hs2 hset hmk hf hMk
   obtain ⟨x0,x1⟩:=x
   have hcx:jI aF (x0,x1)=jI aA x0+jI aA x1:=by first|rfl|(simp only[jI];omega)
   rw[hcx] at hxb
   clear hcx
   obtain ⟨b0,cap0,cu0,bu0,hv0,hbm0,hfz0,hc0,hR0,hn0,hs0,hA0,hB0⟩:=zH hf0 hnd hkl [false]
   simp only[Value.slice.injEq,fL,Addr.mk.injEq,and_true] at hv0
   obtain ⟨rfl,-,-⟩:=hv0
   obtain ⟨p0,n0,q0,rfl⟩:=aIU hR0
   have e0:wr.cell? ⟨b0,k * 2,none⟩=some (.slice p0 n0 q0):=hc0 0 Nat.zero_lt_one
   have HA0:=Lib.hid hA0;clear hA0 hB0 hc0 hfz0
   go_wp2_with fail
   refine (vM _ _ _ _ x0 _ _ (by exact hR0) hn0 (by omega) (by have:=uW x0;omega)).mono ?_
   rintro e w0 ⟨rfl,rp0,on0⟩
   have hg0:=HA0.out w0 _ (fun q hq hz=>on0.block q hq hz) rp0
   have hb0:Only bl w w0:=Only.trans hb (on0.mono hs0)
   clear HA0 rp0 hR0 e0
   obtain ⟨b1,cap1,cu1,bu1,hv1,hbm1,hfz1,hc1,hR1,hn1,hs1,hA1,hB1⟩:=zH hg0 hnd hkl [true]
   simp only[Value.slice.injEq,fL,Addr.mk.injEq,and_true] at hv1
   obtain ⟨hvb,-,-⟩:=hv1
   subst hvb
   obtain ⟨p1,n1,q1,rfl⟩:=aIU hR1
   have e1:w0.cell? ⟨b0,k * 2+1,none⟩=some (.slice p1 n1 q1):=hc1 0 Nat.zero_lt_one
   have HA1:=Lib.hid hA1;clear hA1 hB1 hc1 hfz1
   go_wp2_with fail
   refine (vM _ _ _ _ x1 _ _ (by exact hR1) hn1 (by omega) (by have:=uW x1;omega)).mono ?_
   rintro e w1 ⟨rfl,rp1,on1⟩
   have hg1:=HA1.out w1 _ (fun q hq hz=>on1.block q hq hz) rp1
   have hb1:Only bl w w1:=Only.trans hb0 (on1.mono hs1)
   clear HA1 rp1 hR1 e1
   have HF:=Lib.hid hg1
   clear hf0 hg0 hg1
   go_wp2
   go_roundw
   case rel =>
    refine ⟨k+1,by omega,by go_num,⟨_,rfl,by show _=_;have:=HS1.out;have:=hkk.out;have hcx9:jI aF (x0,x1)=jI aA x0+jI aA x1:=(by first|rfl|(simp only[jI];omega));omega,by omega,by omega⟩,hb1,?_⟩
    have h2:=HF.out
    rw[HSET.out _ (HMK.out.trans (by rfl))] at h2
    exact h2
   case measure=>simp[intOf];omega
  ·go_wp2
   go_ret
   obtain rfl:k=l.length:=by omega
   have hkk:=hkk.out
   rw[List.take_length] at hkk
   refine ⟨iF (by rw[qF];exact hkk),?_,hb⟩
   have hf:=hf.out
   have e1:(mk (.slice 77 aF) l k0:List aF.D).take l.length++l.drop l.length=mk (.slice 77 aF) l k0:=by
    rw[List.drop_length,List.append_nil,List.take_of_length_le (by rw[HL.out];exact Nat.le_refl _)]
   rw[e1] at hf
   exact hf
set_option maxRecDepth 100000
set_option maxHeartbeats 4000000 in
theorem bKL (p:Option Addr) (len cap:Nat) (k0:Int) (l:List eF.D) (bl:List Nat) (w:World) (h:Un (.slice 117 eF) w [.slice p len cap] l bl) (hnd:bl.Nodup) (h0:0<=k0) (h1:k0+(jI (.slice 117 eF) l:Nat)<=1000000000000) :
  Calls Tryz.prog 45 #[.slice p len cap,.int .i64 k0] w (bDG (.slice 117 eF) w [.slice p len cap] (mk (.slice 117 eF) l k0) bl (k0+(jI (.slice 117 eF) l:Nat))):=by
 obtain ⟨rfl,hmx⟩:=aL3 h
 have HL:=Lib.hid (aCU (e:=117) (t:=eF) l k0)
 rw[qF] at h1
 have hbl:=aF2 _ _ _ _ _ h
 unfold maxLen at hmx
 go_enter Tryz.func45,Tryz.ntmps45
 go_wp2
 go_loopw [1,5] (fun q i wr=>∃ k:Nat,k<=l.length/\i = .int .i64 k/\(∃ kk:Int,q = .int .i64 kk/\Hid (kk=k0+(((l.take k).map (jI eF)).sum:Nat))/\0<=kk/\kk<=1000000000000)/\Only bl w wr/\Hid (Un (.slice 117 eF) wr [.slice p l.length cap] ((mk (.slice 117 eF) l k0:List eF.D).take k++l.drop k) bl)) (fun _ i _=>l.length - (intOf i).toNat)
 case atStart=>exact ⟨0,by omega,rfl,⟨_,rfl,by show _=_;simp,by omega,by omega⟩,Only.refl _ _,by show Un _ _ _ _ _;simpa using h⟩
 case round =>
  obtain ⟨k,hk,rfl,⟨kk,rfl,hkk,hk0,hk1⟩,hb,hf⟩:=hrel
  clear h
  by_cases hlt:k<l.length
  ·obtain ⟨M,hM⟩:∃ M,M=(mk (.slice 117 eF) l k0:List eF.D).take k++l.drop k:=⟨_,rfl⟩
   have hkl:k<M.length:=by rw[hM];simp only[List.length_append,List.length_take,List.length_drop,HL.out];omega
   obtain ⟨x,hx⟩:∃ x,l[k]=x:=⟨_,rfl⟩
   have hMk:M[k]=x:=by subst hM;rw[aEW _ _ _ hlt HL.out,hx]
   have hset:∀ y,(mk (.slice 117 eF) l k0:List eF.D)[k]'(by rw[HL.out];exact hlt)=y->M.set k y=(mk (.slice 117 eF) l k0:List eF.D).take (k+1)++l.drop (k+1):=fun y hy=>by subst hM;exact aJ0 _ _ _ hlt HL.out _ hy
   have hmk:=aSH (e:=117) (t:=eF) l k0 k hlt (by rw[HL.out];exact hlt)
   rw[hx,<- hkk.out] at hmk
   have hs1:=gC (jI eF) l k hlt
   have hs2:=rL (jI eF) l (k+1)
   rw[hx] at hs1
   have hf0:Un (.slice 117 eF) wr [.slice p l.length cap] (M.set k x) bl:=by have hf1:=hf.out;rw[<- hM] at hf1;rw[<- hMk,List.set_getElem_self];exact hf1
   have hxb:kk+(jI eF x:Nat)<=1000000000000:=by have:=hkk.out;omega
   have HS1:=Lib.hid hs1;have HSET:=Lib.hid hset;have HMK:=Lib.hid hmk
   clear hx hM hs1 hs2 hset hmk hf hMk
   obtain ⟨x0,hx0⟩:∃ y,y=x:=⟨_,rfl⟩
   subst hx0
   have hcx:jI eF x0=jI aA x0:=by first|rfl|(simp only[jI];omega)
   rw[hcx] at hxb
   clear hcx
   obtain ⟨b0,cap0,cu0,bu0,hv0,hbm0,hfz0,hc0,hR0,hn0,hs0,hA0,hB0⟩:=zH hf0 hnd hkl []
   simp only[Value.slice.injEq,fL,Addr.mk.injEq,and_true] at hv0
   obtain ⟨rfl,-,-⟩:=hv0
   obtain ⟨p0,n0,q0,rfl⟩:=aIU hR0
   have e0:wr.cell? ⟨b0,k,none⟩=some (.slice p0 n0 q0):=by have hh:=hc0 0 Nat.zero_lt_one;rw[show Ty.n eF=1 from rfl,Nat.mul_one,show aXW eF []+0=0 from rfl,Nat.add_zero] at hh;exact hh
   have HA0:=Lib.hid hA0;clear hA0 hB0 hc0 hfz0
   go_wp2_with fail
   refine (vM _ _ _ _ x0 _ _ (by exact hR0) hn0 (by omega) (by have:=uW x0;omega)).mono ?_
   rintro e w0 ⟨rfl,rp0,on0⟩
   have hg0:=HA0.out w0 _ (fun q hq hz=>on0.block q hq hz) rp0
   have hb0:Only bl w w0:=Only.trans hb (on0.mono hs0)
   clear HA0 rp0 hR0 e0
   have HF:=Lib.hid hg0
   clear hf0 hg0
   go_wp2
   go_roundw
   case rel =>
    refine ⟨k+1,by omega,by go_num,⟨_,rfl,by show _=_;have:=HS1.out;have:=hkk.out;have hcx9:jI eF x0=jI aA x0:=(by first|rfl|(simp only[jI];omega));omega,by omega,by omega⟩,hb0,?_⟩
    have h2:=HF.out
    rw[HSET.out _ (HMK.out.trans (by rfl))] at h2
    exact h2
   case measure=>simp[intOf];omega
  ·go_wp2
   go_ret
   obtain rfl:k=l.length:=by omega
   have hkk:=hkk.out
   rw[List.take_length] at hkk
   refine ⟨iF (by rw[qF];exact hkk),?_,hb⟩
   have hf:=hf.out
   have e1:(mk (.slice 117 eF) l k0:List eF.D).take l.length++l.drop l.length=mk (.slice 117 eF) l k0:=by
    rw[List.drop_length,List.append_nil,List.take_of_length_le (by rw[HL.out];exact Nat.le_refl _)]
   rw[e1] at hf
   exact hf
set_option maxHeartbeats 4000000 in
theorem bER (p:Option Addr) (len cap:Nat) (k0:Int) (l:List eF.D) (w:World) (h:jT eF.n (rd eF w) w p len cap (mk (.slice 117 eF) l k0)) (h0:0<=k0) (h1:k0+(jI (.slice 117 eF) l:Nat)<=1000000000000) :
  Calls Tryz.prog 46 #[.slice p len cap,.int .i64 k0] w (tF (.int .i64 (k0+(jI (.slice 117 eF) l:Nat))) w):=by
 have HL:=aCU (e:=117) (t:=eF) l k0
 obtain rfl:len=l.length:=by rw[h.lens];exact HL
 have hmx:l.length<=maxLen:=Nat.le_trans h.2.1 h.2.2.1
 unfold maxLen at hmx
 rw[qF] at h1
 have HL2:=Lib.hid HL
 clear HL
 go_enter Tryz.func46,Tryz.ntmps46
 go_wp2
 go_loopw [1,5] (fun q i wr=>∃ k:Nat,k<=l.length/\i = .int .i64 k/\(∃ kk:Int,q = .int .i64 kk/\Hid (kk=k0+(((l.take k).map (jI eF)).sum:Nat))/\0<=kk/\kk<=1000000000000)/\Below w.heap.size w wr) (fun _ i _=>l.length - (intOf i).toNat)
 case atStart=>exact ⟨0,by omega,rfl,⟨_,rfl,by show _=_;simp,by omega,by omega⟩,Below.refl _ _⟩
 case round =>
  obtain ⟨k,hk,rfl,⟨kk,rfl,hkk,hk0,hk1⟩,hb⟩:=hrel
  by_cases hlt:k<l.length
  ·obtain ⟨b,off,rfl,hlb,cs,hcs,hc,hR⟩:=h.2.2.2.2 k (by rw[HL2.out];exact hlt)
   have hx9:=aSH (e:=117) (t:=eF) l k0 k hlt (by rw[HL2.out];exact hlt)
   obtain ⟨x,hx⟩:∃ x,l[k]=x:=⟨_,rfl⟩
   rw[hx,<- hkk.out] at hx9
   rw[hx9] at hR
   have hs1:=gC (jI eF) l k hlt
   have hs2:=rL (jI eF) l (k+1)
   rw[hx] at hs1
   have hxb:kk+(jI eF x:Nat)<=1000000000000:=by have:=hkk.out;omega
   have HS1:=Lib.hid hs1
   clear hx hx9 hs1 hs2
   obtain ⟨x0,hx0⟩:∃ y,y=x:=⟨_,rfl⟩
   subst hx0
   have hcx:jI eF x0=jI aA x0:=by first|rfl|(simp only[jI];omega)
   rw[hcx] at hxb
   clear hcx
   have hR2:rd eF w cs (mk aA x0 (kk)):=hR
   clear hR
   obtain ⟨ap0,an0,aq0,rfl,as0⟩:=hR2
   have c0_0:wr.cell? ⟨b,off+k,none⟩=some (.slice ap0 an0 aq0):=(hb.cell hlb).trans (by have hh:=hc 0 (by simp);rw[show Ty.n eF=1 from rfl] at hh;simpa using hh)
   have HC:=Lib.hid hc
   have HA0:=Lib.hid as0
   clear h hc hcs as0
   go_wp2_with fail
   refine (bFE _ _ _ _ x0 _ (by exact jT.below HA0.out hb) (by omega) (by have:=uW x0;omega)).mono ?_
   rintro e w90 ⟨rfl,b90⟩
   have hb90:=hb.trans (b90.mono hb.size)
   have hnn0:¬ (kk+(jI aA x0:Nat)<0):=by omega
   clear c0_0
   go_wp2
   go_roundw
   case rel=>exact ⟨k+1,by omega,by go_num,⟨_,rfl,by show _=_;have:=HS1.out;have:=hkk.out;have hcx9:jI eF x0=jI aA x0:=(by first|rfl|(simp only[jI];omega));omega,by omega,by omega⟩,hb90⟩
   case measure=>simp[intOf];omega
  ·clear h
   go_wp2
   go_ret
   obtain rfl:k=l.length:=by omega
   have hkk:=hkk.out
   rw[List.take_length] at hkk
   exact ⟨iF (by rw[qF];exact hkk),hb⟩
set_option maxRecDepth 100000
set_option maxHeartbeats 4000000 in
theorem bBV (p:Option Addr) (len cap:Nat) (k0:Int) (l:List aG.D) (bl:List Nat) (w:World) (h:Un (.slice 69 aG) w [.slice p len cap] l bl) (hnd:bl.Nodup) (h0:0<=k0) (h1:k0+(jI (.slice 69 aG) l:Nat)<=1000000000000) :
  Calls Tryz.prog 16 #[.slice p len cap,.int .i64 k0] w (bDG (.slice 69 aG) w [.slice p len cap] (mk (.slice 69 aG) l k0) bl (k0+(jI (.slice 69 aG) l:Nat))):=by
 obtain ⟨rfl,hmx⟩:=aL3 h
 have HL:=Lib.hid (aCU (e:=69) (t:=aG) l k0)
 rw[qF] at h1
 have hbl:=aF2 _ _ _ _ _ h
 unfold maxLen at hmx
 go_enter Tryz.func16,Tryz.ntmps16
 go_wp2
 go_loopw [1,5] (fun q i wr=>∃ k:Nat,k<=l.length/\i = .int .i64 k/\(∃ kk:Int,q = .int .i64 kk/\Hid (kk=k0+(((l.take k).map (jI aG)).sum:Nat))/\0<=kk/\kk<=1000000000000)/\Only bl w wr/\Hid (Un (.slice 69 aG) wr [.slice p l.length cap] ((mk (.slice 69 aG) l k0:List aG.D).take k++l.drop k) bl)) (fun _ i _=>l.length - (intOf i).toNat)
 case atStart=>exact ⟨0,by omega,rfl,⟨_,rfl,by show _=_;simp,by omega,by omega⟩,Only.refl _ _,by show Un _ _ _ _ _;simpa using h⟩
 case round =>
  obtain ⟨k,hk,rfl,⟨kk,rfl,hkk,hk0,hk1⟩,hb,hf⟩:=hrel
  clear h
  by_cases hlt:k<l.length
  ·obtain ⟨M,hM⟩:∃ M,M=(mk (.slice 69 aG) l k0:List aG.D).take k++l.drop k:=⟨_,rfl⟩
   have hkl:k<M.length:=by rw[hM];simp only[List.length_append,List.length_take,List.length_drop,HL.out];omega
   obtain ⟨x,hx⟩:∃ x,l[k]=x:=⟨_,rfl⟩
   have hMk:M[k]=x:=by subst hM;rw[aEW _ _ _ hlt HL.out,hx]
   have hset:∀ y,(mk (.slice 69 aG) l k0:List aG.D)[k]'(by rw[HL.out];exact hlt)=y->M.set k y=(mk (.slice 69 aG) l k0:List aG.D).take (k+1)++l.drop (k+1):=fun y hy=>by subst hM;exact aJ0 _ _ _ hlt HL.out _ hy
   have hmk:=aSH (e:=69) (t:=aG) l k0 k hlt (by rw[HL.out];exact hlt)
   rw[hx,<- hkk.out] at hmk
   have hs1:=gC (jI aG) l k hlt
   have hs2:=rL (jI aG) l (k+1)
   rw[hx] at hs1
   have hf0:Un (.slice 69 aG) wr [.slice p l.length cap] (M.set k x) bl:=by have hf1:=hf.out;rw[<- hM] at hf1;rw[<- hMk,List.set_getElem_self];exact hf1
   have hxb:kk+(jI aG x:Nat)<=1000000000000:=by have:=hkk.out;omega
   have HS1:=Lib.hid hs1;have HSET:=Lib.hid hset;have HMK:=Lib.hid hmk
   clear hx hM hs1 hs2 hset hmk hf hMk
   obtain ⟨x0,⟨x1,x2⟩⟩:=x
   have hcx:jI aG (x0,(x1,x2))=jI (.slice 117 eF) x0+1+1:=by first|rfl|(simp only[jI];omega)
   rw[hcx] at hxb
   clear hcx
   obtain ⟨b0,cap0,cu0,bu0,hv0,hbm0,hfz0,hc0,hR0,hn0,hs0,hA0,hB0⟩:=zH hf0 hnd hkl [false]
   simp only[Value.slice.injEq,fL,Addr.mk.injEq,and_true] at hv0
   obtain ⟨rfl,-,-⟩:=hv0
   obtain ⟨p0,n0,q0,rfl⟩:=aIU hR0
   have e0:wr.cell? ⟨b0,k * 3,none⟩=some (.slice p0 n0 q0):=hc0 0 Nat.zero_lt_one
   have HA0:=Lib.hid hA0;clear hA0 hB0 hc0 hfz0
   go_wp2_with fail
   refine (bKL _ _ _ _ x0 _ _ (by exact hR0) hn0 (by omega) (by omega)).mono ?_
   rintro e w0 ⟨rfl,rp0,on0⟩
   have hg0:=HA0.out w0 _ (fun q hq hz=>on0.block q hq hz) rp0
   have hb0:Only bl w w0:=Only.trans hb (on0.mono hs0)
   clear HA0 rp0 hR0 e0
   obtain ⟨b1,cap1,cu1,bu1,hv1,hbm1,hfz1,hc1,hR1,hn1,hs1,hA1,hB1⟩:=zH hg0 hnd hkl [true,false]
   simp only[Value.slice.injEq,fL,Addr.mk.injEq,and_true] at hv1
   obtain ⟨hvb,-,-⟩:=hv1
   subst hvb
   have hq1:Un pZ w0 cu1 x1 bu1:=hR1
   have hl1:cu1.length=1:=by rw[hq1.1];rfl
   have e1:∃ u,w0.cell? ⟨b0,k * 3+1,none⟩=some u:=⟨_,hc1 0 (by rw[hl1];exact Nat.zero_lt_one)⟩
   obtain ⟨u1,e1⟩:=e1
   have g1:w0.frozen? ⟨b0,k * 3+1,none⟩=false:=hfz1 _
   have hg1:Un (.slice 69 aG) (w0.setCell ⟨b0,k * 3+1,none⟩ (.int .i64 (kk+(jI (.slice 117 eF) x0:Nat)))) [.slice (some ⟨b0,0,none⟩) l.length cap] (M.set k (aVI aG [true,false] _ (show Ty.D pZ from (kk+(jI (.slice 117 eF) x0:Nat):Int)))) bl:=hB1 (.int .i64 (kk+(jI (.slice 117 eF) x0:Nat))) _ hl1 ⟨rfl,aJA (show -9223372036854775808<=(kk+(jI (.slice 117 eF) x0:Nat):Int)/\(kk+(jI (.slice 117 eF) x0:Nat):Int)<=9223372036854775807 by omega),hq1.2.2⟩
   have hb1:Only bl w (w0.setCell ⟨b0,k * 3+1,none⟩ (.int .i64 (kk+(jI (.slice 117 eF) x0:Nat)))):=Only.setCell hb0 hbm0 _
   clear hA1 hB1 hc1 hfz1 hR1 hq1 hl1
   obtain ⟨b2,cap2,cu2,bu2,hv2,hbm2,hfz2,hc2,hR2,hn2,hs2,hA2,hB2⟩:=zH hg1 hnd hkl [true,true]
   simp only[Value.slice.injEq,fL,Addr.mk.injEq,and_true] at hv2
   obtain ⟨hvb,-,-⟩:=hv2
   subst hvb
   have hq2:Un .bool (w0.setCell ⟨b0,k * 3+1,none⟩ (.int .i64 (kk+(jI (.slice 117 eF) x0:Nat)))) cu2 x2 bu2:=hR2
   have hl2:cu2.length=1:=by rw[hq2.1];rfl
   have e2:∃ u,(w0.setCell ⟨b0,k * 3+1,none⟩ (.int .i64 (kk+(jI (.slice 117 eF) x0:Nat)))).cell? ⟨b0,k * 3+2,none⟩=some u:=⟨_,hc2 0 (by rw[hl2];exact Nat.zero_lt_one)⟩
   obtain ⟨u2,e2⟩:=e2
   have g2:(w0.setCell ⟨b0,k * 3+1,none⟩ (.int .i64 (kk+(jI (.slice 117 eF) x0:Nat)))).frozen? ⟨b0,k * 3+2,none⟩=false:=hfz2 _
   have hg2:Un (.slice 69 aG) ((w0.setCell ⟨b0,k * 3+1,none⟩ (.int .i64 (kk+(jI (.slice 117 eF) x0:Nat)))).setCell ⟨b0,k * 3+2,none⟩ (.bool ((kk+(jI (.slice 117 eF) x0:Nat)+1:Int) % 3==0))) [.slice (some ⟨b0,0,none⟩) l.length cap] (M.set k (aVI aG [true,true] _ (show Ty.D .bool from ((kk+(jI (.slice 117 eF) x0:Nat)+1:Int) % 3==0)))) bl:=hB2 (.bool ((kk+(jI (.slice 117 eF) x0:Nat)+1:Int) % 3==0)) _ hl2 ⟨rfl,hq2.2⟩
   have hb2:Only bl w ((w0.setCell ⟨b0,k * 3+1,none⟩ (.int .i64 (kk+(jI (.slice 117 eF) x0:Nat)))).setCell ⟨b0,k * 3+2,none⟩ (.bool ((kk+(jI (.slice 117 eF) x0:Nat)+1:Int) % 3==0))):=Only.setCell hb1 hbm0 _
   clear hA2 hB2 hc2 hfz2 hR2 hq2 hl2
   have HF:=Lib.hid hg2
   clear hf0 hg0 hg1 hg2
   go_wp2
   go_roundw
   case rel =>
    refine ⟨k+1,by omega,by go_num,⟨_,rfl,by show _=_;have:=HS1.out;have:=hkk.out;have hcx9:jI aG (x0,(x1,x2))=jI (.slice 117 eF) x0+1+1:=(by first|rfl|(simp only[jI];omega));omega,by omega,by omega⟩,hb2,?_⟩
    have h2:=HF.out
    rw[HSET.out _ (HMK.out.trans (by rfl))] at h2
    exact h2
   case measure=>simp[intOf];omega
  ·go_wp2
   go_ret
   obtain rfl:k=l.length:=by omega
   have hkk:=hkk.out
   rw[List.take_length] at hkk
   refine ⟨iF (by rw[qF];exact hkk),?_,hb⟩
   have hf:=hf.out
   have e1:(mk (.slice 69 aG) l k0:List aG.D).take l.length++l.drop l.length=mk (.slice 69 aG) l k0:=by
    rw[List.drop_length,List.append_nil,List.take_of_length_le (by rw[HL.out];exact Nat.le_refl _)]
   rw[e1] at hf
   exact hf
set_option maxHeartbeats 4000000 in
theorem aLQ (p:Option Addr) (len cap:Nat) (k0:Int) (l:List aG.D) (w:World) (h:jT aG.n (rd aG w) w p len cap (mk (.slice 69 aG) l k0)) (h0:0<=k0) (h1:k0+(jI (.slice 69 aG) l:Nat)<=1000000000000) :
  Calls Tryz.prog 17 #[.slice p len cap,.int .i64 k0] w (tF (.int .i64 (k0+(jI (.slice 69 aG) l:Nat))) w):=by
 have HL:=aCU (e:=69) (t:=aG) l k0
 obtain rfl:len=l.length:=by rw[h.lens];exact HL
 have hmx:l.length<=maxLen:=Nat.le_trans h.2.1 h.2.2.1
 unfold maxLen at hmx
 rw[qF] at h1
 have HL2:=Lib.hid HL
 clear HL
 go_enter Tryz.func17,Tryz.ntmps17
 go_wp2
 go_loopw [1,5] (fun q i wr=>∃ k:Nat,k<=l.length/\i = .int .i64 k/\(∃ kk:Int,q = .int .i64 kk/\Hid (kk=k0+(((l.take k).map (jI aG)).sum:Nat))/\0<=kk/\kk<=1000000000000)/\Below w.heap.size w wr) (fun _ i _=>l.length - (intOf i).toNat)
 case atStart=>exact ⟨0,by omega,rfl,⟨_,rfl,by show _=_;simp,by omega,by omega⟩,Below.refl _ _⟩
 case round =>
  obtain ⟨k,hk,rfl,⟨kk,rfl,hkk,hk0,hk1⟩,hb⟩:=hrel
  by_cases hlt:k<l.length
  ·obtain ⟨b,off,rfl,hlb,cs,hcs,hc,hR⟩:=h.2.2.2.2 k (by rw[HL2.out];exact hlt)
   have hx9:=aSH (e:=69) (t:=aG) l k0 k hlt (by rw[HL2.out];exact hlt)
   obtain ⟨x,hx⟩:∃ x,l[k]=x:=⟨_,rfl⟩
   rw[hx,<- hkk.out] at hx9
   rw[hx9] at hR
   have hs1:=gC (jI aG) l k hlt
   have hs2:=rL (jI aG) l (k+1)
   rw[hx] at hs1
   have hxb:kk+(jI aG x:Nat)<=1000000000000:=by have:=hkk.out;omega
   have HS1:=Lib.hid hs1
   clear hx hx9 hs1 hs2
   obtain ⟨x0,⟨x1,x2⟩⟩:=x
   have hcx:jI aG (x0,(x1,x2))=jI (.slice 117 eF) x0+1+1:=by first|rfl|(simp only[jI];omega)
   rw[hcx] at hxb
   clear hcx
   have hR2:rd aG w cs ((mk (.slice 117 eF) x0 (kk)),((kk+(jI (.slice 117 eF) x0:Nat)),((kk+(jI (.slice 117 eF) x0:Nat)+1) % 3==0))):=hR
   clear hR
   obtain ⟨ap0,an0,aq0,rfl,as0,aw1⟩:=aRK hR2
   have c0_0:wr.cell? ⟨b,off+k * 3,none⟩=some (.slice ap0 an0 aq0):=(hb.cell hlb).trans (by have hh:=hc 0 (by simp);rw[show Ty.n aG=3 from rfl] at hh;simpa using hh)
   have HC:=Lib.hid hc
   have HA0:=Lib.hid as0
   clear h hc hcs as0
   go_wp2_with fail
   refine (bER _ _ _ _ x0 _ (by exact jT.below HA0.out hb) (by omega) (by omega)).mono ?_
   rintro e w90 ⟨rfl,b90⟩
   have hb90:=hb.trans (b90.mono hb.size)
   have hnn0:¬ (kk+(jI (.slice 117 eF) x0:Nat)<0):=by omega
   clear c0_0
   have hc:=HC.out
   have c1_1:w90.cell? ⟨b,off+k * 3+1,none⟩=some (.int .i64 (kk+(jI (.slice 117 eF) x0:Nat))):=(hb90.cell hlb).trans (by have hh:=hc 1 (by simp);rw[show Ty.n aG=3 from rfl] at hh;simpa using hh)
   have c2_1:w90.cell? ⟨b,off+k * 3+2,none⟩=some (.bool ((kk+(jI (.slice 117 eF) x0:Nat)+1) % 3==0)):=(hb90.cell hlb).trans (by have hh:=hc 2 (by simp);rw[show Ty.n aG=3 from rfl] at hh;simpa using hh)
   clear hc
   go_wp2
   go_roundw
   case rel=>exact ⟨k+1,by omega,by go_num,⟨_,rfl,by show _=_;have:=HS1.out;have:=hkk.out;have hcx9:jI aG (x0,(x1,x2))=jI (.slice 117 eF) x0+1+1:=(by first|rfl|(simp only[jI];omega));omega,by omega,by omega⟩,hb90⟩
   case measure=>simp[intOf];omega
  ·clear h
   go_wp2
   go_ret
   obtain rfl:k=l.length:=by omega
   have hkk:=hkk.out
   rw[List.take_length] at hkk
   exact ⟨iF (by rw[qF];exact hkk),hb⟩
end Go.Proofs.YtlhaoiaieiladaaGreat
