/- Same3: lemmas. No conditions. -/
import Derived.Test.YtfmfeplebgbpmaaGreatCe
namespace Go.Proofs.YtfmfeplebgbpmaaGreat
open Go.ChangeShapes Go.WideShapes Go.ChangeAt Go.RowKit Go.Deep
set_option linter.unusedVariables false
set_option linter.unusedSimpArgs false
noncomputable def bDP (P:Nat->Prop):Nat->Nat
 | 0=>0
 | n+1=>@ite _ (P (n+1)) (Classical.propDecidable _) (n+1) (bDP P n)
theorem bLL (P:Nat->Prop):(n:Nat)->bDP P n<=n
 | 0=>Nat.le_refl _
 | n+1=>by
  unfold bDP;split
  ·exact Nat.le_refl _
  ·exact Nat.le_succ_of_le (bLL P n)
theorem bXX (P:Nat->Prop):(n k:Nat)->k<=n->P k->k<=bDP P n
 | 0,k,h,_=>h
 | n+1,k,h,hp=>by
  unfold bDP;split
  ·exact h
  ·rename_i hn
   rcases Nat.lt_or_eq_of_le h with h'|rfl
   ·exact bXX P n k (Nat.le_of_lt_succ h') hp
   ·exact absurd hp hn
theorem bY3 (P : Nat -> Prop) : (n k : Nat) -> k <= n -> P k -> P (bDP P n)
  | 0, k, h, hp => by have : k = 0 := by omega
                      subst this; exact hp
  | n + 1, k, h, hp => by
    unfold bDP; split
    · assumption
    · rename_i hn
      rcases Nat.lt_or_eq_of_le h with h' | rfl
      · exact bY3 P n k (Nat.le_of_lt_succ h') hp
      · exact absurd hp hn
theorem aC6 {α:Type} {ok:α->Prop} {s0:α} {B:(α->Prop)->(α->Nat)->α->Prop} (F:Nat->α) (G:Nat->Prop) (n:Nat) (h0:s0=F 0) (g0:G 0)
  (hs:∀(I:α->Prop) (μ:α->Nat) (k:Nat),k<=n->G k->ok (F k)->(∀y,k<n->G (k+1)->y=F (k+1)->I y/\μ y<μ (F k))->B I μ (F k)) :
  ∃(I:α->Prop) (μ:α->Nat),I s0/\∀x,ok x->I x->B I μ x:=by
 refine⟨fun x=>∃k,k<=n/\(x=F k/\G k),fun x=>n - bDP (fun k=>x=F k/\G k) n,⟨0,Nat.zero_le _,h0,g0⟩,fun x hok hI=>?_⟩
 obtain⟨j,hj,hx⟩:=hI
 have e:=bY3 (fun k=>x=F k/\G k) n j hj hx
 have l:=bLL (fun k=>x=F k/\G k) n
 generalize hk:bDP (fun k=>x=F k/\G k) n=k at e l
 obtain⟨e1,e2⟩:=e
 subst e1
 refine hs _ _ k l e2 hok fun y hkn hg hy=>⟨⟨k+1,hkn,hy,hg⟩,?_⟩
 have h1:=bXX (fun k=>y=F k/\G k) n (k+1) hkn ⟨hy,hg⟩
 have h2:=bLL (fun k=>y=F k/\G k) n
 show n - bDP (fun k=>y=F k/\G k) n<n - bDP (fun k'=>F k=F k'/\G k') n
 rw[hk]
 omega
theorem eY {α:Type} {ok:α->Prop} {s0:α} {B:(α->Prop)->(α->Nat)->α->Prop} (F:Nat->α) (n:Nat) (h0:s0=F 0)
  (hs:∀(I:α->Prop) (μ:α->Nat) (k:Nat),k<=n->ok (F k)->(∀y,k<n->y=F (k+1)->I y/\μ y<μ (F k))->B I μ (F k)) :
  ∃(I:α->Prop) (μ:α->Nat),I s0/\∀x,ok x->I x->B I μ x :=
 aC6 F (fun _=>True) n h0 trivial fun I μ k hk _ hok go=>hs I μ k hk hok fun y h1 h2=>go y h1 trivial h2
theorem pk {α:Type} {k:Nat} {a b:α} (h:a=b):((k:Int)+1,a)=(((k+1:Nat):Int),b):=by subst h;exact Prod.ext (by show(k:Int)+1=((k+1:Nat):Int);omega) rfl
theorem pk1 {k:Nat}:(k:Int)+1=((k+1:Nat):Int):=by omega
noncomputable section
set_option maxRecDepth 100000
theorem qM (x:Int):-2147483647<=mS x/\mS x<=2147483647:=by unfold mS;omega
def nO (x:Int):Bool:=decide (mS x=x)
theorem vM (x:Int):nO x=true↔-2147483647<=x/\x<=2147483647:=by unfold nO mS;rw[decide_eq_true_eq];omega
theorem xC {α:Type} (F:α->Bool) (l:List α) {k:Nat} (h:k<l.length):(l.take (k+1)).all F=((l.take k).all F&&F l[k]):=by
 rw[List.take_succ_eq_append_getElem h,List.all_append];simp
theorem aFB {α:Type} {F:α->Bool} {l:List α} {k:Nat} (h:k<l.length) (hb:F l[k]=false):l.all F=false:=by
 rw[List.all_eq_false]
 exact⟨l[k],List.getElem_mem h,by simp[hb]⟩
def aCQ:Con:=⟨326,tI,tI,[.val ⟨false,tI,[]⟩],[⟨false,tI,[0]⟩],false,none,
 ((fun _=>True):(Int)->Prop),
 ((fun x=>mS x):(Int)->(Int))⟩
def bJT:T:=mL bEQ bJ (-2147483647) <| mL bMF aZ 2147483647 <| cF 2
theorem aJU:Con.Holds Tryz.prog aCQ:=tk ⟨[],[]⟩ bJT aH fun(x:Int) hx hp=>by
 dsimp only [aCQ] at hx hp⊢
 delta bJT;refine dR ?_
 exact fun _ _=>rfl
def aJZ:Con:=⟨247,tI,.bool,[.val ⟨false,tI,[]⟩],[⟨false,.bool,[0]⟩],false,none,
 ((fun _=>True):(Int)->Prop),
 ((fun x=>nO x):(Int)->(Bool))⟩
def bJS:T:=rX .geq bJ bDU 1 (sS .leq bJ (fX 2147483647) <| cF 2) aX
theorem aYC:Con.Holds Tryz.prog aJZ:=tk ⟨[],[]⟩ bJS aH fun(x:Int) hx hp=>by
 dsimp only [aJZ] at hx hp⊢
 delta bJS;refine dR ?_
 show(decide (x ≥ -2147483647)=true->decide (x<=2147483647)=decide (mS x=x))/\(decide (x ≥ -2147483647)=false->false=decide (mS x=x))
 unfold mS
 constructor
 ·intro h;simp at h⊢;omega
 ·intro h;simp at h⊢;omega
def aH9:Con:=⟨325,tI,aB4,[.val ⟨false,tI,[]⟩],[⟨false,tI,[0]⟩,⟨false,.bool,[0]⟩],false,none,
 ((fun _=>True):(Int)->Prop),
 ((fun x=>bIA x):(Int)->(Int×Bool))⟩
def bD4:T:=hZ <| cD 1 0 <| cD2 2 <| lW tI aZ eG
theorem aUN:Con.Holds Tryz.prog aH9:=tk ⟨[],[]⟩ bD4 (aC aJU (aC aYC aH)) fun(x:Int) hx hp=>by
 dsimp only [aH9] at hx hp⊢
 delta bD4 aCQ aJZ;refine dR ?_
 intro _
 show(mS x,!decide (mS x=x))=bIA x
 unfold bIA
 simp[eq_comm]
def aC7:Con:=⟨300,aU,aB4,[.val ⟨false,tI,[]⟩,.val ⟨false,tI,[]⟩],[⟨false,tI,[0]⟩,⟨false,.bool,[0]⟩],false,none,
 ((fun _=>True):(Int×Int)->Prop),
 ((fun x=>kH x.1 x.2):(Int×Int)->(Int×Bool))⟩
def bG3:T:=eK 0 aB9 0 yZ <| lR jT aZ 2 <| cD 1 3 aD7
theorem aMV:Con.Holds Tryz.prog aC7:=tk ⟨[],[]⟩ bG3 (aC aJU (aC aUN aH)) fun(x:Int×Int) hx hp=>by
 dsimp only [aC7] at hx hp⊢
 delta bG3 aCQ aH9;refine dR ?_
 intro _ _
 have h1:=qM x.1
 have h2:=qM x.2
 exact⟨by omega,fun _ _=>rfl⟩
def nK:Con:=⟨229,aA,aA,[.val ⟨false,aA,[]⟩],[⟨false,aA,[2]⟩],false,none,
 ((fun x=>List.length x<=1000000000):(List Int)->Prop),
 ((fun x=>x):(List Int)->(List Int))⟩
def aWB:T:=lS 3 8 aA aA bA 0 <| cF 1
theorem qQ:Con.Holds Tryz.prog nK:=tk ⟨[],[]⟩ aWB aH fun(x:List Int) hx hp=>by
 dsimp only [nK] at hx hp⊢
 have hp:List.length x<=1000000000:=hp
 delta aWB;refine dR ?_
 simp only[List.length_nil,Nat.zero_add,List.nil_append]
 exact⟨by unfold maxLen;omega,fun _=>by first|rfl|trivial⟩
def aBH:Con:=⟨132,aF,aF,[.val ⟨false,aF,[]⟩],[⟨false,aF,[2]⟩],false,none,
 ((fun x=>List.length x<=1000000000/\∀y∈x,List.length y<=1000000000):(cT)->Prop),
 ((fun x=>x):(cT)->(cT))⟩
def aWU:T:=nX bJ <| pX aJ aF qC <| oJ aF 2 1 3 (cW 253 aA aF bJ aF 2 <| nU 4 <| kO 253 aA 5 <| eF (wE aA 24) aF aF (gG 2) 6 <| eJ aF 2 0 aF cM cY) (gG 2)
theorem aKW:Con.Holds Tryz.prog aBH:=tk ⟨[(2991,1002,[.dr 6,.dr 0,.tm 9 0,.on 3,.sl 1])],[(2981,3005,[16],[])]⟩ aWU (aC qQ aH) fun(x:cT) hx hp=>by
 dsimp only [aBH] at hx hp⊢
 obtain⟨hp1,hp2⟩:List.length x<=1000000000/\∀y∈x,List.length y<=1000000000:=hp
 delta aWU nK;refine dR ?_
 intro _
 refine⟨fun s=>∃k:Nat,k<=x.length/\s=((k:Int),x.take k),fun s=>x.length - (s.1:Int).toNat,⟨0,Nat.zero_le _,by simp⟩,fun s hs hI=>?_⟩
 obtain⟨k,hk,rfl⟩:=hI
 dsimp only
 refine dQ ?_
 constructor
 ·intro hlt
  have hk':k<x.length:=by omega
  rw[aP hk']
  have hm:=hp2 _ (List.getElem_mem hk')
  have hl:(x.take k).length=k:=List.length_take_of_le hk
  (repeat' first|intro _|(with_reducible apply And.intro))
  all_goals first|omega|(unfold maxLen;omega)|(exact⟨k+1,by omega,by rw[oT hk'];rfl⟩)
 ·intro hge
  have:k=x.length:=by omega
  subst this
  show x.take x.length=x
  simp
def aA5 (a b:List Int):List Int:=List.zipWith (fun x y=>(kH x y).1) a b
def bPD (a b:List Int):Bool:=(a.zip b).any fun p=>(kH p.1 p.2).2
def iI (a b:List (List Int)):List (List Int):=List.zipWith aA5 a b
def bGA (a b:List (List Int)):Bool:=(a.zip b).any fun p=>bPD p.1 p.2
def uE (a b:gI):gI:=(iI a.1 b.1,((kH a.2.1 b.2.1).1,a.2.2||b.2.2||bGA a.1 b.1||(kH a.2.1 b.2.1).2))
theorem cKI {α β γ:Type} (f:α->β->γ) (a:List α) (b:List β):(List.zipWith f a b).length=min a.length b.length:=List.length_zipWith
theorem bXU {α β γ:Type} (f:α->β->γ) (a:List α) (b:List β) {k:Nat} (h1:k<a.length) (h2:k<b.length):(List.zipWith f a b).take k++[f a[k] b[k]]=(List.zipWith f a b).take (k+1):=by
 have h:k<(List.zipWith f a b).length:=by rw[cKI];omega
 rw[List.take_succ_eq_append_getElem h,List.getElem_zipWith]
theorem bYC {α β:Type} (F:α×β->Bool) (a:List α) (b:List β) {k:Nat} (h1:k<a.length) (h2:k<b.length):((a.zip b).take (k+1)).any F=(((a.zip b).take k).any F||F (a[k],b[k])):=by
 have h:k<(a.zip b).length:=by rw[List.length_zip];omega
 rw[List.take_succ_eq_append_getElem h,List.any_append]
 simp
theorem cDU {α β:Type} (a:List α) (b:List β) {k:Nat} (h:min a.length b.length<=k):(a.zip b).take k=a.zip b:=List.take_of_length_le (by rw[List.length_zip];exact h)
def aAD (g:gI):Prop:=g.1.length<=1000000000/\∀r∈g.1,r.length<=1000000000
theorem aIL {α:Type} {l:List α} {k:Nat} (h:l.length<=k):l.take k=l:=List.take_of_length_le h
theorem rD (a b:List (List Int)):(iI a b).length=min a.length b.length:=List.length_zipWith
theorem aHJ (a b:List Int):(aA5 a b).length=min a.length b.length:=List.length_zipWith
theorem aYX (a b:List Int) {k:Nat} (h1:k<a.length) (h2:k<b.length):(aA5 a b).take k++[(kH a[k] b[k]).1]=(aA5 a b).take (k+1):=bXU _ a b h1 h2
theorem aFT (a b:List (List Int)) {k:Nat} (h1:k<a.length) (h2:k<b.length):(iI a b).take k++[aA5 a[k] b[k]]=(iI a b).take (k+1):=bXU _ a b h1 h2
def aIK (a b:List Int) (k:Nat):Bool:=((a.zip b).take k).any fun p=>(kH p.1 p.2).2
def yR (a b:List (List Int)) (k:Nat):Bool:=((a.zip b).take k).any fun p=>bPD p.1 p.2
theorem bEZ (a b:List Int) {k:Nat} (h1:k<a.length) (h2:k<b.length):aIK a b (k+1)=(aIK a b k||(kH a[k] b[k]).2):=bYC _ a b h1 h2
theorem bF7 (a b:List (List Int)) {k:Nat} (h1:k<a.length) (h2:k<b.length):yR a b (k+1)=(yR a b k||bPD a[k] b[k]):=bYC _ a b h1 h2
theorem bLC (a b:List Int) {k:Nat} (h:min a.length b.length<=k):aIK a b k=bPD a b:=by unfold aIK bPD;rw[cDU a b h]
theorem bIS (a b:List (List Int)) {k:Nat} (h:min a.length b.length<=k):yR a b k=bGA a b:=by unfold yR bGA;rw[cDU a b h]
def aJ8:Con:=⟨255,aT,aT,[.val ⟨true,aT,[]⟩],[⟨true,aT,[2,0,0]⟩],false,none,
 ((fun x=>aAD x):(gI)->Prop),
 ((fun x=>x):(gI)->(gI))⟩
def aS8:T:=nC (oY aF tI 0) <| jB aF iO aZ (mW aT 0)
theorem bI8:Con.Holds Tryz.prog aJ8:=tk ⟨[],[]⟩ aS8 (aC aKW aH) fun(x:gI) hx hp=>by
 dsimp only [aJ8] at hx hp⊢
 have hp:aAD x:=hp
 delta aS8 aBH;refine dR ?_
 exact⟨hp,fun _=>by first|rfl|trivial⟩
def aM0:Con:=⟨256,(.cMV aT aT),aT,[.val ⟨true,aT,[]⟩,.val ⟨true,aT,[]⟩],[⟨true,aT,[2,0,0]⟩],false,none,
 ((fun x=>aAD x.1/\aAD x.2):(gI×gI)->Prop),
 ((fun x=>uE x.1 x.2):(gI×gI)->(gI))⟩
def aX3:T:=.ite (iP aT 2 aT aT) (gW aJ aF qC 253 aA (dT aF iO aT aT) <| mH aF 1 2 3 (nX (eI aT aT 1) <| mH aF 1 4 5 (pX aM aA bA <| cW 253 aA aF (dT aF iO aT aT) aF 1 <| cK cY <| mH aA 6 8 9 (cW 253 aA aF (eI aT aT 1) aF 1 <| cK cI <| mH aA 6 11 12 (cW 253 aA aF (dT aF iO aT aT) aF 1 <| jZ 3 eM (kV 6) <| cW 253 aA aF (eI aT aT 1) aF 1 <| jZ 3 fC (kV 6) <| jK 0 dK gM <| gD 3 tI (eL 17) <| lS 3 8 aA aA (iA 6) 18 <| eJ aA 6 0 aA qJ kA) <| gD 253 aA (iA 6) <| eF (wE aA 24) aF aF (gG 1) 13 <| eJ aF 1 1 aF fC dK) <| gD 253 aA (iA 6) <| eF (wE aA 24) aF aF (gG 1) 10 <| eJ aF 1 1 aF fE cO) <| jK 0 (eV aT 1 aT aT) (eI aT aT 2) <| iG aT (gG 1) (eL 6) bD) <| jK 0 (eV aT 1 aT aT) (eI aT aT 2) <| iG aT (gG 1) (eL 4) bD) <| aAC pV (oH pV (aBO qC (fA aT aT 3))) 253 aA (dT aF iO aT aT) <| cX (uM aF 1) 2 3 (nX (eI aT aT 1) <| cX (uM aF 1) 4 5 (oQ (aEV tI) (aEV tI) bA (dO pV 2 1) <| bZ 253 aA aF (dT aF iO aT aT) (uM aF 1) <| cK cY <| cX (uM aA 6) 8 9 (bZ 253 aA aF (eI aT aT 1) (uM aF 1) <| cK cI <| cX (uM aA 6) 11 12 (bZ 253 aA aF (dT aF iO aT aT) (uM aF 1) <| jZ 3 eM (uM aA 6) <| bZ 253 aA aF (eI aT aT 1) (uM aF 1) <| jZ 3 fC (uM aA 6) <| jK 0 dK gM <| gD 3 tI (eL 17) <| lS 3 8 aA aA (dZ (aEV tI) 6) 18 <| .ite (dO (aEV tI) 2 6) (gF (uM aA 6) 0 (aEV tI) [qJ,kA,bD]) <| gF (uM aA 6) 0 (aEV tI) [qJ,kA,gK tI 1 17]) <| gD 253 aA (dZ (aEV tI) 6) <| eF (wE aA 24) aF aF (dZ pV 1) 13 <| gF (uM aF 1) 1 pV [fC,dK,dO (aEV tI) 2 6]) <| gD 253 aA (dZ (aEV tI) 6) <| eF (wE aA 24) aF aF (dZ pV 1) 10 <| gF (uM aF 1) 1 pV [fE,cO,dO (aEV tI) 2 6]) <| jK 0 (eV aT 1 aT aT) (eI aT aT 2) <| .ite (dO pV 2 1) (iG aT (dZ pV 1) (eL 6) bD) <| jB aF iO (dZ pV 1) cQ) <| jK 0 (eV aT 1 aT aT) (eI aT aT 2) <| .ite (dO pV 2 1) (iG aT (dZ pV 1) (eL 4) bD) <| jB aF iO (dZ pV 1) dY
theorem bMU:Con.Holds Tryz.prog aM0:=tk ⟨[(2991,3001,iZ 19 13++[.dr 0,.dr 1,.tm 6 0,.sl 7]),(2977,15006,[.tm 8 0,.sl 10]),(2991,2001,iZ 19 13++[.dr 0,.dr 1,.tm 6 0,.sl 7,.bx 5 2]),(2977,14006,[.tm 8 0,.sl 10,.bx 5 2])],[(2971,47013,[],[10]),(2971,23010,[],[10]),(2971,46013,[],[10]),(2971,22010,[],[10])]⟩ aX3 (aC aMV aH) fun(x:gI×gI) hx hp=>by
 dsimp only [aM0] at hx hp⊢
 obtain⟨⟨a,la,sa⟩,⟨b,lb,sb⟩⟩:=x
 obtain⟨⟨ha,ha'⟩,⟨hb,hb'⟩⟩:aAD (a,la,sa)/\aAD (b,lb,sb):=hp
 dsimp only at ha ha' hb hb'
 delta aX3 aC7;refine dR ?_
 constructor
 ·intro Ax
  refine⟨fun s=>∃k:Nat,k<=a.length/\k<=b.length/\s=((k:Int),(iI a b).take k),fun s=>a.length - (s.1:Int).toNat,⟨0,by omega,by omega,by simp⟩,fun s _ hI=>?_⟩
  obtain⟨k,hk1,hk2,rfl⟩:=hI
  dsimp only
  refine dQ ?_
  have fin:a.length<=k\/b.length<=k->∀r:Int×Bool,r=kH la lb->((iI a b).take k,(r.1,true))=uE (a,la,sa) (b,lb,sb):=fun h r hr=>by
   rw[hr,aIL (by rw[rD];omega)]
   unfold uE
   dsimp only at Ax⊢
   rw[Ax]
   simp
  (repeat' first|intro _|(with_reducible apply And.intro))
  rotate_left
  ·exact fin (by omega) _ rfl
  ·exact fin (by omega) _ rfl
  have h1:k<a.length:=by omega
  have h2:k<b.length:=by omega
  simp only[aP h1,aP h2]
  have mA:=ha' _ (List.getElem_mem h1)
  have mB:=hb' _ (List.getElem_mem h2)
  have e0:=aFT a b h1 h2
  generalize a[k]=A at *
  generalize b[k]=B at *
  refine⟨fun s=>∃j:Nat,j<=A.length/\j<=B.length/\s=((j:Int),(aA5 A B).take j),fun s=>A.length - (s.1:Int).toNat,⟨0,by omega,by omega,by simp⟩,fun s _ hI=>?_⟩
  obtain⟨j,Dn,C5,rfl⟩:=hI
  dsimp only
  refine dQ ?_
  have hl:List.length ((aA5 A B).take j)=j:=by rw[List.length_take,aHJ];omega
  have hl2:List.length ((iI a b).take k)=k:=by rw[List.length_take,rD];omega
  have out:A.length<=j\/B.length<=j->(iI a b).take k++[(aA5 A B).take j]=(iI a b).take (k+1):=fun h=>by
   rw[aIL (l:=aA5 A B) (by rw[aHJ];omega)];exact e0
  (repeat' first|intro _|(with_reducible apply And.intro))
  all_goals first|omega|(unfold maxLen;omega)|(exact⟨j+1,by omega,by omega,by rw[aP (show j<A.length by omega),aP (show j<B.length by omega),aYX A B (by omega) (by omega)];rfl⟩)|(exact⟨k+1,by omega,by omega,by rw[out (by omega)];rfl⟩)
 ·intro Ax
  refine⟨fun s=>∃k:Nat,k<=a.length/\k<=b.length/\s=((k:Int),(iI a b).take k,sb||yR a b k),fun s=>a.length - (s.1:Int).toNat,⟨0,by omega,by omega,by simp[yR]⟩,fun s _ hI=>?_⟩
  obtain⟨k,hk1,hk2,rfl⟩:=hI
  dsimp only
  refine dQ ?_
  have fin:a.length<=k\/b.length<=k->∀r:Int×Bool,r=kH la lb->((iI a b).take k,(r.1,(sb||yR a b k)||r.2))=uE (a,la,sa) (b,lb,sb):=fun h r hr=>by
   rw[hr,aIL (by rw[rD];omega),bIS a b (by omega)]
   unfold uE
   dsimp only at Ax⊢
   rw[Ax]
   simp
  (repeat' first|intro _|(with_reducible apply And.intro))
  rotate_left
  ·rw[show(sb||yR a b k)=true by assumption] at fin;exact fin (by omega) _ rfl
  ·rw[show(sb||yR a b k)=false by assumption] at fin;exact fin (by omega) _ rfl
  ·rw[show(sb||yR a b k)=true by assumption] at fin;exact fin (by omega) _ rfl
  ·rw[show(sb||yR a b k)=false by assumption] at fin;exact fin (by omega) _ rfl
  have h1:k<a.length:=by omega
  have h2:k<b.length:=by omega
  simp only[aP h1,aP h2]
  have mA:=ha' _ (List.getElem_mem h1)
  have mB:=hb' _ (List.getElem_mem h2)
  have e0:=aFT a b h1 h2
  have e1:(sb||yR a b (k+1))=((sb||yR a b k)||bPD a[k] b[k]):=by rw[bF7 a b h1 h2,Bool.or_assoc]
  clear fin
  generalize (sb||yR a b k)=f0 at *
  generalize a[k]=A at *
  generalize b[k]=B at *
  refine⟨fun s=>∃j:Nat,j<=A.length/\j<=B.length/\s=((j:Int),(aA5 A B).take j,f0||aIK A B j),fun s=>A.length - (s.1:Int).toNat,⟨0,by omega,by omega,by simp[aIK]⟩,fun s _ hI=>?_⟩
  obtain⟨j,Dn,C5,rfl⟩:=hI
  dsimp only
  refine dQ ?_
  have hl:List.length ((aA5 A B).take j)=j:=by rw[List.length_take,aHJ];omega
  have hl2:List.length ((iI a b).take k)=k:=by rw[List.length_take,rD];omega
  have out:A.length<=j\/B.length<=j->((iI a b).take k++[(aA5 A B).take j],f0||aIK A B j)=((iI a b).take (k+1),sb||yR a b (k+1)):=fun h=>by
   rw[aIL (l:=aA5 A B) (by rw[aHJ];omega),e0,e1,bLC A B (by omega)]
  (repeat' first|intro _|(with_reducible apply And.intro))
  all_goals first|omega|(unfold maxLen;omega)|skip
  all_goals first|(exact⟨k+1,by omega,by omega,by rw[<-out (by omega)];rfl⟩)|(refine⟨j+1,by omega,by omega,?_⟩)
  all_goals rw[aP (show j<A.length by omega),aP (show j<B.length by omega),aYX A B (by omega) (by omega),bEZ A B (by omega) (by omega),<-Bool.or_assoc]
  ·rw[show(f0||aIK A B j)=true by assumption];rfl
  ·rw[show(f0||aIK A B j)=false by assumption];rfl
def aFW:Con:=⟨307,tI,aB4,[.val ⟨false,tI,[]⟩],[⟨false,tI,[0]⟩,⟨false,.bool,[0]⟩],false,none,
 ((fun _=>True):(Int)->Prop),
 ((fun x=>bIA x):(Int)->(Int×Bool))⟩
def bL6:T:=lN bJ (fX 2147483647) 1 (aF0 .bool (fX 2147483647) bD) <| qY bJ bDU 2 (aF0 .bool bDU bD) <| lW tI bJ aX
theorem aQM:Con.Holds Tryz.prog aFW:=tk ⟨[],[]⟩ bL6 aH fun(x:Int) hx hp=>by
 dsimp only [aFW] at hx hp⊢
 delta bL6;refine dR ?_
 unfold bIA mS
 refine dQ ?_
 refine⟨fun h=>?_,fun h=>⟨fun h2=>?_,fun h2=>?_⟩⟩
 ·have:min (max x (-2147483647)) 2147483647=2147483647:=by omega
  rw[this];simp;omega
 ·have:min (max x (-2147483647)) 2147483647 = -2147483647:=by omega
  rw[this];simp;omega
 ·have:min (max x (-2147483647)) 2147483647=x:=by omega
  rw[this];simp
def aK5:Con:=⟨308,tI,tI,[.val ⟨false,tI,[]⟩],[⟨false,tI,[0]⟩],false,none,
 ((fun _=>True):(Int)->Prop),
 ((fun x=>mS x):(Int)->(Int))⟩
def bRZ:T:=hZ <| .ret (eL 1)
theorem aV3:Con.Holds Tryz.prog aK5:=tk ⟨[],[]⟩ bRZ (aC aQM aH) fun(x:Int) hx hp=>by
 dsimp only [aK5] at hx hp⊢
 delta bRZ aFW;refine dR ?_
 exact fun _=>rfl
def aA0:Con:=⟨231,aU,aB4,[.val ⟨false,tI,[]⟩,.val ⟨false,tI,[]⟩],[⟨false,tI,[0]⟩,⟨false,.bool,[0]⟩],false,none,
 ((fun _=>True):(Int×Int)->Prop),
 ((fun x=>kH x.1 x.2):(Int×Int)->(Int×Bool))⟩
def bCQ:T:=eK 0 aB9 0 yZ <| lR jT aZ 2 <| cD 1 3 aD7
theorem aHB:Con.Holds Tryz.prog aA0:=tk ⟨[],[]⟩ bCQ (aC aV3 (aC aQM aH)) fun(x:Int×Int) hx hp=>by
 dsimp only [aA0] at hx hp⊢
 delta bCQ aK5 aFW;refine dR ?_
 intro _ _
 have h1:=qM x.1
 have h2:=qM x.2
 exact⟨by omega,fun _ _=>rfl⟩
def aPR:Con:=⟨263,aF,aF,[.val ⟨false,aF,[]⟩],[⟨false,aF,[2]⟩],false,none,
 ((fun x=>List.length x<=1000000000/\∀y∈x,List.length y<=1000000000):(cT)->Prop),
 ((fun x=>x):(cT)->(cT))⟩
def bAP:T:=gW aJ aF qC 253 aA bJ <| oJ aF 1 2 3 (cW 253 aA aF bJ aF 1 <| lS 3 8 aA aA bA 4 <| kO 253 aA 5 <| eF (wE aA 24) aF aF (gG 1) 6 <| eJ aF 1 0 aF cM cY) (gG 1)
theorem bQU:Con.Holds Tryz.prog aPR:=tk ⟨[(2991,1001,[.dr 5,.tm 4 0,.on 3,.sl 1])],[(2983,3004,[19],[])]⟩ bAP aH fun(x:cT) hx hp=>by
 dsimp only [aPR] at hx hp⊢
 obtain⟨hp1,hp2⟩:List.length x<=1000000000/\∀y∈x,List.length y<=1000000000:=hp
 delta bAP;refine dR ?_
 refine⟨fun s=>∃k:Nat,k<=x.length/\s=((k:Int),x.take k),fun s=>x.length - (s.1:Int).toNat,⟨0,Nat.zero_le _,by simp⟩,fun s hs hI=>?_⟩
 obtain⟨k,hk,rfl⟩:=hI
 dsimp only
 refine dQ ?_
 intro _
 constructor
 ·intro hlt
  have hk':k<x.length:=by omega
  rw[aP hk']
  have hm:=hp2 _ (List.getElem_mem hk')
  have hl:(x.take k).length=k:=List.length_take_of_le hk
  (repeat' first|intro _|(with_reducible apply And.intro))
  all_goals first|omega|(unfold maxLen;omega)|(exact⟨k+1,by omega,by rw[oT hk'];rfl⟩)
 ·intro hge
  have:k=x.length:=by omega
  subst this
  show x.take x.length=x
  simp
def aZ4:Con:=⟨230,aL,aE2,[.val ⟨false,aA,[]⟩,.val ⟨false,aA,[]⟩],[⟨false,aA,[2]⟩,⟨false,.bool,[0]⟩],false,none,
 ((fun x=>List.length x.1<=1000000000/\List.length x.2<=1000000000):(bT)->Prop),
 ((fun x=>(aA5 x.1 x.2,bPD x.1 x.2)):(bT)->(bX×Bool))⟩
def bJX:T:=aAC dG (oH dG (aBO aX bA)) 3 tI oZ <| cX uO 2 3 (cK pI <| cX uO 4 5 (aER 3 aA 0 uO <| jZ 3 pI uO <| jK 0 cQ cY <| gD 3 tI aAI <| lS 3 8 aA aA (lK 2 1) 9 <| xY aA 1 1 (lI uO 0 dG cO bD 10) <| lI uO 0 dG cO (gK tI 1 8) 10) <| qX aA (lK 2 1) aA 1 1) <| qX aA (lK 2 1) aA 1 1
theorem bZT:Con.Holds Tryz.prog aZ4:=tk ⟨[(2989,1001,[.dr 11,.tm 8 0,.tm 7 0,.on 6,.sl 1])],[]⟩ bJX (aC aHB aH) fun(x:bT) hx hp=>by
 dsimp only [aZ4] at hx hp⊢
 obtain⟨A,B⟩:=x
 obtain⟨mA,mB⟩:List.length A<=1000000000/\List.length B<=1000000000:=hp
 delta bJX aA0;refine dR ?_
 refine⟨fun s=>∃j:Nat,j<=A.length/\j<=B.length/\s=((j:Int),aIK A B j,(aA5 A B).take j),fun s=>A.length - (s.1:Int).toNat,⟨0,by omega,by omega,by simp[aIK]⟩,fun s _ hI=>?_⟩
 obtain⟨j,Dn,C5,rfl⟩:=hI
 dsimp only
 refine dQ ?_
 have hl:List.length ((aA5 A B).take j)=j:=by rw[List.length_take,aHJ];omega
 have out:A.length<=j\/B.length<=j->((aA5 A B).take j,aIK A B j)=(aA5 A B,bPD A B):=fun h=>by
  rw[aIL (l:=aA5 A B) (by rw[aHJ];omega),bLC A B (by omega)]
 (repeat' first|intro _|(with_reducible apply And.intro))
 all_goals first|omega|(unfold maxLen;omega)|(exact out (by omega))|(refine⟨j+1,by omega,by omega,?_⟩)
 all_goals rw[aP (show j<A.length by omega),aP (show j<B.length by omega),aYX A B (by omega) (by omega),bEZ A B (by omega) (by omega)]
 ·rw[show aIK A B j=true by assumption];rfl
 ·rw[show aIK A B j=false by assumption];rfl
def kI:Con:=⟨104,(.cMV tI aU),.bool,[.val ⟨false,tI,[]⟩,.val ⟨false,tI,[]⟩,.val ⟨false,tI,[]⟩],[⟨false,.bool,[0]⟩],false,none,
 ((fun _=>True):(Int×eP)->Prop),
 ((fun x=>decide (x.2.1<=x.1)&&decide (x.1<=x.2.2)):(Int×eP)->(Bool))⟩
def bPJ:T:=rX .geq (cB aU 0) (cL aU 1 0) 1 (sS .leq (cB aU 0) (fY aU 2 0) <| cF 2) aX
theorem lV:Con.Holds Tryz.prog kI:=tk ⟨[],[]⟩ bPJ aH fun(x:Int×eP) hx hp=>by
 dsimp only [kI] at hx hp⊢
 delta bPJ;refine dR ?_
 refine dQ ?_
 constructor
 ·intro h;simp[h]
 ·intro h
  have:¬x.2.1<=x.1:=by omega
  simp[this]
def aLY:Con:=⟨134,(.cMV aT aT),aT,[.val ⟨true,aT,[]⟩,.val ⟨true,aT,[]⟩],[⟨true,aT,[2,0,0]⟩],false,none,
 ((fun x=>aAD x.1/\aAD x.2):(gI×gI)->Prop),
 ((fun x=>uE x.1 x.2):(gI×gI)->(gI))⟩
def aV5:T:=.ite (iP aT 2 aT aT) (gW aJ aF qC 253 aA (dT aF iO aT aT) <| mH aF 1 2 3 (nX (eI aT aT 1) <| mH aF 1 4 5 (cW 253 aA aF (dT aF iO aT aT) aF 1 <| cW 253 aA aF (eI aT aT 1) aF 1 <| fN 0 cQ cY <| gD 253 aA (jE 8) <| eF (wE aA 24) aF aF (gG 1) 9 <| eJ aF 1 0 aF cO cI) <| jK 1 (eV aT 1 aT aT) (eI aT aT 2) <| iG aT (gG 1) (eL 6) bD) <| jK 1 (eV aT 1 aT aT) (eI aT aT 2) <| iG aT (gG 1) (eL 4) bD) <| aAC pV (oH pV (aBO qC (fA aT aT 3))) 253 aA (dT aF iO aT aT) <| cX (uM aF 1) 2 3 (nX (eI aT aT 1) <| cX (uM aF 1) 4 5 (bZ 253 aA aF (dT aF iO aT aT) (uM aF 1) <| bZ 253 aA aF (eI aT aT 1) (uM aF 1) <| fN 0 cQ cY <| gD 253 aA (jE 8) <| eF (wE aA 24) aF aF (dZ pV 1) 9 <| .ite (dO pV 2 1) (gF (uM aF 1) 0 pV [cO,cI,bD]) <| gF (uM aF 1) 0 pV [cO,cI,gK aA 1 8]) <| jK 1 (eV aT 1 aT aT) (eI aT aT 2) <| .ite (dO pV 2 1) (iG aT (dZ pV 1) (eL 6) bD) <| jB aF iO (dZ pV 1) cQ) <| jK 1 (eV aT 1 aT aT) (eI aT aT 2) <| .ite (dO pV 2 1) (iG aT (dZ pV 1) (eL 4) bD) <| jB aF iO (dZ pV 1) dY
theorem bNK:Con.Holds Tryz.prog aLY:=tk ⟨[(2991,3001,iZ 17 11++[.dr 0,.dr 1,.tm 6 0,.sl 7]),(2991,2001,iZ 17 11++[.dr 0,.dr 1,.tm 6 0,.sl 7,.bx 5 2])],[(2980,15009,[],[8]),(2980,14009,[],[8])]⟩ aV5 (aC bZT (aC aHB aH)) fun(x:gI×gI) hx hp=>by
 dsimp only [aLY] at hx hp⊢
 obtain⟨⟨a,la,sa⟩,⟨b,lb,sb⟩⟩:=x
 obtain⟨⟨ha,ha'⟩,⟨hb,hb'⟩⟩:aAD (a,la,sa)/\aAD (b,lb,sb):=hp
 dsimp only at ha ha' hb hb'
 delta aV5 aZ4 aA0;refine dR ?_
 constructor
 ·intro Ax
  refine⟨fun s=>∃k:Nat,k<=a.length/\k<=b.length/\s=((k:Int),(iI a b).take k),fun s=>a.length - (s.1:Int).toNat,⟨0,by omega,by omega,by simp⟩,fun s _ hI=>?_⟩
  obtain⟨k,hk1,hk2,rfl⟩:=hI
  dsimp only
  refine dQ ?_
  have fin:a.length<=k\/b.length<=k->∀r:Int×Bool,r=kH la lb->((iI a b).take k,(r.1,true))=uE (a,la,sa) (b,lb,sb):=fun h r hr=>by
   rw[hr,aIL (by rw[rD];omega)]
   unfold uE
   dsimp only at Ax⊢
   rw[Ax]
   simp
  have hl2:List.length ((iI a b).take k)=k:=by rw[List.length_take,rD];omega
  (repeat' first|intro _|(with_reducible apply And.intro))
  all_goals first|omega|(unfold maxLen;omega)|(exact fin (by omega) _ rfl)|skip
  all_goals have h1:k<a.length:=by omega
  all_goals have h2:k<b.length:=by omega
  all_goals simp only[aP h1,aP h2]
  all_goals first|(exact ha' _ (List.getElem_mem h1))|(exact hb' _ (List.getElem_mem h2))|(exact⟨k+1,by omega,by omega,by rw[aFT a b h1 h2];rfl⟩)
 ·intro Ax
  refine⟨fun s=>∃k:Nat,k<=a.length/\k<=b.length/\s=((k:Int),(iI a b).take k,sb||yR a b k),fun s=>a.length - (s.1:Int).toNat,⟨0,by omega,by omega,by simp[yR]⟩,fun s _ hI=>?_⟩
  obtain⟨k,hk1,hk2,rfl⟩:=hI
  dsimp only
  refine dQ ?_
  have fin:a.length<=k\/b.length<=k->∀r:Int×Bool,r=kH la lb->((iI a b).take k,(r.1,(sb||yR a b k)||r.2))=uE (a,la,sa) (b,lb,sb):=fun h r hr=>by
   rw[hr,aIL (by rw[rD];omega),bIS a b (by omega)]
   unfold uE
   dsimp only at Ax⊢
   rw[Ax]
   simp
  have hl2:List.length ((iI a b).take k)=k:=by rw[List.length_take,rD];omega
  (repeat' first|intro _|(with_reducible apply And.intro))
  all_goals first|omega|(unfold maxLen;omega)|skip
  all_goals first|(rw[show(sb||yR a b k)=true by assumption] at fin;exact fin (by omega) _ rfl)|(rw[show(sb||yR a b k)=false by assumption] at fin;exact fin (by omega) _ rfl)|skip
  all_goals have h1:k<a.length:=by omega
  all_goals have h2:k<b.length:=by omega
  all_goals simp only[aP h1,aP h2]
  all_goals first|(exact ha' _ (List.getElem_mem h1))|(exact hb' _ (List.getElem_mem h2))|(refine⟨k+1,by omega,by omega,?_⟩)
  all_goals rw[aFT a b h1 h2,bF7 a b h1 h2,<-Bool.or_assoc]
  ·rw[show(sb||yR a b k)=true by assumption];rfl
  ·rw[show(sb||yR a b k)=false by assumption];rfl
def tQ (v:List Int):Bool:=decide (1<=v.length)&&(decide (v.length<=6)&&v.all nO)
theorem dH (v:List Int):tQ v=true↔1<=v.length/\v.length<=6/\v.all nO=true:=by unfold tQ;simp only[Bool.and_eq_true,decide_eq_true_eq]
def lJ (o:fP):Int:=if o.2.1<1\/6<o.2.1\/o.2.2.1<1\/6<o.2.2.1 then 0 else if o.1=1\/o.1=5 then o.2.1 * o.2.2.1 else if o.1=2 then o.2.1 else if o.1=4 then 1 else 0
def opB (o:fP):Bool:=decide (1<=o.1/\o.1<=5/\1<=o.2.1/\o.2.1<=6/\1<=o.2.2.1/\o.2.2.1<=6/\(o.1≠1->o.2.1=o.2.2.1)/\(o.2.2.2.length:Int)=lJ o)&&o.2.2.2.all nO
theorem lO (o:fP):opB o=true↔(1<=o.1/\o.1<=5/\1<=o.2.1/\o.2.1<=6/\1<=o.2.2.1/\o.2.2.1<=6/\(o.1≠1->o.2.1=o.2.2.1)/\(o.2.2.2.length:Int)=lJ o)/\o.2.2.2.all nO=true:=by
 unfold opB;simp only[Bool.and_eq_true,decide_eq_true_eq]
theorem cAN {m n:Nat}:((m:Int)=(n:Int))↔m=n:=by omega
def zOp:fP:=(0,0,0,[])
def bEF (m:List fP) (i:Nat):Bool:=opB (m.getD i zOp)&&(decide (i=0)||decide ((m.getD (i - 1) zOp).2.2.1=(m.getD i zOp).2.1))
theorem vO (m:List fP) {i:Nat} (h:i<m.length):bEF m i=true↔opB m[i]=true/\(i=0\/(m[i - 1]'(by omega)).2.2.1=m[i].2.1):=by
 unfold bEF
 rw[aP h,aP (show i - 1<m.length by omega)]
 simp only[Bool.and_eq_true,Bool.or_eq_true,decide_eq_true_eq]
def dD (m:List fP):Bool:=decide (1<=m.length)&&(decide (m.length<=8)&&(List.range m.length).all (bEF m))
theorem bO (m:List fP):dD m=true↔1<=m.length/\m.length<=8/\∀i,i<m.length->bEF m i=true:=by
 unfold dD;simp only[Bool.and_eq_true,decide_eq_true_eq,List.all_eq_true,List.mem_range]
theorem bE5 {m:List fP} {i:Nat} (h:i<m.length) (hb:¬bEF m i=true):false=dD m:=by
 refine(Bool.eq_false_iff.2 ?_).symm
 rw[ne_eq,bO]
 exact fun hh=>hb (hh.2.2 i h)
theorem bQZ {o:fP} (h:o.2.1<1\/6<o.2.1\/o.2.2.1<1\/6<o.2.2.1\/(o.1≠1/\o.1≠5/\o.1≠2/\o.1≠4)):0=lJ o:=by
 unfold lJ
 split
 ·rfl
 ·rw[if_neg (by omega),if_neg (by omega),if_neg (by omega)]
theorem bRH {o:fP} (h:1<=o.2.1/\o.2.1<=6/\1<=o.2.2.1/\o.2.2.1<=6/\(o.1=1\/o.1=5)):o.2.1 * o.2.2.1=lJ o:=by
 unfold lJ;rw[if_neg (by omega),if_pos (by omega)]
theorem bS8 {o:fP} (h:1<=o.2.1/\o.2.1<=6/\1<=o.2.2.1/\o.2.2.1<=6/\o.1=2):o.2.1=lJ o:=by
 unfold lJ;rw[if_neg (by omega),if_neg (by omega),if_pos (by omega)]
theorem bGM {o:fP} (h:1<=o.2.1/\o.2.1<=6/\1<=o.2.2.1/\o.2.2.1<=6/\o.1=4):1=lJ o:=by
 unfold lJ;rw[if_neg (by omega),if_neg (by omega),if_neg (by omega),if_pos (by omega)]
theorem bEP {a b:Int} (h1:1<=a) (h2:a<=6) (h3:1<=b) (h4:b<=6):0<=a * b/\a * b<=36 :=
 ⟨Int.mul_nonneg (by omega) (by omega),Int.le_trans (Int.mul_le_mul h2 h4 (by omega) (by omega)) (by omega)⟩
def aGV:Con:=⟨278,aA,.bool,[.val ⟨false,aA,[]⟩],[⟨false,.bool,[0]⟩],false,none,
 ((fun _=>True):(List Int)->Prop),
 ((fun x=>List.all x nO):(List Int)->(Bool))⟩
def bEU:T:=cK bJ <| zY aN <| gB bM 1 3 (cH 3 tI aA bJ 2 <| nU 4 <| tL 5 6 bM 0 cY) bD
theorem aUK:Con.Holds Tryz.prog aGV:=tk ⟨[(2993,1002,[.dr 0,.tm 7 0])],[]⟩ bEU (aC aYC aH) fun(x:List Int) hx hp=>by
 dsimp only [aGV] at hx hp⊢
 have hp:List.length x<=9223372036854775807:=hx.1
 delta bEU aJZ;refine dR ?_
 intro _
 refine⟨fun s=>∃k:Nat,k<=x.length/\s=(k:Int)/\(x.take k).all nO=true,fun s=>x.length - (s:Int).toNat,⟨0,by omega,rfl,rfl⟩,fun s _ hI=>?_⟩
 obtain⟨k,hk,rfl,ha⟩:=hI
 refine dQ ?_
 constructor
 ·intro hlt
  have hk':k<x.length:=by omega
  rw[aP hk']
  have e:=xC nO x hk'
  (repeat' first|intro _|(with_reducible apply And.intro))
  all_goals first|omega|skip
  ·exact(aFB hk' (by assumption)).symm
  ·exact⟨k+1,by omega,rfl,by rw[e,ha];simpa using ‹nO _=true›⟩
 ·intro hge
  have:k=x.length:=by omega
  subst this
  rw[List.take_length] at ha
  exact ha.symm
def aTQ:Con:=⟨363,bK,tI,[.val ⟨true,bK,[]⟩],[⟨false,tI,[0]⟩],false,none,
 ((fun _=>True):(fP)->Prop),
 ((fun x=>lJ x):(fP)->(Int))⟩
def bGF:T:=qY wV bF 1 aN <| lN wV uJ 2 aN <| qY aAL bF 3 aN <| lN aAL uJ 4 aN <| nE (pZ aM 0) bF 5 (fR pY wV aAL <| cF 6) <| iL (pZ aM 0) 5 6 (fR pY wV aAL <| cF 7) <| uD (pZ aM 0) aA2 7 wV <| uD (pZ aM 0) aMI 8 bF <| .ret aN
theorem bTA:Con.Holds Tryz.prog aTQ:=tk ⟨[],[]⟩ bGF aH fun(x:fP) hx hp=>by
 dsimp only [aTQ] at hx hp⊢
 delta bGF;refine dR ?_;try with_reducible exact True.intro
 (repeat' first|intro _|(with_reducible apply And.intro))
 all_goals simp only[dzx] at *
 all_goals first|omega|(have:=bEP (a:=x.2.1) (b:=x.2.2.1) (by omega) (by omega) (by omega) (by omega);omega)|exact bQZ (by omega)|exact bRH (by omega)|exact bS8 (by omega)|exact bGM (by omega)
def aPV:Con:=⟨324,bK,.bool,[.val ⟨true,bK,[]⟩],[⟨false,.bool,[0]⟩],false,none,
 ((fun _=>True):(fP)->Prop),
 ((fun x=>opB x):(fP)->(Bool))⟩
def bSW:T:=qY (pZ aM 0) bF 1 aX <| lN (pZ aM 0) aCV 2 aX <| qY wV bF 3 aX <| lN wV uJ 4 aX <| qY aAL bF 5 aX <| lN aAL uJ 6 aX <| vH .neq (pZ aM 0) bF 7 (dW wV aAL 8 <| cK (fG bK 3) <| hZ <| rX .eql cU cI 11 (wI (fG bK 3) <| cF 12) aX) <| cK (fG bK 3) <| hZ <| rX .eql cM cU 10 (wI (fG bK 3) <| cF 11) aX
theorem bE7:Con.Holds Tryz.prog aPV:=tk ⟨[],[]⟩ bSW (aC bTA (aC aUK aH)) fun(x:fP) hx hp=>by
 dsimp only [aPV] at hx hp⊢
 have hp:List.length x.2.2.2<=9223372036854775807:=hx.2.2.2.1
 delta bSW aTQ aGV;refine dR ?_;try with_reducible exact True.intro
 (repeat' first|intro _|(with_reducible apply And.intro))
 all_goals simp only[dzx] at *
 all_goals first|assumption|(first|(refine(Bool.eq_false_iff.2 ?_).symm;rw[ne_eq,lO];intro hh;omega)|(refine(lO.2 ?_).symm;omega))|(rw[Bool.eq_iff_iff,lO];exact⟨fun h=>⟨by omega,h⟩,fun h=>h.2⟩)
def aAT:Con:=⟨246,aG,.bool,[.val ⟨true,aG,[]⟩],[⟨false,.bool,[0]⟩],false,none,
 ((fun _=>True):(cC)->Prop),
 ((fun x=>dD x):(cC)->(Bool))⟩
def bAL:T:=iE bJ <| qY aZ bF 2 aX <| iE bJ <| lN eG (fX 8) 4 aX <| iE bJ <| zY aN <| gB cQ 5 7 (cH 243 bK aG bJ 6 <| nU 8 <| dU 9 10 <| vH .gtr cQ aN 11 (kK cQ 243 bK aG bJ 12 <| dW (qR 13) (dZ bK 8) 14 <| uZ cQ 0 fC) <| uZ cQ 0 fE) bD
theorem aIJ:Con.Holds Tryz.prog aAT:=tk ⟨[(2988,4006,iZ 15 5++[.dr 0,.tm 18 0])],[]⟩ bAL (aC bE7 aH) fun(x:cC) hx hp=>by
 dsimp only [aAT] at hx hp⊢
 obtain⟨hp1,hp2⟩:List.length x<=9223372036854775807/\∀o∈(x:List fP),List.length o.2.2.2<=9223372036854775807:=⟨hx.1,fun o ho=>(hx.2 o ho).2.2.2.1⟩
 delta bAL aPV;refine dR ?_;try with_reducible exact True.intro
 (repeat' first|intro _|(with_reducible apply And.intro))
 all_goals simp only[dzx] at *
 ·(first|(refine(Bool.eq_false_iff.2 ?_).symm;rw[ne_eq,bO];intro hh;omega)|(refine(bO.2 ?_).symm;omega))
 ·(first|(refine(Bool.eq_false_iff.2 ?_).symm;rw[ne_eq,bO];intro hh;omega)|(refine(bO.2 ?_).symm;omega))
 refine⟨fun s=>∃k:Nat,k<=x.length/\s=(k:Int)/\∀i,i<k->bEF x i=true,fun s=>x.length - (s:Int).toNat,⟨0,by omega,rfl,by omega⟩,fun s _ hI=>?_⟩
 obtain⟨k,hk,rfl,ha⟩:=hI
 refine dQ ?_
 constructor
 ·intro hlt
  have hk':k<x.length:=by omega
  rw[aP hk',aP (show k - 1<x.length by omega)]
  have e:=vO x hk'
  have hm:=hp2 _ (List.getElem_mem hk')
  (repeat' first|intro _|(with_reducible apply And.intro))
  all_goals first|omega|exact hm|skip
  all_goals first|(refine bE5 hk' fun h=>?_;rw[e] at h;obtain⟨h1,h2⟩:=h;first|(simp_all;done)|omega)|skip
  all_goals refine⟨k+1,by omega,rfl,fun i hi=>?_⟩
  all_goals rcases Nat.lt_or_eq_of_le (Nat.le_of_lt_succ hi) with h|rfl
  all_goals first|exact ha i h|(refine e.2 ⟨by assumption,?_⟩;first|exact .inl (by omega)|exact .inr (by assumption)|exact .inr (by omega))
 ·intro hge
  have:k=x.length:=by omega
  subst this
  refine((bO x).2 ⟨?_,?_,ha⟩).symm<;>omega
def aG4:Con:=⟨196,tI,.bool,[.val ⟨false,tI,[]⟩],[⟨false,.bool,[0]⟩],false,none,
 ((fun _=>True):(Int)->Prop),
 ((fun x=>nO x):(Int)->(Bool))⟩
def bKS:T:=mI 0 iK bJ bDU 2147483647 <| cF 1
theorem aQQ:Con.Holds Tryz.prog aG4:=tk ⟨[],[]⟩ bKS (aC lV aH) fun(x:Int) hx hp=>by
 dsimp only [aG4] at hx hp⊢
 delta bKS kI;refine dR ?_
 rw[Bool.eq_iff_iff,vM]
 (refine dQ ?_;try with_reducible exact True.intro)
def lQ:Con:=⟨107,aA,.bool,[.val ⟨false,aA,[]⟩],[⟨false,.bool,[0]⟩],false,none,
 ((fun _=>True):(List Int)->Prop),
 ((fun x=>tQ x):(List Int)->(Bool))⟩
def bL7:T:=jY 3 tI bJ <| cX aZ 2 3 (cH 3 tI aA bJ 1 <| nU 4 <| tL 5 6 aZ 0 cY) <| cK bJ <| mI 1 iK dY bF 6 <| cF 5
theorem nN:Con.Holds Tryz.prog lQ:=tk ⟨[(2993,1001,[.tm 3 0])],[]⟩ bL7 (aC aQQ (aC lV aH)) fun(x:List Int) hx hp=>by
 dsimp only [lQ] at hx hp⊢
 have hp:List.length x<=9223372036854775807:=hx.1
 delta bL7 aG4 kI;refine dR ?_
 refine⟨fun s=>∃k:Nat,k<=x.length/\s=(k:Int)/\(x.take k).all nO=true,fun s=>x.length - (s:Int).toNat,⟨0,by omega,rfl,rfl⟩,fun s _ hI=>?_⟩
 obtain⟨k,hk,rfl,ha⟩:=hI
 refine dQ ?_
 intro _
 constructor
 ·intro hlt
  have hk':k<x.length:=by omega
  rw[aP hk']
  have e:=xC nO x hk'
  (repeat' first|intro _|(with_reducible apply And.intro))
  all_goals first|omega|skip
  ·have:=aFB hk' (by assumption)
   unfold tQ
   rw[this]
   simp
  ·exact⟨k+1,by omega,rfl,by rw[e,ha];simpa using ‹nO _=true›⟩
 ·intro hge
  have:k=x.length:=by omega
  subst this
  rw[List.take_length] at ha
  intro _
  rw[Bool.eq_iff_iff,dH,ha]
  simp only[dzx,and_true]
  omega
def aCT:Con:=⟨311,aL,.bool,[.val ⟨false,aA,[]⟩,.val ⟨false,aA,[]⟩],[⟨false,.bool,[0]⟩],false,none,
 ((fun _=>True):(bT)->Prop),
 ((fun x=>tQ x.1&&(tQ x.2&&decide ((x.1:List Int).length=(x.2:List Int).length))):(bT)->(Bool))⟩
def bGD:T:=nC oZ <| jL 1 (nC pI <| jL 2 (cK oZ <| cK pI <| sS .eql eG dY <| cF 5) aX) aX
theorem aKT:Con.Holds Tryz.prog aCT:=tk ⟨[],[]⟩ bGD (aC nN aH) fun(x:bT) hx hp=>by
 dsimp only [aCT] at hx hp⊢
 delta bGD lQ;refine dR ?_
 cases tQ x.1<;>cases tQ x.2<;>simp only[reduceCtorEq,true_implies,false_implies,and_true,true_and,Bool.true_and,Bool.false_and,Bool.and_false,implies_true]
 intro _ _
 rw[Bool.eq_iff_iff,beq_iff_eq,decide_eq_true_eq]
 exact cAN
def aM5:Con:=⟨306,bK,tI,[.val ⟨true,bK,[]⟩],[⟨false,tI,[0]⟩],false,none,
 ((fun _=>True):(fP)->Prop),
 ((fun x=>lJ x):(fP)->(Int))⟩
def bHQ:T:=mI 0 iK wV bF 6 <| dL 1 2 aN <| mI 0 iK aAL bF 6 <| dL 3 4 aN <| nE (pZ aM 0) bF 5 (fR pY wV aAL <| cF 6) <| iL (pZ aM 0) 5 6 (fR pY wV aAL <| cF 7) <| uD (pZ aM 0) aA2 7 wV <| uD (pZ aM 0) aMI 8 bF <| .ret aN
theorem bEW:Con.Holds Tryz.prog aM5:=tk ⟨[],[]⟩ bHQ (aC lV aH) fun(x:fP) hx hp=>by
 dsimp only [aM5] at hx hp⊢
 delta bHQ kI;refine dR ?_;try with_reducible exact True.intro
 (repeat' first|intro _|(with_reducible apply And.intro))
 all_goals simp only[dzx] at *
 all_goals first|omega|(have:=bEP (a:=x.2.1) (b:=x.2.2.1) (by omega) (by omega) (by omega) (by omega);omega)|exact bQZ (by omega)|exact bRH (by omega)|exact bS8 (by omega)|exact bGM (by omega)
def aQ7:Con:=⟨220,bK,.bool,[.val ⟨true,bK,[]⟩],[⟨false,.bool,[0]⟩],false,none,
 ((fun _=>True):(fP)->Prop),
 ((fun x=>opB x):(fP)->(Bool))⟩
def bR8:T:=mI 0 iK (pZ aM 0) bF 5 <| dU 1 2 <| mI 0 iK wV bF 6 <| dU 3 4 <| mI 0 iK aAL bF 6 <| dU 5 6 <| vH .neq (pZ aM 0) bF 7 (dW wV aAL 8 <| cK (fG bK 3) <| cD 1 0 <| dW cU cI 11 <| jY 3 tI (fG bK 3) <| gB fE 13 14 (cH 3 tI aA (fG bK 3) 12 <| cD 2 15 <| tL 16 17 fE 0 nJ) bD) <| cK (fG bK 3) <| cD 1 0 <| dW cM cU 10 <| jY 3 tI (fG bK 3) <| gB cO 12 13 (cH 3 tI aA (fG bK 3) 11 <| cD 2 14 <| tL 15 16 cO 0 iR) bD
theorem bH6:Con.Holds Tryz.prog aQ7:=tk ⟨[(2988,72012,iZ 39 28++[.dr 26,.dr 27]++iZ 25 4++[.dr 0,.tm 3 0]),(2988,32011,iZ 39 28++[.dr 26,.dr 27]++iZ 25 4++[.dr 0,.tm 3 0])],[]⟩ bR8 (aC lV (aC bEW (aC aQQ aH))) fun(x:fP) hx hp=>by
  dsimp only [aQ7] at hx hp⊢
  have hp:List.length x.2.2.2<=9223372036854775807:=hx.2.2.2.1
  delta bR8 kI aM5 aG4;refine dR ?_;try with_reducible exact True.intro
  (repeat' first|intro _|(with_reducible apply And.intro))
  all_goals simp only[dzx] at *
  all_goals first|assumption|(first|(refine(Bool.eq_false_iff.2 ?_).symm;rw[ne_eq,lO];intro hh;omega)|(refine(lO.2 ?_).symm;omega))|skip
  all_goals refine⟨fun s=>∃k:Nat,k<=x.2.2.2.length/\s=(k:Int)/\(x.2.2.2.take k).all nO=true,fun s=>x.2.2.2.length - (s:Int).toNat,⟨0,by omega,rfl,rfl⟩,fun s _ hI=>?_⟩
  all_goals obtain⟨k,hk,rfl,ha⟩:=hI
  all_goals (refine dQ ?_;try with_reducible exact True.intro)
  all_goals intro _
  all_goals have hin:k<x.2.2.2.length->x.2.2.2.getD k 0=x.2.2.2.getD k (0:Int):=fun _=>rfl
  all_goals constructor
  all_goals intro hlt
  all_goals first
    | (have hk':k<x.2.2.2.length:=by omega
       rw[aP hk']
       have e:=xC nO x.2.2.2 hk'
       refine⟨by omega,fun _=>⟨fun hf=>?_,fun hf=>⟨by omega,fun _=>⟨⟨k+1,by omega,rfl,by rw[e,ha,hf];rfl⟩,by omega⟩⟩⟩⟩
       have hb:=aFB hk' hf
       refine(Bool.eq_false_iff.2 fun h=>?_).symm
       rw[lO] at h
       rw[hb] at h
       exact Bool.noConfusion h.2)
    | (have:k=x.2.2.2.length:=by omega
       subst this
       rw[List.take_length] at ha
       exact((lO x).2 ⟨by omega,ha⟩).symm)
def rE:Con:=⟨119,aG,.bool,[.val ⟨true,aG,[]⟩],[⟨false,.bool,[0]⟩],false,none,
 ((fun _=>True):(cC)->Prop),
 ((fun x=>dD x):(cC)->(Bool))⟩
def bA4:T:=jY 243 bK bJ <| cX aZ 2 3 (cH 243 bK aG bJ 1 <| nU 4 <| dU 5 6 <| vH .gtr aZ aN 7 (kK aZ 243 bK aG bJ 1 <| cH 243 bK aG bJ 8 <| dW (dZ bK 9) (qR 10) 11 <| uZ aZ 0 fE) <| uZ aZ 0 cM) <| iE bJ <| mI 1 iK dY bF 8 <| cF 5
theorem uW:Con.Holds Tryz.prog rE:=tk ⟨[(2993,1001,[.dr 0,.tm 3 0])],[]⟩ bA4 (aC bH6 (aC lV aH)) fun(x:cC) hx hp=>by
 dsimp only [rE] at hx hp⊢
 obtain⟨hp1,hp2⟩:List.length x<=9223372036854775807/\∀o∈(x:List fP),List.length o.2.2.2<=9223372036854775807:=⟨hx.1,fun o ho=>(hx.2 o ho).2.2.2.1⟩
 delta bA4 aQ7 kI;refine dR ?_
 refine⟨fun s=>∃k:Nat,k<=x.length/\s=(k:Int)/\∀i,i<k->bEF x i=true,fun s=>x.length - (s:Int).toNat,⟨0,by omega,rfl,by omega⟩,fun s _ hI=>?_⟩
 obtain⟨k,hk,rfl,ha⟩:=hI
 refine dQ ?_
 intro _
 constructor
 ·intro hlt
  have hk':k<x.length:=by omega
  rw[aP hk',aP (show k - 1<x.length by omega)]
  have e:=vO x hk'
  have hm:=hp2 _ (List.getElem_mem hk')
  (repeat' first|intro _|(with_reducible apply And.intro))
  all_goals first|omega|exact hm|skip
  all_goals first|(refine bE5 hk' fun h=>?_;rw[e] at h;obtain⟨h1,h2⟩:=h;first|(simp_all;done)|omega)|skip
  all_goals refine⟨k+1,by omega,rfl,fun i hi=>?_⟩
  all_goals rcases Nat.lt_or_eq_of_le (Nat.le_of_lt_succ hi) with h|rfl
  all_goals first|exact ha i h|(refine e.2 ⟨by assumption,?_⟩;first|exact .inl (by omega)|exact .inr (by assumption)|exact .inr (by omega))
 ·intro hge
  have:k=x.length:=by omega
  subst this
  intro _
  rw[Bool.eq_iff_iff,bO]
  refine dQ ?_
  constructor
  ·intro h;exact⟨by omega,by omega,ha⟩
  ·intro h;omega
end
set_option maxRecDepth 100000
def rP (m:List fP):List (List Int):=m.map fun o=>List.replicate o.2.2.2.length 0
def aI7 (m:List fP):gI:=if dD m=true then(rP m,0,false) else([],0,false)
def bES (m:List fP) (g:List (List Int)) (i:Nat):Bool:=decide ((g.getD i []).length=(m.getD i zOp).2.2.2.length)
def aZE (m:List fP) (g:List (List Int)):Bool:=decide (g.length=m.length)&&(List.range m.length).all (bES m g)
theorem xH (m:List fP) (g:List (List Int)):aZE m g=true↔g.length=m.length/\∀i,i<m.length->bES m g i=true:=by
 unfold aZE;simp only[Bool.and_eq_true,decide_eq_true_eq,List.all_eq_true,List.mem_range]
theorem aR0 (m:List fP) (g:List (List Int)) {i:Nat} (h:i<m.length) (h':i<g.length):bES m g i=true↔g[i].length=m[i].2.2.2.length:=by
 unfold bES
 rw[aP h,aP h',decide_eq_true_eq]
theorem bRC {m:List fP} {g:List (List Int)} {i:Nat} (h:i<m.length) (hb:¬bES m g i=true):aZE m g=false:=by
 refine Bool.eq_false_iff.2 ?_
 rw[ne_eq,xH]
 exact fun hh=>hb (hh.2 i h)
def aJJ (m:List fP):Prop:=List.length m<=1000000000/\∀o∈m,List.length o.2.2.2<=1000000000
theorem bIF (m:List fP) {k:Nat} (h:k<m.length):(rP m).take k++[List.replicate m[k].2.2.2.length 0]=(rP m).take (k+1):=by
 have h':k<(rP m).length:=by unfold rP;rw[List.length_map];exact h
 have e:(rP m)[k]'h'=List.replicate m[k].2.2.2.length 0:=List.getElem_map ..
 rw[List.take_succ_eq_append_getElem h',e]
theorem aBC (m:List fP):(rP m).length=m.length:=List.length_map _
noncomputable def aLE:Con:=⟨248,(.cMV aG aF),.bool,[.val ⟨true,aG,[]⟩,.val ⟨false,aF,[]⟩],[⟨false,.bool,[0]⟩],false,none,
 ((fun _=>True):(cC×cT)->Prop),
 ((fun x=>aZE x.1 x.2):(cC×cT)->(Bool))⟩
def aUZ:T:=nX (kE aG aF) <| iE (bS aG aF) <| dW aZ bM 3 <| iE (bS aG aF) <| zY aN <| gB fF 4 6 (cH 243 bK aG (bS aG aF) 5 <| nV aA aF (kE aG aF) 5 <| cK cM <| cK (dO bK 3 7) <| dW cU cI 11 <| uZ fF 0 fE) bD
theorem bLQ:Con.Holds Tryz.prog aLE:=tk ⟨[(2988,2005,iZ 13 7++[.dr 2,.dr 0,.tm 16 0])],[]⟩ aUZ aH fun(x:cC×cT) hx hp=>by
 dsimp only [aLE] at hx hp⊢
 obtain⟨m,g⟩:=x
 have As:m.length<=9223372036854775807:=hx.1.1
 delta aUZ;refine dR ?_;try with_reducible exact True.intro
 (repeat' first|intro _|(with_reducible apply And.intro))
 all_goals simp only[dzx] at *
 ·exact(Bool.eq_false_iff.2 fun h=>by rw[xH] at h;omega).symm
 refine⟨fun s=>∃k:Nat,k<=m.length/\s=(k:Int)/\∀i,i<k->bES m g i=true,fun s=>m.length - (s:Int).toNat,⟨0,by omega,rfl,by omega⟩,fun s _ hI=>?_⟩
 obtain⟨k,hk,rfl,ha⟩:=hI
 refine dQ ?_
 constructor
 ·intro hlt
  have hk':k<m.length:=by omega
  have hk2:k<g.length:=by omega
  rw[aP hk',aP hk2]
  have e:=aR0 m g hk' hk2
  refine⟨by omega,fun _=>⟨by omega,fun _ _ _=>⟨fun h=>(bRC hk' fun h2=>?_).symm,fun h=>⟨by omega,fun _=>⟨⟨k+1,by omega,rfl,fun i hi=>?_⟩,by omega⟩⟩⟩⟩⟩
  ·have:=e.1 h2;omega
  ·rcases Nat.lt_or_eq_of_le (Nat.le_of_lt_succ hi) with h'|rfl
   ·exact ha i h'
   ·exact e.2 (by omega)
 ·intro hge
  have:k=m.length:=by omega
  subst this
  exact((xH m g).2 ⟨by omega,ha⟩).symm
noncomputable def aIO:Con:=⟨133,aG,aT,[.val ⟨true,aG,[]⟩],[⟨true,aT,[2,0,0]⟩],false,none,
 ((fun x=>aJJ x):(cC)->Prop),
 ((fun x=>aI7 x):(cC)->(gI))⟩
def aSB:T:=gW aJ aF qC 243 bK bJ <| oJ aF 1 2 3 (hZ <| jL 4 (cW 243 bK aG bJ aF 1 <| cK (dO bK 3 5) <| aEP 3 tI 8 6 <| kO 253 aA 7 <| eF (wE aA 24) aF aF (gG 1) 8 <| eJ aF 1 0 aF cI cU) (oH aT (xR (gG 1) aX))) (oH aT (xR (gG 1) aX))
theorem bIL:Con.Holds Tryz.prog aIO:=tk ⟨[(2991,1001,[.dr 5,.dr 0,.tm 4 0,.sl 6])],[(2983,7005,[26],[])]⟩ aSB (aC uW aH) fun(x:cC) hx hp=>by
 dsimp only [aIO] at hx hp⊢
 have hq:aJJ x:=hp
 obtain⟨hp1,hp2⟩:aJJ x:=hp
 delta aSB rE;refine dR ?_
 refine⟨fun s=>∃k:Nat,k<=x.length/\(k=0\/dD x=true)/\s=((k:Int),(rP x).take k),fun s=>x.length - (s.1:Int).toNat,⟨0,by omega,.inl rfl,by simp⟩,fun s _ hI=>?_⟩
 obtain⟨k,hk,hz,rfl⟩:=hI
 dsimp only
 have hl:List.length ((rP x).take k)=k:=by rw[List.length_take,aBC];omega
 simp only[dzx,hl]
 intro _
 have fin:k=x.length\/dD x=false->((rP x).take k,(0:Int),false)=aI7 x:=fun h=>by
  unfold aI7
  cases hb:dD x
  ·have:k=0:=hz.elim id fun h=>by rw[hb] at h;cases h
   subst this
   rfl
  ·have:k=x.length:=h.elim id fun h=>by rw[hb] at h;cases h
   rw[if_pos rfl,aIL (by rw[aBC];omega)]
 constructor
 ·intro hlt
  have hk':k<x.length:=by omega
  rw[aP hk']
  have hm:=hp2 _ (List.getElem_mem hk')
  have e:=bIF x hk'
  (repeat' first|intro _|(with_reducible apply And.intro))
  all_goals first|omega|(unfold maxLen;omega)|exact hm|exact hp2 _ ‹_›|(exact⟨k+1,by omega,.inr (by assumption),by rw[<-e];rfl⟩)|exact fin (.inr (by assumption))
 ·intro hge
  exact fin (.inl (by omega))
noncomputable section
set_option maxRecDepth 100000
def eqB {α:Type} (a b:α):Bool:=@decide (a=b) (Classical.propDecidable _)
theorem qW {α:Type} {a b:α}:eqB a b=true↔a=b:=by unfold eqB;rw[@decide_eq_true_eq]
theorem aU8 {α:Type} {a b:α}:eqB a b=false↔¬a=b:=by rw[<-qW (a:=a) (b:=b),Bool.not_eq_true]
theorem eqF {α:Type} {a b:α} (h:¬a=b):false=eqB a b:=(aU8.2 h).symm
theorem eqT {α:Type} {a b:α} (h:a=b):true=eqB a b:=(qW.2 h).symm
theorem aBX {α:Type} {a b:List α} {d:α} (hl:a.length=b.length) (h:∀i,i<a.length->a.getD i d=b.getD i d):a=b:=by
 refine List.ext_getElem hl fun i h1 h2=>?_
 have:=h i h1
 rwa [aP h1,aP h2] at this
theorem bTL {x y:Int×Int}:(aES aU x y != true)=true↔¬x=y:=by
 obtain⟨a,b⟩:=x;obtain⟨c,d⟩:=y
 simp only[aES,bne_iff_ne,ne_eq,Bool.and_eq_true,nB]
 rw[beq_iff_eq,beq_iff_eq]
theorem cC5 {x y:Int×Int}:(aES aU x y != true)=false↔x=y:=by
 rw[<-Bool.not_eq_true,bTL,Classical.not_not]
theorem bVT {x y:Bool}:(aES .bool x y != true)=true↔¬x=y:=by cases x<;>cases y<;>simp[aES]
theorem bW0 {x y:Bool}:(aES .bool x y != true)=false↔x=y:=by cases x<;>cases y<;>simp[aES]
theorem cEI {x y:Bool}:(aES .bool x y != false)=eqB x y:=by
 rw[Bool.eq_iff_iff,qW];cases x<;>cases y<;>simp[aES]
theorem aEU {x y:Int}:(x != y)=true↔¬x=y:=by rw[bne_iff_ne]
theorem aEG {x y:Int}:(x != y)=false↔x=y:=by rw[bne_eq_false_iff_eq]
theorem bO9 {b:Bool}:(!b)=true↔b=false:=by cases b<;>simp
theorem bNM {b:Bool}:(!b)=false↔b=true:=by cases b<;>simp
def xE:Con:=⟨110,aL,.bool,[.val ⟨false,aA,[]⟩,.val ⟨false,aA,[]⟩],[⟨false,.bool,[0]⟩],false,none,
 ((fun _=>True):(bT)->Prop),
 ((fun x=>eqB x.1 x.2):(bT)->(Bool))⟩
def bAV:T:=cK oZ <| cK pI <| dW aZ bM 3 <| jY 3 tI oZ <| gB dY 5 6 (cH 3 tI aA oZ 4 <| cH 3 tI aA pI 4 <| dW cY cM 9 <| uZ dY 0 cI) bD
theorem aE6:Con.Holds Tryz.prog xE:=tk ⟨[(2988,2004,iZ 10 6++[.tm 5 0])],[]⟩ bAV aH fun(x:bT) hx hp=>by
 dsimp only [xE] at hx hp⊢
 obtain⟨a,b⟩:=x
 have hm:a.length<=9223372036854775807:=by have:a.length<=maxLen:=hx.1.1;unfold maxLen at this;omega
 delta bAV;refine dR ?_
 simp only[aEU,aEG,cAN]
 refine fun _ _=>⟨fun h=>eqF fun e=>h (by rw[e]),fun hl=>?_⟩
 refine⟨fun s=>∃k:Nat,k<=a.length/\s=(k:Int)/\∀i,i<k->a.getD i (aK tI)=b.getD i (aK tI),fun s=>a.length - (s:Int).toNat,⟨0,by omega,rfl,by omega⟩,fun s _ hI=>?_⟩
 obtain⟨k,hk,rfl,ha⟩:=hI
 refine dQ ?_
 intro _
 constructor
 ·intro hlt
  (repeat' first|intro _|(with_reducible apply And.intro))
  all_goals first|omega|(exact eqF fun e=>‹¬_=_› (by rw[e]))|skip
  refine⟨k+1,by omega,rfl,fun i hi=>?_⟩
  rcases Nat.lt_or_eq_of_le (Nat.le_of_lt_succ hi) with h|rfl
  ·exact ha i h
  ·assumption
 ·intro hge
  exact eqT (aBX hl fun i hi=>ha i (by omega))
def aFO:Con:=⟨131,(.cMV aF aF),.bool,[.val ⟨false,aF,[]⟩,.val ⟨false,aF,[]⟩],[⟨false,.bool,[0]⟩],false,none,
 ((fun _=>True):(cT×cT)->Prop),
 ((fun x=>eqB x.1 x.2):(cT×cT)->(Bool))⟩
def aVH:T:=nX (bS aF aF) <| nX (kE aF aF) <| dW aZ bM 3 <| jY 253 aA (bS aF aF) <| gB dY 5 6 (nV aA aF (bS aF aF) 4 <| nV aA aF (kE aF aF) 4 <| fN 0 cY cM <| tL 9 10 dY 0 cO) bD
theorem aWJ:Con.Holds Tryz.prog aFO:=tk ⟨[(2988,2004,iZ 10 6++[.tm 5 0])],[]⟩ aVH (aC aE6 aH) fun(x:cT×cT) hx hp=>by
 dsimp only [aFO] at hx hp⊢
 obtain⟨a,b⟩:=x
 have hm:a.length<=9223372036854775807:=by have:a.length<=maxLen:=hx.1.1;unfold maxLen at this;omega
 delta aVH xE;refine dR ?_
 simp only[aEU,aEG,cAN,bO9,bNM,qW,aU8]
 refine fun _ _=>⟨fun h=>eqF fun e=>h (by rw[e]),fun hl=>?_⟩
 refine⟨fun s=>∃k:Nat,k<=a.length/\s=(k:Int)/\∀i,i<k->a.getD i (aK aA)=b.getD i (aK aA),fun s=>a.length - (s:Int).toNat,⟨0,by omega,rfl,by omega⟩,fun s _ hI=>?_⟩
 obtain⟨k,hk,rfl,ha⟩:=hI
 refine dQ ?_
 intro _
 constructor
 ·intro hlt
  (repeat' first|intro _|(with_reducible apply And.intro))
  all_goals first|omega|(exact eqF fun e=>‹¬_=_› (by rw[e]))|skip
  refine⟨k+1,by omega,rfl,fun i hi=>?_⟩
  rcases Nat.lt_or_eq_of_le (Nat.le_of_lt_succ hi) with h|rfl
  ·exact ha i h
  ·assumption
 ·intro hge
  exact eqT (aBX hl fun i hi=>ha i (by omega))
def aJ5:Con:=⟨41,(.cMV aT aT),.bool,[.val ⟨true,aT,[]⟩,.val ⟨true,aT,[]⟩],[⟨false,.bool,[0]⟩],false,none,
 ((fun _=>True):(gI×gI)->Prop),
 ((fun x=>eqB x.1 x.2):(gI×gI)->(Bool))⟩
def aS3:T:=rX .eql (eV aT 1 aT aT) (eI aT aT 2) 1 (jM (aMO false) .bool .bool (iP aT 2 aT aT) (fA aT aT 3) <| jL 2 (eQ 0 aF aF (dT aF iO aT aT) (eI aT aT 1) <| cF 3) aX) aX
theorem bIH:Con.Holds Tryz.prog aJ5:=tk ⟨[],[]⟩ aS3 (aC aWJ aH) fun(x:gI×gI) hx hp=>by
 dsimp only [aJ5] at hx hp⊢
 obtain⟨a,b⟩:=x
 delta aS3 aFO;refine dR ?_
 have e:(a=b)↔(a.1=b.1/\a.2.1=b.2.1/\a.2.2=b.2.2):=by simp[Prod.ext_iff]
 simp only[cEI,beq_iff_eq,beq_eq_false_iff_ne,qW,aU8,ne_eq]
 (repeat' first|intro _|(with_reducible apply And.intro))
 all_goals first|(refine eqF ?_;rw[e];simp_all;done)|(rw[Bool.eq_iff_iff,qW,qW,e];simp_all;done)
def aUH:Con:=⟨197,(.cMV bK bK),.bool,[.val ⟨true,bK,[]⟩,.val ⟨true,bK,[]⟩],[⟨false,.bool,[0]⟩],false,none,
 ((fun _=>True):(fP×fP)->Prop),
 ((fun x=>eqB x.1 x.2):(fP×fP)->(Bool))⟩
def bG2:T:=rX .eql (dT tI bL bK bK) (eI bK bK 1) 1 (rX .eql (eV bK 1 bK bK) (eI bK bK 2) 2 (rX .eql (eV bK 2 bK bK) (eI bK bK 3) 3 (fN 0 (iP bK 3 bK bK) (fA bK bK 4) aD7) aX) aX) aX
theorem bT2:Con.Holds Tryz.prog aUH:=tk ⟨[],[]⟩ bG2 (aC aE6 aH) fun(x:fP×fP) hx hp=>by
 dsimp only [aUH] at hx hp⊢
 obtain⟨a,b⟩:=x
 delta bG2 xE;refine dR ?_
 have e:(a=b)↔(a.1=b.1/\a.2.1=b.2.1/\a.2.2.1=b.2.2.1/\a.2.2.2=b.2.2.2):=by simp[Prod.ext_iff]
 simp only[cEI,beq_iff_eq,beq_eq_false_iff_ne,qW,aU8,ne_eq]
 (repeat' first|intro _|(with_reducible apply And.intro))
 all_goals first|(refine eqF ?_;rw[e];simp_all;done)|(rw[Bool.eq_iff_iff,qW,qW,e];simp_all;done)
def aAQ:Con:=⟨280,aB,aG,[.val ⟨true,aB,[]⟩],[⟨true,aG,[0]⟩],true,none,
 ((fun _=>True):(aR)->Prop),
 ((fun x=>x.2.2.1):(aR)->(cC))⟩
def aZY:T:=.ret nH
theorem aIB:Con.Holds Tryz.prog aAQ:=tk ⟨[],[]⟩ aZY aH fun(x:aR) hx hp=>by
 dsimp only [aAQ] at hx hp⊢
 delta aZY;refine dR ?_;try with_reducible exact True.intro
theorem cBU {α:Type} {l:List α} {k:Nat} (h:k<l.length) (d:α):l.getD k d∈l:=by rw[aP h];exact List.getElem_mem h
def aBB:Con:=⟨108,(.cMV aI aI),.bool,[.val ⟨false,aI,[]⟩,.val ⟨false,aI,[]⟩],[⟨false,.bool,[0]⟩],false,none,
 ((fun _=>True):((List bE)×(List bE))->Prop),
 ((fun x=>eqB x.1 x.2):((List bE)×(List bE))->(Bool))⟩
def aIE:T:=gL 147 aD (bS aI aI) <| gL 147 aD (kE aI aI) <| dW aZ bM 3 <| jY 147 aD (bS aI aI) <| gB dY 5 6 (cH 147 aD aI (bS aI aI) 4 <| cH 147 aD aI (kE aI aI) 4 <| dW (cB bQ 7) (cB bQ 8) 9 <| cH 147 aD aI (bS aI aI) 4 <| pS aM (nL 10) <| cH 147 aD aI (kE aI aI) 4 <| pS aM (nL 12) <| dW cO eM 14 <| zY aN <| cH 147 aD aI (bS aI aI) 4 <| pS aM (nL 16) <| cX fC 17 18 (cH 147 aD aI (bS aI aI) 4 <| cH 249 aM bQ (nL 19) 15 <| cH 147 aD aI (kE aI aI) 4 <| cH 249 aM bQ (nL 21) 15 <| dW (kV 20) (kV 22) 23 <| cH 147 aD aI (bS aI aI) 4 <| cH 249 aM bQ (nL 24) 15 <| cH 147 aD aI (kE aI aI) 4 <| cH 249 aM bQ (nL 26) 15 <| fN 0 (iA 25) (iA 27) <| dU 28 29 <| oM fC 0 30) <| uZ dY 1 kA) bD
theorem aVF:Con.Holds Tryz.prog aBB:=tk ⟨[(2988,2004,iZ 11 7++[.tm 5 0]),(2972,18015,[.tm 6 0])],[]⟩ aIE (aC aE6 aH) fun(x:(List bE)×(List bE)) hx hp=>by
 dsimp only [aBB] at hx hp⊢
 obtain⟨a,b⟩:=x
 have hm:a.length<=9223372036854775807:=by have:a.length<=maxLen:=hx.1.1;unfold maxLen at this;omega
 have hq:∀k,k<a.length->(a.getD k (aK aD)).2.length<=9223372036854775807:=fun k hk=>by
  have:(a.getD k (aK aD)).2.length<=maxLen:=(hx.1.2 _ (cBU hk _)).2.1
  unfold maxLen at this;omega
 delta aIE xE;refine dR ?_
 simp only[aEU,aEG,cAN,bO9,bNM,qW,aU8]
 refine fun _ _=>⟨fun h=>eqF fun e=>h (by rw[e]),fun hl =>?_⟩
 refine⟨fun s=>∃k:Nat,k<=a.length/\s=(k:Int)/\∀i,i<k->a.getD i (aK aD)=b.getD i (aK aD),fun s=>a.length - (s:Int).toNat,⟨0,by omega,rfl,by omega⟩,fun s _ hI=>?_⟩
 obtain⟨k,hk,rfl,ha⟩:=hI
 try refine dQ ?_
 have hq2:=hq k
 (repeat' first|intro _|(with_reducible apply And.intro))
 all_goals first|omega|(exact eqF fun e=>‹¬_=_› (by rw[e]))|(exact eqT (aBX hl fun i hi=>ha i (by omega)))|skip
 refine⟨fun s=>∃j:Nat,j<=(a.getD k (aK aD)).2.length/\s=(j:Int)/\∀i,i<j->(a.getD k (aK aD)).2.getD i (aK aM)=(b.getD k (aK aD)).2.getD i (aK aM),fun s=>(a.getD k (aK aD)).2.length - (s:Int).toNat,⟨0,by omega,rfl,by omega⟩,fun s _ hI=>?_⟩
 obtain⟨j,hj,rfl,hb⟩:=hI
 try refine dQ ?_
 have D7:=hq2 (by omega)
 (repeat' first|intro _|(with_reducible apply And.intro))
 all_goals first|omega|(exact eqF fun e=>‹¬_=_› (by rw[e]))|(refine⟨j+1,by omega,rfl,fun i hi=>?_⟩;rcases Nat.lt_or_eq_of_le (Nat.le_of_lt_succ hi) with h|rfl;exact hb i h;exact Prod.ext (by assumption) (by assumption))|(refine⟨k+1,by omega,rfl,fun i hi=>?_⟩;rcases Nat.lt_or_eq_of_le (Nat.le_of_lt_succ hi) with h|rfl;exact ha i h;exact Prod.ext (by assumption) (aBX (by assumption) fun i hi=>hb i (by omega)))
def aDB:Con:=⟨109,(.cMV aB aB),.bool,[.val ⟨true,aB,[]⟩,.val ⟨true,aB,[]⟩],[⟨false,.bool,[0]⟩],false,none,
 ((fun _=>True):(aR×aR)->Prop),
 ((fun x=>eqB x.1 x.2):(aR×aR)->(Bool))⟩
def aKL:T:=dW (dT tI bZR aB aB) (pG 1) 1 <| jM (aMO true) .bool .bool (oN 3) (pG 4) <| sY 2 aX <| jM (aMO true) .bool .bool (oN 4) (pG 5) <| sY 3 aX <| wA aU (oN 1) <| wA aU (pG 2) <| dW dY fF 6 <| iE (oN 2) <| iE (pG 3) <| dW cY cM 9 <| aBT aJ (oN 5) <| aBT aJ (pG 6) <| dW cI cO 12 <| eQ 0 aF aF (oN 6) (pG 7) <| dU 13 14 <| fN 1 (oN 7) (pG 8) <| dU 15 16 <| fN 1 (oN 8) (pG 9) <| dU 17 18 <| fN 1 (oN 9) (pG 10) <| dU 19 20 <| fN 1 (oN 10) (pG 11) <| dU 21 22 <| eQ 2 aT aT (iP aB 11 aB aB) (fA aB aB 12) <| dU 23 24 <| jY 159 aU (oN 1) <| cX (.Z 25) 26 27 (cH 159 aU bI (oN 1) 25 <| cH 159 aU bI (pG 2) 25 <| mF (.eqv true aU) aU aU 28 29 <| sY 30 aX <| oM (.Z 25) 0 31) <| jY 243 bK (oN 2) <| cX (.Z 28) 29 30 (cH 243 bK aG (oN 2) 28 <| cH 243 bK aG (pG 3) 28 <| eQ 3 bK bK aEM aL2 <| dU 33 34 <| oM (.Z 28) 0 35) <| jY 245 aJ (oN 5) <| gB aEM 32 33 (nS aJ aS (oN 5) 31 <| nS aJ aS (pG 6) 31 <| dW (cB aF 34) (cB aF 35) 36 <| nS aJ aS (oN 5) 31 <| nS aJ aS (pG 6) 31 <| eQ 0 aF aF (gG 37) (gG 38) <| dU 39 40 <| oM aEM 0 41) bD
set_option maxHeartbeats 2000000 in
theorem aYP:Con.Holds Tryz.prog aDB:=tk ⟨[(2988,4096025,iZ 101 8++[.dr 0,.dr 1,.tm 5 0]),(2978,8192028,iZ 106 102++[.dr 5,.tm 6 0]),(2968,16384031,iZ 124 120++[.dr 6,.tm 7 0])],[]⟩ aKL (aC aWJ (aC aE6 (aC bIH (aC bT2 aH)))) fun(x:aR×aR) hx hp=>by
 dsimp only [aDB] at hx hp⊢
 obtain⟨a,b⟩:=x
 have e:(a=b)↔(a.1=b.1/\a.2.1=b.2.1/\a.2.2.1=b.2.2.1/\a.2.2.2.1=b.2.2.2.1/\a.2.2.2.2.1=b.2.2.2.2.1/\a.2.2.2.2.2.1=b.2.2.2.2.2.1/\a.2.2.2.2.2.2.1=b.2.2.2.2.2.2.1/\a.2.2.2.2.2.2.2.1=b.2.2.2.2.2.2.2.1/\a.2.2.2.2.2.2.2.2.1=b.2.2.2.2.2.2.2.2.1/\a.2.2.2.2.2.2.2.2.2.1=b.2.2.2.2.2.2.2.2.2.1/\a.2.2.2.2.2.2.2.2.2.2.1=b.2.2.2.2.2.2.2.2.2.2.1/\a.2.2.2.2.2.2.2.2.2.2.2=b.2.2.2.2.2.2.2.2.2.2.2):=by simp only[Prod.ext_iff,and_assoc]
 have hmx:∀{n:Nat},n<=maxLen->n<=9223372036854775807:=fun h=>by unfold maxLen at h;omega
 have As:a.2.1.length<=9223372036854775807:=hmx hx.1.2.1.1
 have hm2:a.2.2.1.length<=9223372036854775807:=hmx hx.1.2.2.1.1
 have J2:a.2.2.2.2.2.1.length<=9223372036854775807:=hmx hx.1.2.2.2.2.2.1.1
 delta aKL aFO xE aJ5 aUH;refine dR ?_
 simp only[aEU,aEG,cAN,bO9,bNM,bVT,bW0,bTL,cC5,qW,aU8]
 (repeat' first|intro _|(with_reducible apply And.intro))
 all_goals first|(exact eqF fun h=>‹¬_=_› (by rw[h]))|skip
 refine⟨fun s=>∃k:Nat,k<=a.2.1.length/\s=(k:Int)/\∀i,i<k->a.2.1.getD i (aK aU)=b.2.1.getD i (aK aU),fun s=>a.2.1.length - (s:Int).toNat,⟨0,by omega,rfl,by omega⟩,fun s _ hI=>?_⟩
 obtain⟨k,hk,rfl,ha⟩:=hI
 try (refine dQ ?_;try with_reducible exact True.intro)
 (repeat' first|intro _|(with_reducible apply And.intro))
 all_goals first|omega|(exact eqF fun h=>‹¬_=_› (by rw[h]))|(refine⟨k+1,by omega,rfl,fun i hi=>?_⟩;rcases Nat.lt_or_eq_of_le (Nat.le_of_lt_succ hi) with h|rfl;exact ha i h;exact(by assumption))|skip
 have f1:a.2.1=b.2.1:=aBX (by assumption) fun i hi=>ha i (by omega)
 refine⟨fun s=>∃l:Nat,l<=a.2.2.1.length/\s=(l:Int)/\∀i,i<l->a.2.2.1.getD i (aK bK)=b.2.2.1.getD i (aK bK),fun s=>a.2.2.1.length - (s:Int).toNat,⟨0,by omega,rfl,by omega⟩,fun s _ hI=>?_⟩
 obtain⟨l,hl,rfl,hc⟩:=hI
 try (refine dQ ?_;try with_reducible exact True.intro)
 (repeat' first|intro _|(with_reducible apply And.intro))
 all_goals first|omega|(exact eqF fun h=>‹¬_=_› (by rw[h]))|(refine⟨l+1,by omega,rfl,fun i hi=>?_⟩;rcases Nat.lt_or_eq_of_le (Nat.le_of_lt_succ hi) with h|rfl;exact hc i h;exact(by assumption))|skip
 have f2:a.2.2.1=b.2.2.1:=aBX (by assumption) fun i hi=>hc i (by omega)
 refine⟨fun s=>∃j:Nat,j<=a.2.2.2.2.2.1.length/\s=(j:Int)/\∀i,i<j->a.2.2.2.2.2.1.getD i (aK aJ)=b.2.2.2.2.2.1.getD i (aK aJ),fun s=>a.2.2.2.2.2.1.length - (s:Int).toNat,⟨0,by omega,rfl,by omega⟩,fun s _ hI=>?_⟩
 obtain⟨j,hj,rfl,hb⟩:=hI
 try (refine dQ ?_;try with_reducible exact True.intro)
 (repeat' first|intro _|(with_reducible apply And.intro))
 all_goals first|omega|(exact eqF fun h=>‹¬_=_› (by rw[h]))|(refine⟨j+1,by omega,rfl,fun i hi=>?_⟩;rcases Nat.lt_or_eq_of_le (Nat.le_of_lt_succ hi) with h|rfl;exact hb i h;exact Prod.ext (by assumption) (by assumption))|skip
 all_goals have f5:a.2.2.2.2.2.1=b.2.2.2.2.2.1:=aBX (by assumption) fun i hi=>hb i (by omega)
 all_goals first|(rw[Bool.eq_iff_iff,qW,qW,e];simp_all;done)|(refine eqT (e.2 ?_);simp_all;done)|(refine eqF fun h=>?_;rw[e] at h;simp_all;done)
def aLL:Con:=⟨25,(.cMV aE aE),.bool,[.val ⟨true,aE,[]⟩,.val ⟨true,aE,[]⟩],[⟨false,.bool,[0]⟩],false,none,
 ((fun _=>True):(aW×aW)->Prop),
 ((fun x=>eqB x.1 x.2):(aW×aW)->(Bool))⟩
def aVW:T:=tN aB (eV aE 1 aE aE) <| tN aB (eI aE aE 2) <| dW aZ bM 3 <| vB aL (dT aO eD aE aE) <| vB aL (eI aE aE 1) <| dW dY fF 6 <| eQ 0 aI aI (eV aE 2 aE aE) (eI aE aE 3) <| dU 7 8 <| eQ 0 aI aI (iP aE 3 aE aE) (fA aE aE 4) <| dU 9 10 <| jY 142 aB (eV aE 1 aE aE) <| cX cO 12 13 (cH 142 aB bV (eV aE 1 aE aE) 11 <| cH 142 aB bV (eI aE aE 2) 11 <| eQ 1 aB aB dK fC <| tL 16 17 cO 0 nJ) <| jY 138 aL (dT aO eD aE aE) <| gB dK 15 16 (cH 138 aL aO (dT aO eD aE aE) 14 <| cH 138 aL aO (eI aE aE 1) 14 <| fN 2 (aBG 17) (aBG 18) <| dU 19 20 <| cH 138 aL aO (dT aO eD aE aE) 14 <| cH 138 aL aO (eI aE aE 1) 14 <| fN 2 (wK 21) (wK 22) <| dU 23 24 <| oM dK 0 25) bD
set_option maxHeartbeats 2000000 in
theorem bMM:Con.Holds Tryz.prog aLL:=tk ⟨[(2988,16011,iZ 38 7++[.dr 0,.dr 1,.tm 5 0]),(2978,32014,iZ 43 39++[.dr 5,.tm 6 0])],[]⟩ aVW (aC aVF (aC aYP (aC aE6 aH))) fun(x:aW×aW) hx hp=>by
 dsimp only [aLL] at hx hp⊢
 obtain⟨a,b⟩:=x
 have e:(a=b)↔(a.1=b.1/\a.2.1=b.2.1/\a.2.2.1=b.2.2.1/\a.2.2.2=b.2.2.2):=by simp only[Prod.ext_iff,and_assoc]
 have hmx:∀{n:Nat},n<=maxLen->n<=9223372036854775807:=fun h=>by unfold maxLen at h;omega
 have hm0:a.1.length<=9223372036854775807:=hmx hx.1.1.1
 have As:a.2.1.length<=9223372036854775807:=hmx hx.1.2.1.1
 delta aVW aBB aDB xE;refine dR ?_
 simp only[aEU,aEG,cAN,bO9,bNM,bVT,bW0,bTL,cC5,qW,aU8]
 (repeat' first|intro _|(with_reducible apply And.intro))
 all_goals first|(exact eqF fun h=>‹¬_=_› (by rw[h]))|skip
 refine⟨fun s=>∃k:Nat,k<=a.2.1.length/\s=(k:Int)/\∀i,i<k->a.2.1.getD i (aK (aB))=b.2.1.getD i (aK (aB)),fun s=>a.2.1.length - (s:Int).toNat,⟨0,by omega,rfl,by omega⟩,fun s _ hI=>?_⟩
 obtain⟨k,hk,rfl,ha⟩:=hI
 try (refine dQ ?_;try with_reducible exact True.intro)
 (repeat' first|intro _|(with_reducible apply And.intro))
 all_goals first|omega|(exact eqF fun h=>‹¬_=_› (by rw[h]))|(refine⟨k+1,by omega,rfl,fun i hi=>?_⟩;rcases Nat.lt_or_eq_of_le (Nat.le_of_lt_succ hi) with h|rfl;exact ha i h;exact(by assumption))|skip
 all_goals have f1:a.2.1=b.2.1:=aBX (by assumption) fun i hi=>ha i (by omega)
 refine⟨fun s=>∃j:Nat,j<=a.1.length/\s=(j:Int)/\∀i,i<j->a.1.getD i (aK (aL))=b.1.getD i (aK (aL)),fun s=>a.1.length - (s:Int).toNat,⟨0,by omega,rfl,by omega⟩,fun s _ hI=>?_⟩
 obtain⟨j,hj,rfl,hb⟩:=hI
 try (refine dQ ?_;try with_reducible exact True.intro)
 (repeat' first|intro _|(with_reducible apply And.intro))
 all_goals first|omega|(exact eqF fun h=>‹¬_=_› (by rw[h]))|(refine⟨j+1,by omega,rfl,fun i hi=>?_⟩;rcases Nat.lt_or_eq_of_le (Nat.le_of_lt_succ hi) with h|rfl;exact hb i h;exact Prod.ext (by assumption) (by assumption))|skip
 all_goals have f0:a.1=b.1:=aBX (by assumption) fun i hi=>hb i (by omega)
 all_goals first|(rw[Bool.eq_iff_iff,qW,qW,e];simp_all;done)|(refine eqT (e.2 ?_);simp_all;done)|(refine eqF fun h=>?_;rw[e] at h;simp_all;done)
end
end Go.Proofs.YtfmfeplebgbpmaaGreat
