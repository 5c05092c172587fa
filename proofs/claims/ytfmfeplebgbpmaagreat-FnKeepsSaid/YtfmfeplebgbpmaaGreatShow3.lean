/- Show3: lemmas. No conditions. -/
import Derived.Test.YtfmfeplebgbpmaaGreatLin2
namespace Go.Proofs.YtfmfeplebgbpmaaGreat
open Go.ChangeShapes Go.WideShapes Go.ChangeAt Go.RowKit Go.Deep
set_option linter.unusedVariables false
set_option linter.unusedSimpArgs false
noncomputable section
set_option maxRecDepth 100000
def hi (n:Int):Nat->Int
 | 0=>n
 | j+1=>hi n j / 256
def bIK (n:Int):Nat->List Int
 | 0=>[]
 | j+1=>(hi n j % 256)::bIK n j
theorem cKH {n:Int} (h:0<=n):(j:Nat)->0<=hi n j/\hi n j<=n
 | 0=>⟨h,Int.le_refl _⟩
 | j+1=>by have:=cKH h j;unfold hi;omega
theorem hi7 {n:Int} (h:0<=n):hi n 7>0↔¬n<72057594037927936:=by unfold hi hi hi hi hi hi hi hi;omega
theorem aQD (n:Int):(j:Nat)->(bIK n j).length=j
 | 0=>rfl
 | j+1=>by unfold bIK;rw[List.length_cons,aQD n j]
theorem cHH (k:Nat) (x:Int) (l:List Int):(List.replicate (k+1) 0++l).set k x=List.replicate k 0++x::l:=by
 induction k with
 | zero=>rfl
 | succ k ih=>rw[List.replicate_succ,List.cons_append,List.set_cons_succ,ih];rfl
theorem aV2 (l:List Int):(jG l).size=l.length:=by unfold jG;simp[ByteArray.size]
theorem cH3 (a b:List Int):jG a++jG b=jG (a++b):=by
 unfold jG
 apply ByteArray.ext
 simp[ByteArray.data_append]
theorem cIN (s:ByteArray):s++(⟨#[]⟩:ByteArray)=s:=by apply ByteArray.ext;simp[ByteArray.data_append]
theorem jH (a b:ByteArray):(a++b).size=a.size+b.size:=ByteArray.size_append
def aNF (n:Int):ByteArray:=if 0<=n/\n<72057594037927936 then jG (bIK n 7) else⟨#[]⟩
theorem aG2 (n:Int):(aNF n).size<=7:=by
 unfold aNF
 split
 ·rw[aV2,aQD];exact Nat.le_refl _
 ·exact Nat.zero_le _
def rdN (s:ByteArray):Nat->Int
 | 0=>0
 | k+1=>rdN s k * 256+lD s k
theorem bSQ (s:ByteArray) (i:Int):0<=lD s i/\lD s i<=255:=bJ9 s i
theorem cCU (s:ByteArray):(k:Nat)->0<=rdN s k/\rdN s k<256 ^ k
 | 0=>by unfold rdN;omega
 | k+1=>by
  have h1:=cCU s k
  have h2:=bSQ s k
  unfold rdN
  rw[Int.pow_succ]
  omega
theorem cB8 (s:ByteArray) {k:Nat} (h:k<=7):0<=rdN s k/\rdN s k<72057594037927936:=by
 have h1:=cCU s k
 have h2:(256:Int) ^ k<=72057594037927936:=by
  have:k=0\/k=1\/k=2\/k=3\/k=4\/k=5\/k=6\/k=7:=by omega
  rcases this with rfl|rfl|rfl|rfl|rfl|rfl|rfl|rfl<;>decide
 omega
def bRD (s:ByteArray):Int×Bool:=if 7<=s.size then(rdN s 7,true) else(0,false)
def sW (n:Int):ByteArray:=if n<0 then(⟨#[45]⟩:ByteArray)++aNF (-n) else(⟨#[43]⟩:ByteArray)++aNF n
theorem yF (n:Int):(sW n).size<=8:=by
 have h1:=aG2 (-n)
 have h2:=aG2 n
 unfold sW
 split<;>rw[jH]<;>(show 1+_<=8)<;>omega
def mD (n:Int):Bool:=decide (-1000000000000<=n/\n<=1000000000000)
def aKM (s:ByteArray) (l:List Int):ByteArray:=l.foldl (fun s n=>s++sW n) s
theorem bHN (s:ByteArray) (l:List Int) {k:Nat} (h:k<l.length):aKM s (l.take k)++sW l[k]=aKM s (l.take (k+1)):=by
 unfold aKM
 rw[List.take_succ_eq_append_getElem h,List.foldl_append]
 rfl
theorem aHH (s:ByteArray):(l:List Int)->(aKM s l).size<=s.size+8 * l.length
 | []=>by unfold aKM;simp
 | x::l=>by
  have h:=aHH (s++sW x) l
  have h2:=yF x
  rw[jH] at h
  show(aKM (s++sW x) l).size<=_
  rw[List.length_cons];omega
def gR (l:List Int):ByteArray:=if l.length<=200/\l.all mD=true then aKM (sW l.length) l else⟨#[]⟩
theorem cJ (l:List Int):(gR l).size<=1608:=by
 unfold gR
 split
 ·rename_i h
  have h1:=aHH (sW l.length) l
  have h2:=yF l.length
  omega
 ·exact Nat.zero_le _
def aXH:Con:=⟨285,aU,.str,[.val ⟨false,tI,[]⟩,.val ⟨false,tI,[]⟩],[⟨false,.str,[0]⟩],false,none,
 ((fun x=>x.2=7):(Int×Int)->Prop),
 ((fun x=>aNF x.1):(Int×Int)->(ByteArray))⟩
def bIY:T:=qY yZ bF 1 iQ <| lN yZ sV 2 iQ <| aEH aB9 3 iQ <| fR pY (fX 8) yZ <| lR (.shr .i64 .i64) aB9 4 <| rO fF aN 6 iQ <| .cMW (.rep 5 jV 1) yZ <| lL yZ <| xF qK qK (kM cM aB9 7) <| vH .geq (pZ aV 9) aN 10 (mL aDA (aOH aV 1 9) 256 <| aGX .i64 .u8 11 <| bZ 5 jV aV (bUG aV 9) (pZ aV 9) <| sZ 5 jV (bV0 jV) (kM (bUG aV 9) (pZ aV 9) 12) <| mL (.quo .i64) (aOH aV 1 9) 256 <| aCH mY (pZ aV 9) 0 (oH qK (kM gM fC 14))) <| .cMW (.b2s 5) (bUG aV 9) <| cF 11
theorem bZ9:Con.Holds Tryz.prog aXH:=tk ⟨[(2986,16009,iZ 27 7++[.dr 1,.tm 6 0,.tm 0 0,.sl 1])],[]⟩ bIY aH fun(x:Int×Int) hx hp=>by
 dsimp only [aXH] at hx hp⊢
 obtain⟨n,w⟩:=x
 obtain rfl:w=7:=hp
 have hn:=hx.1
 delta bIY;refine dR ?_
 have e2:(2:Int) ^ min (8 * (7:Int)).toNat IntKind.i64.bits=72057594037927936:=by decide
 rw[e2,Int.fdiv_eq_ediv_of_nonneg _ (by decide)]
 refine dQ ?_
 refine⟨by omega,fun _=>⟨by omega,fun _=>⟨fun h=>?_,fun h=>⟨by omega,fun _=>⟨by omega,fun _=>⟨fun hb=>?_,fun hb=>⟨?_,fun _=>⟨by omega,fun _=>?_⟩⟩⟩⟩⟩⟩⟩⟩
 ·unfold aNF;rw[if_neg (by omega)]
 ·unfold aNF;rw[if_neg (by omega)]
 ·unfold repC;decide
 ·refine⟨fun s=>∃j:Nat,j<=7/\s=(6 - (j:Int),hi n j,List.replicate (7 - j) 0++bIK n j),fun s=>(s.1+1:Int).toNat,⟨0,by omega,rfl⟩,fun s _ hI=>?_⟩
  obtain⟨j,hj,rfl⟩:=hI
  have hb2:=cKH h j
  try dsimp only
  try refine dQ ?_
  constructor
  ·intro hlt
   have e3:(hi n j).tmod 256=hi n j % 256:=Int.tmod_eq_emod_of_nonneg hb2.1
   have e4:(hi n j).tdiv 256=hi n j / 256:=Int.tdiv_eq_ediv_of_nonneg hb2.1
   have e5:IntKind.u8.wrap (hi n j % 256)=hi n j % 256:=aBD (by show 0<=_/\_<=255;omega)
   have e6:(6 - (j:Int)).toNat=6 - j:=by omega
   rw[e3,e4,e5,e6]
   have hl:(List.replicate (7 - j) (0:Int)).length+(bIK n j).length=7:=by rw[List.length_replicate,aQD];omega
   rw[hl]
   have e7:(List.replicate (7 - j) 0++bIK n j:List Int).set (6 - j) (hi n j % 256)=List.replicate (7 - (j+1)) 0++bIK n (j+1):=by
    have:7 - j=(6 - j)+1:=by omega
    rw[this,cHH,show 7 - (j+1)=6 - j by omega]
    rfl
   have A7:n<=9223372036854775807:=hn.2
   (repeat' first|intro _|(with_reducible apply And.intro))
   all_goals first|omega|skip
   exact⟨j+1,by omega,by rw[<-e7];exact Prod.ext (by show(6 - (j:Int) - 1)=6 - ((j+1:Nat):Int);omega) rfl⟩
  ·intro hge
   have:j=7:=by omega
   subst this
   intro _
   show jG (bIK n 7)=aNF n
   unfold aNF
   rw[if_pos (by omega)]
def aY5:Con:=⟨340,aU,.str,[.val ⟨false,tI,[]⟩,.val ⟨false,tI,[]⟩],[⟨false,.str,[0]⟩],false,none,
 ((fun x=>x.2=7):(Int×Int)->Prop),
 ((fun x=>aNF x.1):(Int×Int)->(ByteArray))⟩
def bJA:T:=mI 0 iK yZ bF 7 <| dL 1 2 iQ <| aEH aB9 3 iQ <| oQ (pH .str tI) (pH .str tI) iQ aB9 <| aEY tI tI (gZ .str tI 4) yZ 5 (mL aDA (aAB .str tI 2 4) 256 <| aGX .i64 .u8 6 <| kO 5 jV 7 <| aEQ (.b2s 5) 8 <| xU .sadd .str cU (sF tI 1 4) <| mL (.quo .i64) (aAB .str tI 2 4) 256 <| lI (gZ .str tI 4) 0 (pH .str tI) fE cI 11) <| lN (aAB .str tI 2 4) aN 6 iQ <| .ret (sF tI 1 4)
theorem bZ1:Con.Holds Tryz.prog aY5:=tk ⟨[(2986,4004,iZ 13 7++[.tm 6 0,.tm 5 0,.tm 0 0])],[]⟩ bJA (aC lV aH) fun(x:Int×Int) hx hp=>by
 dsimp only [aY5] at hx hp⊢
 obtain⟨n,w⟩:=x
 obtain rfl:w=7:=hp
 have hn:=hx.1
 delta bJA kI;refine dR ?_
 refine dQ ?_
 refine⟨fun h=>by omega,fun _=>⟨fun h=>?_,fun h=>?_⟩⟩
 ·unfold aNF;rw[if_neg (by omega)]
 ·refine⟨fun s=>∃j:Nat,j<=7/\s=((j:Int),jG (bIK n j),hi n j),fun s=>(7 - s.1:Int).toNat,⟨0,by omega,rfl⟩,fun s _ hI=>?_⟩
  obtain⟨j,hj,rfl⟩:=hI
  have hb2:=cKH h j
  try dsimp only
  try refine dQ ?_
  constructor
  ·intro hlt
   have e3:(hi n j).tmod 256=hi n j % 256:=Int.tmod_eq_emod_of_nonneg hb2.1
   have e4:(hi n j).tdiv 256=hi n j / 256:=Int.tdiv_eq_ediv_of_nonneg hb2.1
   have e5:IntKind.u8.wrap (hi n j % 256)=hi n j % 256:=aBD (by show 0<=_/\_<=255;omega)
   rw[e3,e4,e5,cH3,aV2,aV2,aQD]
   have A7:n<=9223372036854775807:=hn.2
   (repeat' first|intro _|(with_reducible apply And.intro))
   all_goals first|omega|(unfold maxLen;simp;omega)|skip
   exact⟨j+1,by omega,rfl⟩
  ·intro hge
   have:j=7:=by omega
   subst this
   have h7:=hi7 h
   unfold aNF
   constructor
   ·intro hp;rw[if_neg (by omega)]
   ·intro hp;rw[if_pos (by omega)]
def aIU:Con:=⟨286,(.cMV .str tI),aB4,[.val ⟨false,.str,[]⟩,.val ⟨false,tI,[]⟩],[⟨false,tI,[0]⟩,⟨false,.bool,[0]⟩],false,none,
 ((fun x=>x.2=7):((ByteArray)×Int)->Prop),
 ((fun x=>bRD x.1):((ByteArray)×Int)->(Int×Bool))⟩
def aS1:T:=qY bM2 bF 1 (wJ .bool aX) <| lN bM2 sV 2 (wJ .bool aX) <| aME cCB <| qY eG bM2 4 (wJ .bool aX) <| pX aU tI aN <| aEY tI tI (kL 5) bM2 6 (fR pY (fX 256) (aAJ 5) <| xU .sidx tI cCB (kL 5) <| aGX .u8 .i64 8 <| mF jT tI tI 7 9 <| aCX (kL 5) 0 tI cO cI) <| lW tI (aAJ 5) bD
theorem bII:Con.Holds Tryz.prog aIU:=tk ⟨[(2986,8005,iZ 19 8++[.tm 7 0,.tm 6 0])],[]⟩ aS1 aH fun(x:(ByteArray)×Int) hx hp=>by
 dsimp only [aIU] at hx hp⊢
 obtain⟨s,w⟩:=x
 obtain rfl:w=7:=hp
 have hs:s.size<=9223372036854775807:=by have:s.size<=maxLen:=hx.1;unfold maxLen at this;omega
 delta aS1;refine dR ?_
 refine dQ ?_
 refine⟨fun h=>by omega,fun _=>⟨fun h=>by omega,fun _ _=>⟨fun h=>?_,fun h=>?_⟩⟩⟩
 ·unfold bRD;rw[if_neg (by omega)]
 ·refine⟨fun t=>∃k:Nat,k<=7/\t=((k:Int),rdN s k),fun t=>(7 - t.1:Int).toNat,⟨0,by omega,rfl⟩,fun t _ hI=>?_⟩
  obtain⟨k,hk,rfl⟩:=hI
  try dsimp only
  try refine dQ ?_
  constructor
  ·intro hlt
   have h1:=cCU s k
   have h3:=bSQ s k
   have h2:=cB8 s hk
   have e:IntKind.i64.wrap (lD s k)=lD s k:=aBD (by show -9223372036854775808<=_/\_<=9223372036854775807;omega)
   rw[e]
   have h4:=cB8 s (show k+1<=7 by omega)
   unfold rdN at h4
   (repeat' first|intro _|(with_reducible apply And.intro))
   all_goals first|omega|skip
   exact⟨k+1,by omega,Prod.ext (by show(k:Int)+1=((k+1:Nat):Int);omega) (by show 256 * rdN s k+lD s k=rdN s k * 256+lD s k;omega)⟩
  ·intro hge
   have:k=7:=by omega
   subst this
   unfold bRD;rw[if_pos (by omega)]
def aBR:Con:=⟨190,tI,.str,[.val ⟨false,tI,[]⟩],[⟨false,.str,[0]⟩],false,none,
 ((fun x=>-1000000000000<=x/\x<=1000000000000):(Int)->Prop),
 ((fun x=>sW x):(Int)->(ByteArray))⟩
def aQ9:T:=aEY tI tI bJ aN 1 (aEQ bTO 0 <| jK 0 bM sV <| xN (.cs ⟨#[45]⟩) 3 aD7) <| jK 0 bJ sV <| xN (.cs ⟨#[43]⟩) 2 <| cF 3
theorem aOA:Con.Holds Tryz.prog aBR:=tk ⟨[],[]⟩ aQ9 (aC bZ9 aH) fun(x:Int) hx hp=>by
 dsimp only [aBR] at hx hp⊢
 obtain⟨h1,h2⟩:-1000000000000<=x/\x<=1000000000000:=hp
 delta aQ9 aXH;refine dR ?_
 refine dQ ?_
 have s1:=aG2 (-x)
 have s2:=aG2 x
 constructor
 ·intro h
  (repeat' first|intro _|(with_reducible apply And.intro))
  all_goals first|omega|(unfold maxLen;show 1+_<=_;omega)|(unfold sW;rw[if_pos h])
 ·intro h
  (repeat' first|intro _|(with_reducible apply And.intro))
  all_goals first|omega|(unfold maxLen;show 1+_<=_;omega)|(unfold sW;rw[if_neg (by omega)])
def aML:Con:=⟨287,tI,.str,[.val ⟨false,tI,[]⟩],[⟨false,.str,[0]⟩],false,none,
 ((fun x=>-1000000000000<=x/\x<=1000000000000):(Int)->Prop),
 ((fun x=>sW x):(Int)->(ByteArray))⟩
def bEX:T:=aEY tI tI bJ aN 1 (aEQ bTO 0 <| jK 0 bM sV <| xN (.cs ⟨#[45]⟩) 3 aD7) <| jK 0 bJ sV <| xN (.cs ⟨#[43]⟩) 2 <| cF 3
theorem bHO:Con.Holds Tryz.prog aML:=tk ⟨[],[]⟩ bEX (aC bZ1 aH) fun(x:Int) hx hp=>by
 dsimp only [aML] at hx hp⊢
 obtain⟨h1,h2⟩:-1000000000000<=x/\x<=1000000000000:=hp
 delta bEX aY5;refine dR ?_
 refine dQ ?_
 have s1:=aG2 (-x)
 have s2:=aG2 x
 constructor
 ·intro h
  (repeat' first|intro _|(with_reducible apply And.intro))
  all_goals first|omega|(unfold maxLen;show 1+_<=_;omega)|(unfold sW;rw[if_pos h])
 ·intro h
  (repeat' first|intro _|(with_reducible apply And.intro))
  all_goals first|omega|(unfold maxLen;show 1+_<=_;omega)|(unfold sW;rw[if_neg (by omega)])
def aMD:Con:=⟨288,tI,.bool,[.val ⟨false,tI,[]⟩],[⟨false,.bool,[0]⟩],false,none,
 ((fun _=>True):(Int)->Prop),
 ((fun x=>mD x):(Int)->(Bool))⟩
def aWM:T:=mI 0 iK bJ (fX (-1000000000000)) 1000000000000 <| cF 1
theorem bLP:Con.Holds Tryz.prog aMD:=tk ⟨[],[]⟩ aWM (aC lV aH) fun(x:Int) hx hp=>by
 dsimp only [aMD] at hx hp⊢
 delta aWM kI;refine dR ?_
 unfold mD
 rw[Bool.eq_iff_iff]
 simp
theorem aG3 (n:Int):mD n=true↔-1000000000000<=n/\n<=1000000000000:=by unfold mD;rw[decide_eq_true_eq]
theorem bQI {l:List Int} {k:Nat} (h:k<l.length) (hb:¬(-1000000000000<=l[k]/\l[k]<=1000000000000)):(⟨#[]⟩:ByteArray)=gR l:=by
 unfold gR
 rw[if_neg]
 intro h2
 have:=aFB (F:=mD) h (by rw[Bool.eq_false_iff];intro h3;exact hb ((aG3 _).1 h3))
 rw[this] at h2
 exact absurd h2.2 (by simp)
theorem bJ6 {l:List Int} (h:200<l.length):(⟨#[]⟩:ByteArray)=gR l:=by unfold gR;rw[if_neg (by omega)]
def aB0:Con:=⟨96,aA,.str,[.val ⟨false,aA,[]⟩],[⟨false,.str,[0]⟩],false,none,
 ((fun _=>True):(List Int)->Prop),
 ((fun x=>gR x):(List Int)->(ByteArray))⟩
def bAT:T:=cK bJ <| lN aZ (fX 200) 2 iQ <| cK bJ <| nU 3 <| cK bJ <| pX aJF .str dY <| oJ .str 6 5 7 (jZ 3 bJ (cB .str 6) <| qY cM (fX (-1000000000000)) 9 iQ <| lN cM (fX 1000000000000) 10 iQ <| nU 8 <| xN (sR 6) 11 <| eJ .str 6 0 .str eM fE) (sR 6)
theorem aHT:Con.Holds Tryz.prog aB0:=tk ⟨[(2986,2006,iZ 11 6++[.dr 0,.tm 14 0,.tm 3 0])],[]⟩ bAT (aC aOA aH) fun(x:List Int) hx hp=>by
 dsimp only [aB0] at hx hp⊢
 delta bAT aBR;refine dR ?_
 refine dQ ?_
 refine fun _=>⟨fun h=>bJ6 (by omega),fun h _=>⟨by omega,fun _ _=>?_⟩⟩
 refine⟨fun t=>∃k:Nat,k<=x.length/\t=((k:Int),aKM (sW x.length) (x.take k))/\(x.take k).all mD=true,fun t=>x.length - (t.1:Int).toNat,⟨0,by omega,rfl,rfl⟩,fun t _ hI=>?_⟩
 obtain⟨k,hk,rfl,ha⟩:=hI
 try dsimp only
 try refine dQ ?_
 constructor
 ·intro hlt
  have hk':k<x.length:=by omega
  rw[aP hk']
  have e:=xC mD x hk'
  have s1:=aHH (sW x.length) (x.take k)
  have s2:=yF x.length
  have s3:=yF (x[k]'hk')
  rw[List.length_take] at s1
  (repeat' first|intro _|(with_reducible apply And.intro))
  all_goals first|omega|(refine bQI hk' ?_;omega)|(unfold maxLen;omega)|skip
  exact⟨k+1,by omega,Prod.ext (by show(k:Int)+1=((k+1:Nat):Int);omega) (bHN _ _ hk'),by rw[e,ha,(aG3 _).2 ⟨by omega,by omega⟩];rfl⟩
 ·intro hge
  have:k=x.length:=by omega
  subst this
  rw[List.take_length] at ha⊢
  unfold gR
  rw[if_pos ⟨by omega,ha⟩]
def xI:Con:=⟨198,aA,.str,[.val ⟨false,aA,[]⟩],[⟨false,.str,[0]⟩],false,none,
 ((fun _=>True):(List Int)->Prop),
 ((fun x=>gR x):(List Int)->(ByteArray))⟩
def bB8:T:=cK bJ <| lN aZ (fX 200) 2 iQ <| cK bJ <| nU 3 <| gW aJF .str dY 3 tI bJ <| oJ .str 5 6 7 (jZ 3 bJ (cB .str 5) <| cD 1 8 <| dL 9 10 iQ <| jZ 3 bJ (cB .str 5) <| nU 11 <| xN (sR 5) 12 <| eJ .str 5 0 .str dK eM) (sR 5)
theorem aDV:Con.Holds Tryz.prog xI:=tk ⟨[(2986,2005,iZ 10 5++[.tm 4 0,.tm 3 0])],[]⟩ bB8 (aC bHO (aC bLP aH)) fun(x:List Int) hx hp=>by
 dsimp only [xI] at hx hp⊢
 delta bB8 aML aMD;refine dR ?_
 refine dQ ?_
 refine fun _=>⟨fun h=>bJ6 (by omega),fun h _=>⟨by omega,fun _=>?_⟩⟩
 refine⟨fun t=>∃k:Nat,k<=x.length/\t=((k:Int),aKM (sW x.length) (x.take k))/\(x.take k).all mD=true,fun t=>x.length - (t.1:Int).toNat,⟨0,by omega,rfl,rfl⟩,fun t _ hI=>?_⟩
 obtain⟨k,hk,rfl,ha⟩:=hI
 try dsimp only
 try refine dQ ?_
 refine fun _=>?_
 constructor
 ·intro hlt
  have hk':k<x.length:=by omega
  rw[aP hk']
  have e:=xC mD x hk'
  have s1:=aHH (sW x.length) (x.take k)
  have s2:=yF x.length
  have s3:=yF (x[k]'hk')
  have s4:=aG3 (x[k]'hk')
  rw[List.length_take] at s1
  (repeat' first|intro _|(with_reducible apply And.intro))
  all_goals first|omega|(refine bQI hk' fun h9=>?_;have h8:=s4.2 h9;simp_all;done)|exact(s4.1 (by assumption)).1|exact(s4.1 (by assumption)).2|(unfold maxLen;omega)|skip
  exact⟨k+1,by omega,Prod.ext (by show(k:Int)+1=((k+1:Nat):Int);omega) (bHN _ _ hk'),by rw[e,ha,‹mD (x[k]'hk')=true›];rfl⟩
 ·intro hge
  have:k=x.length:=by omega
  subst this
  rw[List.take_length] at ha⊢
  unfold gR
  rw[if_pos ⟨by omega,ha⟩]
def yX (v:List Int):Bool:=decide (v.length<=200)&&v.all mD
theorem bQV (n:Int):1<=(sW n).size:=by
 unfold sW
 split<;>rw[jH]<;>(show 1<=1+_)<;>omega
theorem bSE (s:ByteArray):(l:List Int)->s.size<=(aKM s l).size
 | []=>Nat.le_refl _
 | x::l=>by
  have h:=bSE (s++sW x) l
  rw[jH] at h
  show s.size<=(aKM (s++sW x) l).size
  omega
def isE (p:ByteArray):Bool:=decide (p=⟨#[]⟩)
theorem cFY (n:Int):isE (sW n)=false:=by
 unfold isE;rw[decide_eq_false_iff_not];intro h
 have:=bQV n;rw[h] at this;exact absurd this (by decide)
theorem yI (v:List Int):isE (gR v) = !yX v:=by
 unfold isE gR yX
 by_cases h:v.length<=200/\v.all mD=true
 ·rw[if_pos h,decide_eq_true h.1,h.2]
  rw[decide_eq_false_iff_not.2 (fun e=>?_)];· rfl
  have h1:=bSE (sW v.length) v
  have h2:=bQV v.length
  rw[e] at h1;exact absurd (Nat.le_trans h2 h1) (by decide)
 ·rw[if_neg h,decide_eq_true rfl]
  cases ha:v.all mD
  ·simp
  ·rw[decide_eq_false (fun h2=>h ⟨h2,ha⟩)];rfl
def lZ (s:ByteArray) (l:List ByteArray):ByteArray:=l.foldl (fun a b=>a++b) s
theorem zU (s:ByteArray) (a b:List ByteArray):lZ s (a++b)=lZ (lZ s a) b:=List.foldl_append
theorem cF5 (a b c:ByteArray):a++b++c=a++(b++c):=by apply ByteArray.ext;simp[ByteArray.data_append,Array.append_assoc]
theorem yP (a:ByteArray):(⟨#[]⟩:ByteArray)++a=a:=by apply ByteArray.ext;simp[ByteArray.data_append]
theorem aDO (s:ByteArray):(l:List ByteArray)->lZ s l=s++lZ ⟨#[]⟩ l
 | []=>(cIN s).symm
 | x::l=>by
  show lZ (s++x) l=s++lZ (⟨#[]⟩++x) l
  rw[aDO (s++x) l,aDO (⟨#[]⟩++x) l,yP,cF5]
theorem aDL (s p:ByteArray):lZ s [p]=s++p:=rfl
def szP (l:List ByteArray):Prop:=∀p∈l,p.size<=1608
theorem sP (s:ByteArray):(l:List ByteArray)->szP l->(lZ s l).size<=s.size+1608 * l.length
 | [],_=>Nat.le_refl _
 | x::l,h=>by
  have h1:=sP (s++x) l (fun p hp=>h p (List.mem_cons_of_mem _ hp))
  have h2:=h x List.mem_cons_self
  rw[jH] at h1
  show(lZ (s++x) l).size<=_
  rw[List.length_cons];omega
theorem bTF (a b:ByteArray):lM (a++b)=lM a++lM b:=by unfold lM;rw[ByteArray.data_append,Array.toList_append,List.map_append]
theorem aTN (a:ByteArray):(lM a).length=a.size:=by unfold lM;rw[List.length_map];rfl
theorem bKB (a:ByteArray):jG (lM a)=a:=by
 unfold jG lM
 apply ByteArray.ext
 rw[List.map_map]
 have:∀l:List UInt8,l.map ((fun n:Int=>UInt8.ofNat n.toNat) ∘ fun b=>(b.toNat:Int))=l:=fun l=>by
  rw[List.map_congr_left (g:=id) fun b _=>?_,List.map_id]
  show UInt8.ofNat ((b.toNat:Int).toNat)=b
  rw[Int.toNat_natCast];simp
 rw[this]
abbrev WrD:=List Int×Bool
def zR (w:WrD) (s:ByteArray):WrD:=(w.1++lM s,w.2||isE s)
def eN (w:WrD) (l:List ByteArray):WrD:=l.foldl zR w
theorem sJ (w:WrD) (a b:List ByteArray):eN w (a++b)=eN (eN w a) b:=List.foldl_append
theorem bCR:(l:List ByteArray)->(s:ByteArray)->(b:Bool)->eN (lM s,b) l=(lM (lZ s l),b||l.any isE)
 | [],s,b=>by simp[eN,lZ]
 | x::l,s,b=>by
  have h:=bCR l (s++x) (b||isE x)
  rw[bTF] at h
  show eN (lM s++lM x,b||isE x) l=_
  rw[h,List.any_cons,Bool.or_assoc];rfl
theorem kY (w:WrD):(l:List ByteArray)->szP l->(eN w l).1.length<=w.1.length+1608 * l.length
 | [],_=>Nat.le_refl _
 | x::l,h=>by
  have h1:=kY (zR w x) l (fun p hp=>h p (List.mem_cons_of_mem _ hp))
  have h2:=h x List.mem_cons_self
  have h3:(zR w x).1.length=w.1.length+x.size:=by unfold zR;rw[List.length_append,aTN]
  show(eN (zR w x) l).1.length<=_
  rw[List.length_cons];omega
theorem aLK {a b:List ByteArray} (h1:szP a) (h2:szP b):szP (a++b):=fun p hp=>by
 rw[List.mem_append] at hp;exact hp.elim (h1 p) (h2 p)
theorem jQ {a:ByteArray} {b:List ByteArray} (h1:a.size<=1608) (h2:szP b):szP (a::b):=fun p hp=>by
 rw[List.mem_cons] at hp;rcases hp with rfl|hp;exact h1;exact h2 p hp
theorem vE:szP []:=fun p hp=>by cases hp
theorem xJ {α:Type} {g:α->List ByteArray} (l:List α) (h:∀a,szP (g a)):szP (l.flatMap g):=fun p hp=>by
 rw[List.mem_flatMap] at hp;obtain⟨a,_,hp⟩:=hp;exact h a p hp
theorem bW1 (n:Int):(sW n).size<=1608:=Nat.le_trans (yF n) (by decide)
def nP (l:cT):List ByteArray:=sW l.length::l.map gR
theorem aBW (l:cT):szP (nP l):=jQ (bW1 _) fun p hp=>by
 rw[List.mem_map] at hp;obtain⟨a,_,rfl⟩:=hp;exact cJ a
theorem yA (l:cT):(nP l).length=l.length+1:=by unfold nP;rw[List.length_cons,List.length_map]
theorem bGT (l:cT) {k:Nat} (h:k<l.length):(nP l).take (k+1)++[gR l[k]]=(nP l).take (k+2):=by
 have h':k+1<(nP l).length:=by rw[yA];omega
 have e:(nP l)[k+1]'h'=gR l[k]:=by simp[nP]
 rw[List.take_succ_eq_append_getElem h',e]
theorem bIT (l:cT):(nP l).take (l.length+1)=nP l:=List.take_of_length_le (by rw[yA];exact Nat.le_refl _)
theorem cAR (l:cT):(nP l).take 1=[sW l.length]:=rfl
theorem tS {α β:Type} (g:α->List β) (l:List α) {k:Nat} (h:k<l.length):(l.take (k+1)).flatMap g=(l.take k).flatMap g++g l[k]:=by
 rw[List.take_succ_eq_append_getElem h,List.flatMap_append,List.flatMap_singleton]
theorem rJ {α β:Type} (g:α->List β) (B:Nat):(l:List α)->(∀a∈l,(g a).length<=B)->(l.flatMap g).length<=B * l.length
 | [],_=>Nat.le_refl _
 | x::l,h=>by
  have h1:=rJ g B l (fun a ha=>h a (List.mem_cons_of_mem _ ha))
  have h2:=h x List.mem_cons_self
  rw[List.flatMap_cons,List.length_append,List.length_cons,Nat.mul_succ];omega
def aEI (i:eP):List ByteArray:=[gR [i.1,i.2]]
def opP (o:fP):List ByteArray:=[gR [o.1,o.2.1,o.2.2.1],gR o.2.2.2]
def aAH (x:eC):List ByteArray:=gR [x.1]::nP x.2
theorem bLH (i:eP):szP (aEI i):=jQ (cJ _) vE
theorem bVK (o:fP):szP (opP o):=jQ (cJ _) (jQ (cJ _) vE)
theorem bLR (x:eC):szP (aAH x):=jQ (cJ _) (aBW _)
def b01 (b:Bool):Int:=if b=true then 1 else 0
def aAS (s:aR):List Int:=[s.1,b01 s.2.2.2.1,b01 s.2.2.2.2.1,s.2.2.2.2.2.2.2.2.2.2.2.2.1,b01 s.2.2.2.2.2.2.2.2.2.2.2.2.2,s.2.1.length,s.2.2.1.length,s.2.2.2.2.2.1.length]
def aIR (s:aR):List ByteArray:=nP s.2.2.2.2.2.2.1++([gR s.2.2.2.2.2.2.2.1,gR s.2.2.2.2.2.2.2.2.1,gR s.2.2.2.2.2.2.2.2.2.1,gR s.2.2.2.2.2.2.2.2.2.2.1]++nP s.2.2.2.2.2.2.2.2.2.2.2.1)
def lT (s:aR):List ByteArray:=[gR (aAS s)]++(s.2.1.flatMap aEI++(s.2.2.1.flatMap opP++(s.2.2.2.2.2.1.flatMap aAH++aIR s)))
def aAM (s:aR):cT:=[[s.1,s.2.2.2.2.2.2.2.2.2.2.2.2.1],s.2.2.2.2.2.2.2.1,s.2.2.2.2.2.2.2.2.1,s.2.2.2.2.2.2.2.2.2.1,s.2.2.2.2.2.2.2.2.2.2.1]++(s.2.1.flatMap (fun i=>[[i.1,i.2]])++(s.2.2.1.flatMap (fun o=>[o.2.2.2])++(s.2.2.2.2.2.1.flatMap (fun x=>[x.1]::x.2)++(s.2.2.2.2.2.2.1++s.2.2.2.2.2.2.2.2.2.2.2.1))))
def aTH (s:aR):Prop:=gY s=true/\s.2.1.length<=100/\s.2.2.2.2.2.1.length<=5/\s.2.2.2.2.2.2.1.length<=20
instance (s:aR):Decidable (aTH s):=by unfold aTH;infer_instance
def mE (s:aR):ByteArray:=if aTH s/\(aAM s).all yX=true then lZ ⟨#[]⟩ (lT s) else⟨#[]⟩
theorem bZH (b:Bool):mD (b01 b)=true:=by cases b<;>decide
theorem aXK {n:Nat} (h:n<=1000):mD (n:Int)=true:=by unfold mD;rw[decide_eq_true_eq];omega
theorem bFJ {s:aR} (h:aTH s):yX (aAS s)=yX [s.1,s.2.2.2.2.2.2.2.2.2.2.2.2.1]:=by
 obtain⟨h1,h2,h3,_⟩:=h
 have h5:=(bO _).1 ((cA s).1 h1).1
 unfold yX aAS
 simp only[List.all_cons,List.all_nil,bZH,aXK (show s.2.1.length<=1000 by omega),aXK (show s.2.2.1.length<=1000 by omega),aXK (show s.2.2.2.2.2.1.length<=1000 by omega),Bool.true_and,Bool.and_true,List.length_cons,List.length_nil]
 rfl
theorem cCA {m:List fP} (h:dD m=true):∀o∈m,yX [o.1,o.2.1,o.2.2.1]=true:=fun o ho=>by
 obtain⟨i,hi,rfl⟩:=List.getElem_of_mem ho
 have h1:=((vO m hi).1 (((bO m).1 h).2.2 i hi)).1
 have h2:=((lO _).1 h1).1
 unfold yX
 simp only[List.all_cons,List.all_nil,mD,List.length_cons,List.length_nil,Bool.and_true]
 simp only[Bool.and_eq_true,decide_eq_true_eq]
 exact⟨by omega,by omega,by omega,by omega⟩
theorem bMB {α β:Type} (g:α->List β) (q:β->Bool):(l:List α)->(l.flatMap g).any q=l.any fun a=>(g a).any q
 | []=>rfl
 | x::l=>by rw[List.flatMap_cons,List.any_append,List.any_cons,bMB g q l]
theorem bV1 {α:Type} {f g:α->Bool}:(l:List α)->(∀a∈l,f a=g a)->l.any f=l.any g
 | [],_=>rfl
 | x::l,h=>by rw[List.any_cons,List.any_cons,h x List.mem_cons_self,bV1 l fun a ha=>h a (List.mem_cons_of_mem _ ha)]
theorem bZU (l:cT):(nP l).any isE=l.any fun v=>!yX v:=by
 unfold nP
 rw[List.any_cons,cFY,Bool.false_or,List.any_map]
 exact bV1 l fun a _=>yI a
theorem cAJ {s:aR} (h:aTH s):(lT s).any isE = !(aAM s).all yX:=by
 have hm:=((cA s).1 h.1).1
 unfold lT aIR aAM
 rw[List.not_all_eq_any_not]
 simp only[List.any_append,bMB,bZU,List.any_cons,List.any_nil,yI,bFJ h,Bool.or_false,aEI,aAH]
 have e1:s.2.2.1.any (fun a=>(opP a).any isE)=s.2.2.1.any fun o=>!yX o.2.2.2:=bV1 _ fun o ho=>by
  unfold opP;rw[List.any_cons,List.any_cons,List.any_nil,yI,yI,cCA hm o ho,Bool.or_false];rfl
 rw[e1]
 ac_rfl
theorem cAP {s:aR} (h:aTH s):eN ([],false) (lT s)=(lM (lZ ⟨#[]⟩ (lT s)),!(aAM s).all yX):=by
 have:=bCR (lT s) ⟨#[]⟩ false
 rw[Bool.false_or,cAJ h] at this
 exact this
theorem aV9 {s:aR} (h:gY s=true):∀x∈s.2.2.2.2.2.1,x.2.length<=9:=fun x hx=>by
 have h1:=(cA s).1 h
 have h2:=(bO _).1 h1.1
 have h3:=List.all_eq_true.1 h1.2.2.2.1 x hx
 have h4:=((aAO _ _ _).1 h3).1
 unfold aH0 at h4
 split at h4<;>omega
def tZ:Con:=⟨95,(.cMV aND .str),aND,[.box 134 ⟨true,aND,[2,0]⟩,.val ⟨false,.str,[]⟩],[],false,none,
 ((fun x=>x.1.1.length<=1000000000000/\x.2.size<=1000000000000):((bX×Bool)×(ByteArray))->Prop),
 ((fun x=>zR x.1 x.2):((bX×Bool)×(ByteArray))->(bX×Bool))⟩
def aOG:T:=.ite (iP jF 1 jF .str) (jM (.lapps 5) aV .str (dT aV .bool jF .str) (bMA jF) <| lW aV aZ bD) <| xU aH4 .str (bMA jF) iQ <| jM (.lapps 5) aV .str (dT aV .bool jF .str) (bMA jF) <| lW aV bM aZ
theorem aC1:Con.Holds Tryz.prog tZ:=tk ⟨[],[]⟩ aOG aH fun(x:(bX×Bool)×(ByteArray)) hx hp=>by
 dsimp only [tZ] at hx hp⊢
 obtain⟨⟨p,b⟩,s⟩:=x
 obtain⟨h1,h2⟩:p.length<=1000000000000/\s.size<=1000000000000:=hp
 delta aOG;refine dR ?_
 refine⟨fun hb=>⟨by omega,fun _=>?_⟩,fun hb=>⟨by omega,fun _=>?_⟩⟩
 ·unfold zR;dsimp only at hb⊢;rw[hb];rfl
 ·unfold zR isE;dsimp only at hb⊢;rw[hb];simp
def aF1:Con:=⟨192,(.cMV aND aF),aND,[.box 134 ⟨true,aND,[2,0]⟩,.val ⟨false,aF,[]⟩],[],false,none,
 ((fun x=>x.1.1.length<=100000000000/\x.2.length<=10000000):((bX×Bool)×cT)->Prop),
 ((fun x=>eN x.1 (nP x.2)):((bX×Bool)×cT)->(bX×Bool))⟩
def aN6:T:=nX (kE jF aF) <| nU 1 <| eQ 1 jF .str (bS jF aF) bM <| nX (kE jF aF) <| oQ rI rI (gK aV 1 3) (mM aV 3) <| cX (nG 5) 4 6 (bZ 253 aA aF (kE jF aF) (nG 5) <| cD 2 7 <| eQ 1 jF .str (aEO aV (kN aV 2 5) (wG aV 1 5)) cM <| gF (nG 5) 0 rI [cI,gK aV 1 9,mM aV 9]) <| qX aV (kN aV 2 5) aV 1 5
theorem bBT:Con.Holds Tryz.prog aF1:=tk ⟨[(2994,1005,iZ 10 6++[.dr 1,.tm 13 0,.bx 1 1,.sl 3])],[]⟩ aN6 (aC aOA (aC aC1 (aC aHT aH))) fun(x:(bX×Bool)×cT) hx hp=>by
 dsimp only [aF1] at hx hp⊢
 obtain⟨w,l⟩:=x
 obtain⟨h1,h2⟩:w.1.length<=100000000000/\l.length<=10000000:=hp
 delta aN6 aBR tZ aB0;refine dR ?_
 have h3:=bW1 l.length
 have h4:(zR w (sW l.length)).1.length<=w.1.length+1608:=kY w [sW l.length] (jQ h3 vE)
 refine fun _=>⟨by omega,fun _=>⟨by omega,fun _ _=>?_⟩⟩
 refine⟨fun s=>∃k:Nat,k<=l.length/\s=((k:Int),(eN w ((nP l).take (k+1))).2,(eN w ((nP l).take (k+1))).1),fun s=>l.length - (s.1:Int).toNat,⟨0,by omega,rfl⟩,fun s _ hI=>?_⟩
 obtain⟨k,hk,rfl⟩:=hI
 dsimp only
 refine dQ ?_
 constructor
 ·intro hlt
  have hk':k<l.length:=by omega
  rw[aP hk']
  have h5:=kY w ((nP l).take (k+1)) (fun p hp=>aBW l p (List.mem_of_mem_take hp))
  have h6:=cJ (l[k]'hk')
  rw[List.length_take] at h5
  have e:zR (eN w ((nP l).take (k+1))) (gR (l[k]'hk'))=eN w ((nP l).take (k+2)):=by rw[<-bGT l hk',sJ];rfl
  (repeat' first|intro _|(with_reducible apply And.intro))
  all_goals first|omega|skip
  exact⟨k+1,by omega,by rw[<-e];rfl⟩
 ·intro hge
  have:k=l.length:=by omega
  subst this
  rw[bIT]
def zV:Con:=⟨99,aND,(.cMV .str aND),[.box 134 ⟨true,aND,[2,0]⟩],[⟨false,.str,[0]⟩],false,none,
 ((fun _=>True):(bX×Bool)->Prop),
 ((fun x=>(if x.2=true then⟨#[]⟩ else jG x.1,x)):(bX×Bool)->((ByteArray)×(bX×Bool)))⟩
def aN4:T:=nF aV 1 0 (jB .str jF iQ bJ) <| .cMW (.b2s 5) (mM aV 0) <| jB .str jF aZ bJ
theorem aMZ:Con.Holds Tryz.prog zV:=tk ⟨[],[]⟩ aN4 aH fun(x:bX×Bool) hx hp=>by
 dsimp only [zV] at hx hp⊢
 delta aN4;refine dR ?_
 refine⟨fun h=>?_,fun h _=>?_⟩
 ·rw[if_pos h]
 ·rw[if_neg (by rw[h];decide)]
def bO8:Con:=⟨191,.bool,tI,[.val ⟨false,.bool,[]⟩],[⟨false,tI,[0]⟩],false,none,
 ((fun _=>True):(Bool)->Prop),
 ((fun x=>b01 x):(Bool)->(Int))⟩
def bXJ:T:=sY 0 bF <| .ret aN
theorem cHR:Con.Holds Tryz.prog bO8:=tk ⟨[],[]⟩ bXJ aH fun(x:Bool) hx hp=>by
 dsimp only [bO8] at hx hp⊢
 delta bXJ;refine dR ?_
 refine⟨fun h=>?_,fun h=>?_⟩<;>unfold b01<;>rw[h]<;>rfl
def aO4:Con:=⟨290,.bool,tI,[.val ⟨false,.bool,[]⟩],[⟨false,tI,[0]⟩],false,none,
 ((fun _=>True):(Bool)->Prop),
 ((fun x=>b01 x):(Bool)->(Int))⟩
def bA7:T:=sY 0 bF <| .ret aN
theorem bSD:Con.Holds Tryz.prog aO4:=tk ⟨[],[]⟩ bA7 aH fun(x:Bool) hx hp=>by
 dsimp only [aO4] at hx hp⊢
 delta bA7;refine dR ?_
 refine⟨fun h=>?_,fun h=>?_⟩<;>unfold b01<;>rw[h]<;>rfl
def aO1:Con:=⟨291,aF,.str,[.val ⟨false,aF,[]⟩],[⟨false,.str,[0]⟩],false,none,
 ((fun x=>x.length<=10000000):(cT)->Prop),
 ((fun x=>lZ ⟨#[]⟩ (nP x)):(cT)->(ByteArray))⟩
def bA8:T:=nX bJ <| nU 1 <| gW aJF .str bM 253 aA bJ <| oJ .str 3 4 5 (cW 253 aA aF bJ .str 3 <| cD 1 6 <| xN (sR 3) 7 <| eJ .str 3 0 .str cU cM) (sR 3)
theorem bRG:Con.Holds Tryz.prog aO1:=tk ⟨[(2991,1003,iZ 7 5++[.tm 4 0,.tm 3 0])],[]⟩ bA8 (aC bHO (aC aDV aH)) fun(x:cT) hx hp=>by
 dsimp only [aO1] at hx hp⊢
 have h2:List.length x<=10000000:=hp
 delta bA8 aML xI;refine dR ?_
 have h3:=bW1 (List.length x)
 refine fun _=>⟨by omega,fun _=>?_⟩
 refine⟨fun s=>∃k:Nat,k<=x.length/\s=((k:Int),lZ ⟨#[]⟩ ((nP x).take (k+1))),fun s=>x.length - (s.1:Int).toNat,⟨0,by omega,?_⟩,fun s _ hI=>?_⟩
 ·rw[cAR,aDL];exact Prod.ext rfl (by apply ByteArray.ext;simp[ByteArray.data_append])
 obtain⟨k,hk,rfl⟩:=hI
 dsimp only
 refine dQ ?_
 intro _
 constructor
 ·intro hlt
  have hk':k<x.length:=by omega
  rw[aP hk']
  have h5:=sP ⟨#[]⟩ ((nP x).take (k+1)) (fun p hp=>aBW x p (List.mem_of_mem_take hp))
  have h6:=cJ (x[k]'hk')
  rw[List.length_take,show(⟨#[]⟩:ByteArray).size=0 from rfl] at h5
  have e:lZ ⟨#[]⟩ ((nP x).take (k+1))++gR (x[k]'hk')=lZ ⟨#[]⟩ ((nP x).take (k+2)):=by rw[<-bGT x hk',zU];rfl
  (repeat' first|intro _|(with_reducible apply And.intro))
  all_goals first|omega|(unfold maxLen;omega)|skip
  exact⟨k+1,by omega,by rw[<-e];rfl⟩
 ·intro hge
  have:k=x.length:=by omega
  subst this
  rw[bIT]
def aP5:Con:=⟨341,aF,.bool,[.val ⟨false,aF,[]⟩],[⟨false,.bool,[0]⟩],false,none,
 ((fun _=>True):(cT)->Prop),
 ((fun x=>x.all yX):(cT)->(Bool))⟩
def bAX:T:=jY 253 aA bJ <| gB aZ 2 3 (nV aA aF bJ 1 <| nU 4 <| xU aH4 .str fF iQ <| sY 6 aX <| uZ aZ 0 cY) bD
theorem bSI:Con.Holds Tryz.prog aP5:=tk ⟨[(2993,1001,[.tm 3 0])],[]⟩ bAX (aC aDV aH) fun(x:cT) hx hp=>by
 dsimp only [aP5] at hx hp⊢
 have h2:List.length x<=9223372036854775807:=hx.1
 delta bAX xI;refine dR ?_
 refine⟨fun s=>∃k:Nat,k<=x.length/\s=(k:Int)/\(x.take k).all yX=true,fun s=>x.length - (s:Int).toNat,⟨0,by omega,rfl,rfl⟩,fun s _ hI=>?_⟩
 obtain⟨k,hk,rfl,ha⟩:=hI
 refine dQ ?_
 intro _
 constructor
 ·intro hlt
  have hk':k<x.length:=by omega
  rw[aP hk']
  have e:=xC yX x hk'
  have e2:=yI (x[k]'hk')
  unfold isE at e2
  (repeat' first|intro _|(with_reducible apply And.intro))
  all_goals first|omega|skip
  ·refine(aFB hk' ?_).symm;rw[decide_eq_true (Classical.not_not.1 (by assumption))] at e2;simpa using e2.symm
  ·refine⟨k+1,by omega,rfl,?_⟩;rw[decide_eq_false (by assumption)] at e2;rw[e,ha];simpa using e2.symm
 ·intro hge
  have:k=x.length:=by omega
  subst this
  rw[List.take_length] at ha
  exact ha.symm
theorem aAW {x:aR} (h:¬aTH x):(⟨#[]⟩:ByteArray)=mE x:=by unfold mE;rw[if_neg (fun hh=>h hh.1)]
theorem aXN {x:aR} (h:aTH x):mE x=if(aAM x).all yX=true then lZ ⟨#[]⟩ (lT x) else⟨#[]⟩:=by
 unfold mE
 cases (aAM x).all yX
 ·rw[if_neg (fun hh=>by cases hh.2),if_neg (by decide)]
 ·rw[if_pos ⟨h,rfl⟩,if_pos rfl]
def bQN (v:List Int):List ByteArray:=[gR v]
theorem cH4 (v:List Int):szP (bQN v):=jQ (cJ _) vE
theorem cB9 (W:WrD) {x:aR} (h:aTH x) (hW:W=eN ([],false) (lT x)):(if W.2=true then(⟨#[]⟩:ByteArray) else jG W.1)=mE x:=by
 rw[hW,cAP h,aXN h]
 dsimp only
 rw[bKB]
 cases (aAM x).all yX<;>rfl
def aJM:Con:=⟨97,aB,.str,[.val ⟨true,aB,[]⟩],[⟨false,.str,[0]⟩],false,none,
 ((fun _=>True):(aR)->Prop),
 ((fun x=>mE x):(aR)->(ByteArray))⟩
def aSD:T:=hZ <| dL 1 2 iQ <| wA aU yY <| lN eG (fX 100) 4 iQ <| aBT aJ rN <| lN fF aCV 6 iQ <| nX (dP 6) <| lN cY (fX 20) 8 iQ <| wA aU yY <| iE nH <| aBT aJ rN <| wI (dP 3) <| eK 1 (dP 4) 1 (fG aB 13) <| vA (wN 3 8) (xO (xO (xO aU))) [wP 0,fE,eM,dP 12,dK,cU,cI,cO] <| cD 2 15 <| eQ 3 jF .str (nA aV (.nl 5 jV)) gM <| wA aU yY <| oQ rI rI (gK aV 1 17) (mM aV 17) <| cX (nG 19) 18 20 (bZ 159 aU bI yY (nG 19) <| aEQ (wN 3 2) 21 <| cD 2 22 <| eQ 3 jF .str (aEO aV (kN aV 2 19) (wG aV 1 19)) aD9 <| gF (nG 19) 0 rI [.Z 25,gK aV 1 24,mM aV 24]) <| iE nH <| pX rI (aOE aV) (kN aV 1 19) <| cX (nG 22) 21 23 (bZ 243 bK aG nH (nG 22) <| vA (wN 3 3) iK [pZ aM 24,dZ bK 24,qR 24] <| cD 2 25 <| eQ 3 jF .str (aEO aV (kN aV 2 22) (wG aV 1 22)) tJ <| aBK (dO bK 3 24) <| eQ 3 jF .str (.Z 27) (.Z 28) <| gF (nG 22) 0 rI [.Z 30,gK aV 1 29,mM aV 29]) <| aBT aJ rN <| pX rI (aOE aV) (kN aV 1 22) <| cX (nG 25) 24 26 (bZ 245 aJ aS rN (nG 25) <| gD 3 tI (cB aF 27) <| cD 2 28 <| eQ 3 jF .str (aEO aV (kN aV 2 25) (wG aV 1 25)) aG9 <| eQ 4 jF aF (.Z 30) (gG 27) <| gF (nG 25) 0 rI [aL2,gK aV 1 31,mM aV 31]) <| eQ 4 jF aF (aEO aV (kN aV 2 25) (wG aV 1 25)) (dP 6) <| vA (.lit 53 aA 4) (bLT aL) [dP 7,dP 8,dP 9,dP 10] <| gL 53 aA (.Z 28) <| oQ rI rI (gK aV 1 27) (mM aV 27) <| cX (nG 30) 29 31 (bZ 53 aA (.slice 53 aA) (.Z 28) (nG 30) <| bZ 53 aA (.slice 53 aA) (.Z 28) (nG 30) <| cD 2 33 <| eQ 3 jF .str (aEO aV (kN aV 2 30) (wG aV 1 30)) aLC <| gF (nG 30) 0 rI [.Z 36,gK aV 1 35,mM aV 35]) <| eQ 4 jF aF (aEO aV (kN aV 2 30) (wG aV 1 30)) (dP 11) <| cD 5 32 <| .ret (oY .str aV 33)
theorem bIE:Con.Holds Tryz.prog aJM:=tk ⟨[(2984,16019,iZ 63 60++[.dr 50,.dr 43,.dr 40,.dr 59,.dr 58,.dr 56,.dr 55,.dr 53,.dr 52,.dr 49,.dr 46,.dr 42,.dr 39,.dr 37,.dr 57,.dr 54,.dr 51,.dr 48,.dr 47,.dr 45,.dr 44,.dr 41,.dr 38]++iZ 36 12++[.dr 0,.tm 66 0,.bx 2 1,.sl 5]),(2974,32022,[.dr 79]++iZ 67 64++[.tm 82 0,.bx 2 1,.sl 5]),(2964,64025,[.dr 102]++iZ 83 80++[.tm 105 0,.bx 2 1,.sl 5]),(2952,128030,iZ 131 120++iZ 106 103++[.tm 134 0,.bx 2 1,.sl 6])],[]⟩ aSD (aC aEC (aC cHR (aC aHT (aC aC1 (aC bBT (aC aMZ aH)))))) fun(x:aR) hx hp=>by
 dsimp only [aJM] at hx hp⊢
 delta aSD xG bO8 aB0 tZ aF1 zV;refine dR ?_
 refine dQ ?_
 refine⟨fun h=>aAW fun hl=>(by have:=hl.1;rw[h] at this;cases this),fun h1 _=>⟨fun h=>aAW fun hl=>by have:=hl.2.1;omega,fun h2 _=>⟨fun h=>aAW fun hl=>by have:=hl.2.2.1;omega,fun h3 _=>⟨fun h=>aAW fun hl=>by have:=hl.2.2.2;omega,fun h4=>?_⟩⟩⟩⟩
 have hl:aTH x:=⟨h1,by omega,by omega,by omega⟩
 have hm:=(bO _).1 ((cA x).1 h1).1
 have hg:=((xH _ _).1 ((cA x).1 h1).2.2.1).1
 have Bg:=aV9 h1
 have hv:=cJ (aAS x)
 obtain⟨W1,hW1⟩:∃W1,W1=zR ([],false) (gR (aAS x)):=⟨_,rfl⟩
 have z1:W1.1.length<=1608:=by rw[hW1];exact kY ([],false) [gR (aAS x)] (jQ hv vE)
 (repeat' first|intro _|(with_reducible apply And.intro))
 all_goals first|omega|(exact Nat.le_trans (cJ _) (by decide))|skip
 refine⟨fun s=>∃k:Nat,k<=x.2.1.length/\s=((k:Int),(eN W1 ((x.2.1.take k).flatMap aEI)).2,(eN W1 ((x.2.1.take k).flatMap aEI)).1),fun s=>x.2.1.length - (s.1:Int).toNat,⟨0,by omega,by rw[hW1];rfl⟩,fun s _ hI=>?_⟩
 obtain⟨k,hk,rfl⟩:=hI
 have y1:=kY W1 ((x.2.1.take k).flatMap aEI) (xJ _ bLH)
 have y2:=rJ aEI 1 (x.2.1.take k) (fun _ _=>Nat.le_refl _)
 rw[List.length_take] at y2
 dsimp only
 refine dQ ?_
 constructor
 ·intro hlt
  have hk':k<x.2.1.length:=by omega
  rw[aP hk']
  have e:zR (eN W1 ((x.2.1.take k).flatMap aEI)) (gR [(x.2.1[k]'hk').1,(x.2.1[k]'hk').2])=eN W1 ((x.2.1.take (k+1)).flatMap aEI):=by rw[tS aEI x.2.1 hk',sJ];rfl
  (repeat' first|intro _|(with_reducible apply And.intro))
  all_goals first|omega|(exact Nat.le_trans (cJ _) (by decide))|(exact Nat.le_trans e1 (by omega))|skip
  exact⟨k+1,by omega,by rw[<-e];rfl⟩
 intro hge
 obtain rfl:k=x.2.1.length:=by omega
 rw[List.take_length] at y1 y2⊢
 obtain⟨W2,hW2⟩:∃W2,W2=eN W1 (x.2.1.flatMap aEI):=⟨_,rfl⟩
 rw[<-hW2] at y1⊢
 intro _
 refine⟨fun s=>∃k:Nat,k<=x.2.2.1.length/\s=((k:Int),(eN W2 ((x.2.2.1.take k).flatMap opP)).2,(eN W2 ((x.2.2.1.take k).flatMap opP)).1),fun s=>x.2.2.1.length - (s.1:Int).toNat,⟨0,by omega,rfl⟩,fun s _ hI=>?_⟩
 obtain⟨k,hk,rfl⟩:=hI
 have y3:=kY W2 ((x.2.2.1.take k).flatMap opP) (xJ _ bVK)
 have y4:=rJ opP 2 (x.2.2.1.take k) (fun _ _=>Nat.le_refl _)
 rw[List.length_take] at y4
 dsimp only
 refine dQ ?_
 constructor
 ·intro hlt
  have hk':k<x.2.2.1.length:=by omega
  rw[aP hk']
  have e:zR (zR (eN W2 ((x.2.2.1.take k).flatMap opP)) (gR [(x.2.2.1[k]'hk').1,(x.2.2.1[k]'hk').2.1,(x.2.2.1[k]'hk').2.2.1])) (gR (x.2.2.1[k]'hk').2.2.2)=eN W2 ((x.2.2.1.take (k+1)).flatMap opP):=by rw[tS opP x.2.2.1 hk',sJ];rfl
  have e1:(zR (eN W2 ((x.2.2.1.take k).flatMap opP)) (gR [(x.2.2.1[k]'hk').1,(x.2.2.1[k]'hk').2.1,(x.2.2.1[k]'hk').2.2.1])).1.length<=(eN W2 ((x.2.2.1.take k).flatMap opP)).1.length+1608:=kY _ [_] (jQ (cJ _) vE)
  (repeat' first|intro _|(with_reducible apply And.intro))
  all_goals first|omega|(exact Nat.le_trans (cJ _) (by decide))|(exact Nat.le_trans e1 (by omega))|skip
  exact⟨k+1,by omega,by rw[<-e];rfl⟩
 intro hge
 obtain rfl:k=x.2.2.1.length:=by omega
 rw[List.take_length] at y3 y4⊢
 obtain⟨W3,hW3⟩:∃W3,W3=eN W2 (x.2.2.1.flatMap opP):=⟨_,rfl⟩
 rw[<-hW3] at y3⊢
 intro _
 refine⟨fun s=>∃k:Nat,k<=x.2.2.2.2.2.1.length/\s=((k:Int),(eN W3 ((x.2.2.2.2.2.1.take k).flatMap aAH)).2,(eN W3 ((x.2.2.2.2.2.1.take k).flatMap aAH)).1),fun s=>x.2.2.2.2.2.1.length - (s.1:Int).toNat,⟨0,by omega,rfl⟩,fun s _ hI=>?_⟩
 obtain⟨k,hk,rfl⟩:=hI
 have y5:=kY W3 ((x.2.2.2.2.2.1.take k).flatMap aAH) (xJ _ bLR)
 have y6:=rJ aAH 11 (x.2.2.2.2.2.1.take k) (fun a ha=>by have:=Bg a (List.mem_of_mem_take ha);unfold aAH;rw[List.length_cons,yA];omega)
 rw[List.length_take] at y6
 dsimp only
 refine dQ ?_
 constructor
 ·intro hlt
  have hk':k<x.2.2.2.2.2.1.length:=by omega
  rw[aP hk']
  have hkk:=Bg _ (List.getElem_mem hk')
  have e:eN (zR (eN W3 ((x.2.2.2.2.2.1.take k).flatMap aAH)) (gR [(x.2.2.2.2.2.1[k]'hk').1])) (nP (x.2.2.2.2.2.1[k]'hk').2)=eN W3 ((x.2.2.2.2.2.1.take (k+1)).flatMap aAH):=by rw[tS aAH x.2.2.2.2.2.1 hk',sJ];rfl
  have e1:(zR (eN W3 ((x.2.2.2.2.2.1.take k).flatMap aAH)) (gR [(x.2.2.2.2.2.1[k]'hk').1])).1.length<=(eN W3 ((x.2.2.2.2.2.1.take k).flatMap aAH)).1.length+1608:=kY _ [_] (jQ (cJ _) vE)
  (repeat' first|intro _|(with_reducible apply And.intro))
  all_goals first|omega|(exact Nat.le_trans (cJ _) (by decide))|(exact Nat.le_trans e1 (by omega))|skip
  exact⟨k+1,by omega,by rw[<-e];rfl⟩
 intro hge
 obtain rfl:k=x.2.2.2.2.2.1.length:=by omega
 rw[List.take_length] at y5 y6⊢
 obtain⟨W4,Du⟩:∃W4,W4=eN W3 (x.2.2.2.2.2.1.flatMap aAH):=⟨_,rfl⟩
 rw[<-Du] at y5⊢
 obtain⟨W5,I3⟩:∃W5,W5=eN W4 (nP x.2.2.2.2.2.2.1):=⟨_,rfl⟩
 have y7:=kY W4 _ (aBW x.2.2.2.2.2.2.1)
 rw[yA,<-I3] at y7
 refine⟨⟨by omega,by omega⟩,?_⟩
 rw[<-I3]
 intro _ _ _
 obtain⟨L,hL⟩:∃L:cT,L=[x.2.2.2.2.2.2.2.1,x.2.2.2.2.2.2.2.2.1,x.2.2.2.2.2.2.2.2.2.1,x.2.2.2.2.2.2.2.2.2.2.1]:=⟨_,rfl⟩
 rw[<-hL]
 have hL4:L.length=4:=by rw[hL];rfl
 refine⟨fun s=>∃k:Nat,k<=L.length/\s=((k:Int),(eN W5 ((L.take k).flatMap bQN)).2,(eN W5 ((L.take k).flatMap bQN)).1),fun s=>L.length - (s.1:Int).toNat,⟨0,by omega,rfl⟩,fun s _ hI=>?_⟩
 obtain⟨k,hk,rfl⟩:=hI
 have y8:=kY W5 ((L.take k).flatMap bQN) (xJ _ cH4)
 have y9:=rJ bQN 1 (L.take k) (fun _ _=>Nat.le_refl _)
 rw[List.length_take] at y9
 dsimp only
 refine dQ ?_
 constructor
 ·intro hlt
  have hk':k<L.length:=by omega
  rw[aP hk']
  have e:zR (eN W5 ((L.take k).flatMap bQN)) (gR (L[k]'hk'))=eN W5 ((L.take (k+1)).flatMap bQN):=by rw[tS bQN L hk',sJ];rfl
  (repeat' first|intro _|(with_reducible apply And.intro))
  all_goals first|omega|(exact Nat.le_trans (cJ _) (by decide))|(exact Nat.le_trans e1 (by omega))|skip
  exact⟨k+1,by omega,by rw[<-e];rfl⟩
 intro hge
 obtain rfl:k=L.length:=by omega
 rw[List.take_length] at y8 y9⊢
 refine⟨⟨by omega,by omega⟩,fun _=>fun _=>?_⟩
 refine cB9 _ hl ?_
 unfold lT aIR
 simp only[sJ]
 show _=eN (eN (eN (eN (eN (eN (zR ([],false) (gR (aAS x))) _) _) _) _) _) _
 rw[<-hW1,<-hW2,<-hW3,<-Du,<-I3,hL]
 rfl
def aCM:Con:=⟨289,aB,.bool,[.val ⟨true,aB,[]⟩],[⟨false,.bool,[0]⟩],false,none,
 ((fun x=>aTH x):(aR)->Prop),
 ((fun x=>(aAM x).all yX):(aR)->(Bool))⟩
def aJY:T:=fR (wN 3 2) (wP 0) (dP 12) <| vA (.lit 253 aA 5) (.cMV aA (bLT aL)) [aZ,dP 7,dP 8,dP 9,dP 10] <| gW aJ aF bM 159 aU yY <| mH aF 3 4 5 (cW 159 aU bI yY aF 3 <| cW 159 aU bI yY aF 3 <| fR (wN 3 2) (kL 6) (aAJ 7) <| kO 253 aA 8 <| eF (wE aA 24) aF aF (gG 3) 9 <| eJ aF 3 0 aF cO cI) <| gW aJ aF (gG 3) 243 bK nH <| mH aF 6 7 8 (cW 243 bK aG nH aF 6 <| gD 253 aA (dO bK 3 9) <| eF (wE aA 24) aF aF (gG 6) 10 <| eJ aF 6 0 aF fE cO) <| gW aJ aF (gG 6) 245 aJ rN <| mH aF 9 10 11 (cW 245 aJ aS rN aF 9 <| gD 3 tI (cB aF 12) <| kO 253 aA 13 <| eF (wE aA 24) aF aF (gG 9) 14 <| cW 245 aJ aS rN aF 9 <| jM (wE aA 24) aF aF fC (gG 16) <| eJ aF 9 0 aF nJ iR) <| jM (wE aA 24) aF aF (gG 9) (dP 6) <| jM (wE aA 24) aF aF fE (dP 11) <| nU 13 <| cF 14
theorem aXB:Con.Holds Tryz.prog aCM:=tk ⟨[(2991,1003,iZ 26 7++[.dr 0,.tm 4 0,.sl 3]),(2981,2006,iZ 31 27++[.dr 4,.tm 5 0,.sl 3]),(2971,4009,iZ 55 51++[.dr 5,.tm 6 0,.sl 3])],[(2996,1001,[12],[]),(2983,3006,[47],[]),(2962,12012,[82],[])]⟩ aJY (aC bSI aH) fun(x:aR) hx hp=>by
 dsimp only [aCM] at hx hp⊢
 have hl:aTH x:=hp
 have hm:=(bO _).1 ((cA x).1 hl.1).1
 have hg:=((xH _ _).1 ((cA x).1 hl.1).2.2.1).1
 have Bg:=aV9 hl.1
 obtain⟨hl0,A0,hl2,Cl⟩:=hl
 delta aJY aP5;refine dR ?_
 intro _ _
 obtain⟨A,hA⟩:∃A:cT,A=[[x.1,x.2.2.2.2.2.2.2.2.2.2.2.2.1],x.2.2.2.2.2.2.2.1,x.2.2.2.2.2.2.2.2.1,x.2.2.2.2.2.2.2.2.2.1,x.2.2.2.2.2.2.2.2.2.2.1]:=⟨_,rfl⟩
 have Jb:A.length=5:=by rw[hA];rfl
 rw[<-hA]
 refine⟨fun s=>∃k:Nat,k<=x.2.1.length/\s=((k:Int),A++(x.2.1.take k).flatMap (fun i=>[[i.1,i.2]])),fun s=>x.2.1.length - (s.1:Int).toNat,⟨0,by omega,by simp⟩,fun s _ hI=>?_⟩
 obtain⟨k,hk,rfl⟩:=hI
 have y2:=rJ (fun i:eP=>[[i.1,i.2]]) 1 (x.2.1.take k) (fun _ _=>Nat.le_refl _)
 rw[List.length_take] at y2
 dsimp only
 refine dQ ?_
 intro _
 constructor
 ·intro hlt
  have hk':k<x.2.1.length:=by omega
  rw[aP hk']
  have e:=tS (fun i:eP=>[[i.1,i.2]]) x.2.1 hk'
  (repeat' first|intro _|(with_reducible apply And.intro))
  all_goals first|omega|(unfold maxLen;omega)|skip
  exact⟨k+1,by omega,by rw[e,<-List.append_assoc];rfl⟩
 intro hge
 obtain rfl:k=x.2.1.length:=by omega
 rw[List.take_length] at y2⊢
 obtain⟨B,hB⟩:∃B,B=A++x.2.1.flatMap (fun i=>[[i.1,i.2]]):=⟨_,rfl⟩
 have zB:B.length<=105:=by rw[hB,List.length_append];omega
 rw[<-hB]
 refine⟨fun s=>∃k:Nat,k<=x.2.2.1.length/\s=((k:Int),B++(x.2.2.1.take k).flatMap (fun o=>[o.2.2.2])),fun s=>x.2.2.1.length - (s.1:Int).toNat,⟨0,by omega,by simp⟩,fun s _ hI=>?_⟩
 obtain⟨k,hk,rfl⟩:=hI
 have y3:=rJ (fun o:fP=>[o.2.2.2]) 1 (x.2.2.1.take k) (fun _ _=>Nat.le_refl _)
 rw[List.length_take] at y3
 dsimp only
 refine dQ ?_
 intro _
 constructor
 ·intro hlt
  have hk':k<x.2.2.1.length:=by omega
  rw[aP hk']
  have e:=tS (fun o:fP=>[o.2.2.2]) x.2.2.1 hk'
  (repeat' first|intro _|(with_reducible apply And.intro))
  all_goals first|omega|(unfold maxLen;omega)|skip
  exact⟨k+1,by omega,by rw[e,<-List.append_assoc];rfl⟩
 intro hge
 obtain rfl:k=x.2.2.1.length:=by omega
 rw[List.take_length] at y3⊢
 obtain⟨C,hC⟩:∃C,C=B++x.2.2.1.flatMap (fun o=>[o.2.2.2]):=⟨_,rfl⟩
 have zC:C.length<=113:=by rw[hC,List.length_append];omega
 rw[<-hC]
 refine⟨fun s=>∃k:Nat,k<=x.2.2.2.2.2.1.length/\s=((k:Int),C++(x.2.2.2.2.2.1.take k).flatMap (fun x=>[x.1]::x.2)),fun s=>x.2.2.2.2.2.1.length - (s.1:Int).toNat,⟨0,by omega,by simp⟩,fun s _ hI=>?_⟩
 obtain⟨k,hk,rfl⟩:=hI
 have y4:=rJ (fun x:eC=>[x.1]::x.2) 10 (x.2.2.2.2.2.1.take k) (fun a ha=>by have:=Bg a (List.mem_of_mem_take ha);rw[List.length_cons];omega)
 rw[List.length_take] at y4
 dsimp only
 refine dQ ?_
 intro _
 constructor
 ·intro hlt
  have hk':k<x.2.2.2.2.2.1.length:=by omega
  rw[aP hk']
  have hkk:=Bg _ (List.getElem_mem hk')
  have e:=tS (fun x:eC=>[x.1]::x.2) x.2.2.2.2.2.1 hk'
  (repeat' first|intro _|(with_reducible apply And.intro))
  all_goals first|omega|(unfold maxLen;omega)|skip
  exact⟨k+1,by omega,Prod.ext (by show(k:Int)+1=((k+1:Nat):Int);omega) (by rw[e];simp[List.append_assoc])⟩
 intro hge
 obtain rfl:k=x.2.2.2.2.2.1.length:=by omega
 rw[List.take_length] at y4⊢
 obtain⟨D,hD⟩:∃D,D=C++x.2.2.2.2.2.1.flatMap (fun x=>[x.1]::x.2):=⟨_,rfl⟩
 have zD:D.length<=163:=by rw[hD,List.length_append];omega
 rw[<-hD]
 have fin:(D++x.2.2.2.2.2.2.1)++x.2.2.2.2.2.2.2.2.2.2.2.1=aAM x:=by rw[hD,hC,hB,hA];unfold aAM;simp only[List.append_assoc]
 (repeat' first|intro _|(with_reducible apply And.intro))
 all_goals first|omega|(unfold maxLen;omega)|skip
 rw[<-fin]
def aJ9:Con:=⟨199,aB,.str,[.val ⟨true,aB,[]⟩],[⟨false,.str,[0]⟩],false,none,
 ((fun _=>True):(aR)->Prop),
 ((fun x=>mE x):(aR)->(ByteArray))⟩
def aRN:T:=hZ <| dL 1 2 iQ <| wA aU yY <| lN eG (fX 100) 4 iQ <| aBT aJ rN <| lN fF aCV 6 iQ <| nX (dP 6) <| lN cY (fX 20) 8 iQ <| cD 1 0 <| dL 9 10 iQ <| wA aU yY <| iE nH <| aBT aJ rN <| aBK (dP 3) <| eK 2 (dP 4) 2 (fG aB 13) <| vA (wN 3 8) (xO (xO (xO aU))) [wP 0,dK,fC,dP 12,gM,cO,fE,eM] <| cD 3 17 <| gW aJF .str nJ 159 aU yY <| mH .str 19 20 21 (cW 159 aU bI yY .str 19 <| cW 159 aU bI yY .str 19 <| fR (wN 3 2) (kL 22) (aAJ 23) <| cD 3 24 <| xN (sR 19) 25 <| eJ .str 19 0 .str (.Z 27) tJ) <| gW aJF .str (sR 19) 243 bK nH <| mH .str 22 23 24 (cW 243 bK aG nH .str 22 <| cW 243 bK aG nH .str 22 <| cW 243 bK aG nH .str 22 <| cW 243 bK aG nH .str 22 <| vA (wN 3 3) iK [pZ aM 25,dZ bK 26,qR 27] <| cD 3 29 <| xN (sR 22) 30 <| .call 3 (dO bK 3 28) <| aCU 31 32 <| eJ .str 22 0 .str aLC aQC) <| gW aJF .str (sR 22) 245 aJ rN <| mH .str 25 26 27 (cW 245 aJ aS rN .str 25 <| cW 245 aJ aS rN .str 25 <| gD 3 tI (cB aF 28) <| cD 3 30 <| xN (sR 25) 31 <| .call 4 (gG 29) <| aCU 32 33 <| eJ .str 25 0 .str aEL aLC) <| .call 4 (dP 6) <| xN (sR 25) 28 <| .call 3 (dP 7) <| aCU 29 30 <| .call 3 (dP 8) <| aCU 31 32 <| .call 3 (dP 9) <| aCU 33 34 <| .call 3 (dP 10) <| aCU 35 36 <| .call 4 (dP 11) <| aCU 37 38 <| cF 39
theorem bID:Con.Holds Tryz.prog aJ9:=tk ⟨[(2986,32019,[.dr 58,.dr 57,.dr 47,.dr 40,.dr 37,.dr 56,.dr 55,.dr 53,.dr 52,.dr 50,.dr 49,.dr 46,.dr 43,.dr 39,.dr 36,.dr 34,.dr 54,.dr 51,.dr 48,.dr 45,.dr 44,.dr 42,.dr 41,.dr 38,.dr 35]++iZ 33 7++[.dr 0,.tm 4 0,.tm 3 0]),(2976,64022,iZ 63 59++[.dr 4,.tm 5 0,.tm 3 0]),(2966,128025,iZ 86 82++[.dr 5,.tm 6 0,.tm 3 0])],[]⟩ aRN (aC aDU (aC aXB (aC bSD (aC aDV (aC bRG aH))))) fun(x:aR) hx hp=>by
 dsimp only [aJ9] at hx hp⊢
 delta aRN wY aCM aO4 xI aO1;refine dR ?_
 refine dQ ?_
 refine⟨fun h=>aAW fun hl=>(by have:=hl.1;rw[h] at this;cases this),fun h1 _=>⟨fun h=>aAW fun hl=>by have:=hl.2.1;omega,fun h2 _=>⟨fun h=>aAW fun hl=>by have:=hl.2.2.1;omega,fun h3 _=>⟨fun h=>aAW fun hl=>by have:=hl.2.2.2;omega,fun h4=>?_⟩⟩⟩⟩
 have hl:aTH x:=⟨h1,by omega,by omega,by omega⟩
 have hm:=(bO _).1 ((cA x).1 h1).1
 have hg:=((xH _ _).1 ((cA x).1 h1).2.2.1).1
 have Bg:=aV9 h1
 have hv:=cJ (aAS x)
 refine⟨hl,fun h=>?_,fun h5=>?_⟩
 ·rw[aXN hl,if_neg (by rw[h];decide)]
 rw[aXN hl,if_pos h5]
 obtain⟨W1,hW1⟩:∃W1,W1=gR (aAS x):=⟨_,rfl⟩
 rw[<-hW1] at hv
 (repeat' first|intro _|(with_reducible apply And.intro))
 all_goals first|omega|(exact Nat.le_trans (cJ _) (by decide))|skip
 refine⟨fun s=>∃k:Nat,k<=x.2.1.length/\s=((k:Int),lZ W1 ((x.2.1.take k).flatMap aEI)),fun s=>x.2.1.length - (s.1:Int).toNat,⟨0,by omega,by rw[hW1];rfl⟩,fun s _ hI=>?_⟩
 obtain⟨k,hk,rfl⟩:=hI
 have y1:=sP W1 ((x.2.1.take k).flatMap aEI) (xJ _ bLH)
 have y2:=rJ aEI 1 (x.2.1.take k) (fun _ _=>Nat.le_refl _)
 rw[List.length_take] at y2
 dsimp only
 refine dQ ?_
 intro _
 constructor
 ·intro hlt
  have hk':k<x.2.1.length:=by omega
  rw[aP hk']
  have e:lZ W1 ((x.2.1.take k).flatMap aEI)++(gR [(x.2.1[k]'hk').1,(x.2.1[k]'hk').2])=lZ W1 ((x.2.1.take (k+1)).flatMap aEI):=by rw[tS aEI x.2.1 hk',zU];rfl
  have h6:=cJ [(x.2.1[k]'hk').1,(x.2.1[k]'hk').2]
  (repeat' first|intro _|(with_reducible apply And.intro))
  all_goals first|omega|(unfold maxLen;omega)|skip
  exact⟨k+1,by omega,by rw[<-e];rfl⟩
 intro hge
 obtain rfl:k=x.2.1.length:=by omega
 rw[List.take_length] at y1 y2⊢
 obtain⟨W2,hW2⟩:∃W2,W2=lZ W1 (x.2.1.flatMap aEI):=⟨_,rfl⟩
 rw[<-hW2] at y1⊢
 refine⟨fun s=>∃k:Nat,k<=x.2.2.1.length/\s=((k:Int),lZ W2 ((x.2.2.1.take k).flatMap opP)),fun s=>x.2.2.1.length - (s.1:Int).toNat,⟨0,by omega,rfl⟩,fun s _ hI=>?_⟩
 obtain⟨k,hk,rfl⟩:=hI
 have y3:=sP W2 ((x.2.2.1.take k).flatMap opP) (xJ _ bVK)
 have y4:=rJ opP 2 (x.2.2.1.take k) (fun _ _=>Nat.le_refl _)
 rw[List.length_take] at y4
 dsimp only
 refine dQ ?_
 intro _
 constructor
 ·intro hlt
  have hk':k<x.2.2.1.length:=by omega
  rw[aP hk']
  have e:lZ W2 ((x.2.2.1.take k).flatMap opP)++(gR [(x.2.2.1[k]'hk').1,(x.2.2.1[k]'hk').2.1,(x.2.2.1[k]'hk').2.2.1])++(gR (x.2.2.1[k]'hk').2.2.2)=lZ W2 ((x.2.2.1.take (k+1)).flatMap opP):=by rw[tS opP x.2.2.1 hk',zU];rfl
  have h6:=cJ [(x.2.2.1[k]'hk').1,(x.2.2.1[k]'hk').2.1,(x.2.2.1[k]'hk').2.2.1]
  have h7:=cJ (x.2.2.1[k]'hk').2.2.2
  (repeat' first|intro _|(with_reducible apply And.intro))
  all_goals first|omega|(unfold maxLen;rw[jH];omega)|(unfold maxLen;omega)|skip
  exact⟨k+1,by omega,by rw[<-e];rfl⟩
 intro hge
 obtain rfl:k=x.2.2.1.length:=by omega
 rw[List.take_length] at y3 y4⊢
 obtain⟨W3,hW3⟩:∃W3,W3=lZ W2 (x.2.2.1.flatMap opP):=⟨_,rfl⟩
 rw[<-hW3] at y3⊢
 refine⟨fun s=>∃k:Nat,k<=x.2.2.2.2.2.1.length/\s=((k:Int),lZ W3 ((x.2.2.2.2.2.1.take k).flatMap aAH)),fun s=>x.2.2.2.2.2.1.length - (s.1:Int).toNat,⟨0,by omega,rfl⟩,fun s _ hI=>?_⟩
 obtain⟨k,hk,rfl⟩:=hI
 have y5:=sP W3 ((x.2.2.2.2.2.1.take k).flatMap aAH) (xJ _ bLR)
 have y6:=rJ aAH 11 (x.2.2.2.2.2.1.take k) (fun a ha=>by have:=Bg a (List.mem_of_mem_take ha);unfold aAH;rw[List.length_cons,yA];omega)
 rw[List.length_take] at y6
 dsimp only
 refine dQ ?_
 intro _
 constructor
 ·intro hlt
  have hk':k<x.2.2.2.2.2.1.length:=by omega
  rw[aP hk']
  have hkk:=Bg _ (List.getElem_mem hk')
  have e:lZ W3 ((x.2.2.2.2.2.1.take k).flatMap aAH)++(gR [(x.2.2.2.2.2.1[k]'hk').1])++lZ ⟨#[]⟩ (nP (x.2.2.2.2.2.1[k]'hk').2)=lZ W3 ((x.2.2.2.2.2.1.take (k+1)).flatMap aAH):=by rw[tS aAH x.2.2.2.2.2.1 hk',zU];exact(aDO (lZ W3 ((x.2.2.2.2.2.1.take k).flatMap aAH)++gR [(x.2.2.2.2.2.1[k]'hk').1]) (nP (x.2.2.2.2.2.1[k]'hk').2)).symm
  have h6:=cJ [(x.2.2.2.2.2.1[k]'hk').1]
  have h7:=sP ⟨#[]⟩ _ (aBW (x.2.2.2.2.2.1[k]'hk').2)
  rw[yA,show(⟨#[]⟩:ByteArray).size=0 from rfl] at h7
  (repeat' first|intro _|(with_reducible apply And.intro))
  all_goals first|omega|(unfold maxLen;rw[jH];omega)|(unfold maxLen;omega)|skip
  exact⟨k+1,by omega,by rw[<-e];rfl⟩
 intro hge
 obtain rfl:k=x.2.2.2.2.2.1.length:=by omega
 rw[List.take_length] at y5 y6⊢
 obtain⟨W4,Du⟩:∃W4,W4=lZ W3 (x.2.2.2.2.2.1.flatMap aAH):=⟨_,rfl⟩
 rw[<-Du] at y5⊢
 have h7:=sP ⟨#[]⟩ _ (aBW x.2.2.2.2.2.2.1)
 have h8:=sP ⟨#[]⟩ _ (aBW x.2.2.2.2.2.2.2.2.2.2.2.1)
 rw[yA,show(⟨#[]⟩:ByteArray).size=0 from rfl] at h7 h8
 have v1:=cJ x.2.2.2.2.2.2.2.1
 have v2:=cJ x.2.2.2.2.2.2.2.2.1
 have v3:=cJ x.2.2.2.2.2.2.2.2.2.1
 have v4:=cJ x.2.2.2.2.2.2.2.2.2.2.1
 (repeat' first|intro _|(with_reducible apply And.intro))
 all_goals first|omega|(unfold maxLen;(try simp only[jH]);omega)|skip
 unfold lT aIR
 simp only[zU]
 show _=lZ (lZ (lZ (lZ (lZ (lZ (⟨#[]⟩++gR (aAS x)) _) _) _) _) _) _
 rw[show(⟨#[]⟩:ByteArray)++gR (aAS x)=W1 from by rw[hW1];exact yP _,<-hW2,<-hW3,<-Du,aDO (lZ (lZ W4 _) _),aDO W4]
 rfl
end
end Go.Proofs.YtfmfeplebgbpmaaGreat
