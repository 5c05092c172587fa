/- WStage: lemmas. No conditions. -/
import Derived.Test.YtfmfeplebgbpmaaGreatCoreT
namespace Go.Proofs.YtfmfeplebgbpmaaGreat
open Go.ChangeShapes Go.WideShapes Go.ChangeAt Go.RowKit Go.Deep
set_option linter.unusedVariables false
set_option linter.unusedSimpArgs false
noncomputable section
set_option maxRecDepth 100000
def zM (p:aW) (l:List Int) (e:Int):Nat->List ByteArray
 | 0=>[pR p]
 | k+1=>zM p l e k++(if((k:Int)+1).tmod e=0 then [pR (aCL p (l.take (k+1)))] else [])
def aOV (p:aW) (l:List Int) (e:Int):List ByteArray:=if nQ p=true/\1<=e then zM p l e (min l.length 2000) else []
theorem bOK {p:aW} {l:List Int} {e:Int} (h:nQ p=false\/e<1):[]=aOV p l e:=by
 unfold aOV;rw[if_neg]
 rintro⟨h1,h2⟩
 rcases h with h|h
 ·rw[h] at h1;cases h1
 ·omega
theorem cEZ {p:aW} {l:List Int} {e:Int} (h1:nQ p=true) (h2:1<=e):zM p l e (min l.length 2000)=aOV p l e:=(if_pos ⟨h1,h2⟩).symm
theorem aRF (p:aW) (l:List Int) (e:Int):(k:Nat)->(zM p l e k).length<=k+1
 | 0=>Nat.le_refl _
 | k+1=>by
  have h:=aRF p l e k
  rw[zM,List.length_append]
  split
  ·rw[List.length_singleton];omega
  ·rw[List.length_nil];omega
theorem bWK (p:aW) (l:List Int) (e:Int):(k:Nat)->k<=(l.take 2000).length->zM p (l.take 2000) e k=zM p l e k
 | 0,_=>rfl
 | k+1,h=>by
  have hl:(l.take 2000).length=min 2000 l.length:=List.length_take
  rw[zM,zM,bWK p l e k (by omega),List.take_take,Nat.min_eq_left (by omega)]
theorem cBK {p:aW} {L:List Int} {k:Nat} {e:Int} (hk:k<L.length) (h:((k:Int)+1).tmod e=0):zM p L e k++[pR (gJ (aCL p (L.take k)) L[k])]=zM p L e (k+1):=by rw[zM,if_pos h,aQ1 hk]
theorem cCE {p:aW} {L:List Int} {k:Nat} {e:Int} (h:¬((k:Int)+1).tmod e=0):zM p L e k=zM p L e (k+1):=by rw[zM,if_neg h,List.append_nil]
def tM:Con:=⟨35,(.cMV aE bAM),(.slice 9 .str),[.val ⟨true,aE,[]⟩,.val ⟨false,aA,[]⟩,.val ⟨false,tI,[]⟩],[⟨false,(.slice 9 .str),[2]⟩],false,none,
 ((fun x=>bC aE x.1<=100000000):(aW×(bX×Int))->Prop),
 ((fun x=>aOV x.1 x.2.1 x.2.2):(aW×(bX×Int))->(List (ByteArray)))⟩
def bDL:T:=qY (fG (aNO aE) 2) bF 1 (.nl 9 .str) <| gH 0 (lU aE aA tI 0) 2 3 (.nl 9 .str) <| wI (lU aE aA tI 0) <| kO 9 .str 4 <| aBK (qE (aNO aE)) <| cK cQ <| oQ (pH jA aE) (pH jA aE) fF (lU aE aA tI 0) <| gB (gZ jA aE 8) 7 9 (jZ 3 cQ (gZ jA aE 8) <| dF 3 aE (aAB jA aE 2 8) cI <| jW (gZ jA aE 8) <| fR aDA fE (fG (aNO aE) 2) <| nE eM aN 14 (cD 1 11 <| kO 9 .str 15 <| eF (.cN2 9 .str 16) jA jA (aEE jA aE 1 8) 16 <| lI (gZ jA aE 8) 0 (pH jA aE) nJ iR 11) <| lI (gZ jA aE 8) 0 (pH jA aE) fC (aEE jA aE 1 8) 11) (aEE jA aE 1 8)
theorem bT3:Con.Holds Tryz.prog tM:=tk ⟨[(2986,4008,iZ 20 10++[.dr 0,.dr 1,.tm 23 0,.sl 2,.bx 1 0,.bx 1 1,.bx 1 2,.bx 1 3])],[]⟩ bDL (aC aST (aC aL8 (aC aNH (aC bPT aH)))) fun(x:aW×(bX×Int)) hx hp=>by
 dsimp only [tM] at hx hp⊢
 obtain⟨p,l,e⟩:=x
 have hp:bC aE p<=100000000:=hp
 delta bDL aGQ aBN aBP aW2;refine dR ?_
 refine dQ ?_
 refine⟨fun h=>bOK (.inr h),fun he=>⟨fun h=>bOK (.inl h),fun h1=>?_⟩⟩
 have hL:(List.take 2000 l).length<=2000:=by rw[List.length_take];omega
 have hmin:(List.take 2000 l).length=min l.length 2000:=by rw[List.length_take];omega
 have fin:zM p (List.take 2000 l) e (List.take 2000 l).length=aOV p l e:=by rw[bWK _ _ _ _ (Nat.le_refl _),hmin];exact cEZ h1 he
 generalize List.take 2000 l=L at *
 intro _ _ _ _
 refine eY (fun k=>((k:Int),zM p L e k,aCL p (List.take k L))) L.length rfl fun I μ k hk _ go=>?_
 dsimp only
 refine dQ ?_
 have hz:=bC4 (p:=p) L k (by omega) hp
 have hkl:=aRF p L e k
 constructor
 ·intro hlt
  have hk':k<L.length:=by omega
  simp only[aP hk']
  (repeat' first|intro _|(refine go _ ?_ ?_ ?_)|(refine go _ ?_ ?_)|(with_reducible apply And.intro))
  all_goals first|omega|(unfold maxLen;omega)|exact hz|skip
  all_goals show _=((((k+1:Nat):Int)),zM p L e (k+1),aCL p (List.take (k+1) L))
  all_goals rw[aQ1 hk']
  all_goals first|(rw[<-cBK hk' (by assumption)];rfl)|(rw[<-cCE (by assumption)];rfl)|skip
 ·intro hge
  rw[show k=L.length by omega];exact fin
def tB:Con:=⟨60,(.cMV aE bAM),(.slice 9 .str),[.val ⟨true,aE,[]⟩,.val ⟨false,aA,[]⟩,.val ⟨false,tI,[]⟩],[⟨false,(.slice 9 .str),[2]⟩],false,none,
 ((fun x=>bC aE x.1<=100000000):(aW×(bX×Int))->Prop),
 ((fun x=>aOV x.1 x.2.1 x.2.2):(aW×(bX×Int))->(List (ByteArray)))⟩
def bGE:T:=qY (fG (aNO aE) 2) bF 1 (.nl 9 .str) <| gH 0 (lU aE aA tI 0) 2 3 (.nl 9 .str) <| wI (lU aE aA tI 0) <| cD 2 4 <| kO 9 .str 5 <| eF (.cN2 9 .str 16) jA jA (.nl 9 .str) 6 <| aAC (pH jA aE) (oH (pH jA aE) (kM aN cY 4)) 3 tI (qE (aNO aE)) <| gB (gZ jA aE 8) 9 10 (xA tI tI (gZ jA aE 8) (fX 2000) <| jL 11 (jZ 3 (qE (aNO aE)) (gZ jA aE 8) <| dF 3 aE (aAB jA aE 2 8) fE <| jW (gZ jA aE 8) <| fR aDA dK (fG (aNO aE) 2) <| nE fC aN 16 (cD 2 13 <| kO 9 .str 17 <| eF (.cN2 9 .str 16) jA jA (aEE jA aE 1 8) 18 <| lI (gZ jA aE 8) 0 (pH jA aE) qJ kA 13) <| lI (gZ jA aE 8) 0 (pH jA aE) iR (aEE jA aE 1 8) 13) (aEE jA aE 1 8)) (aEE jA aE 1 8)
theorem bUE:Con.Holds Tryz.prog tB:=tk ⟨[(2982,4008,iZ 25 19++iZ 17 10++[.dr 3,.dr 0,.tm 9 0,.sl 12,.sl 2,.nb 2,.sl 3,.nq 3,.nb 3,.sl 4,.nq 4,.nb 4,.sl 5,.nq 5,.nb 5])],[(2973,28012,[],[2,3,4,5])]⟩ bGE (aC aL1 (aC aPT (aC aWF (aC bD0 aH)))) fun(x:aW×(bX×Int)) hx hp=>by
 dsimp only [tB] at hx hp⊢
 obtain⟨p,l,e⟩:=x
 have hp:bC aE p<=100000000:=hp
 delta bGE aD1 aDW aFN aOU;refine dR ?_
 refine dQ ?_
 refine⟨fun h=>bOK (.inr h),fun he=>⟨fun h=>bOK (.inl h),fun h1=>⟨by omega,fun _ _ _=>⟨⟨by omega,by unfold maxLen;omega⟩,fun _=>?_⟩⟩⟩⟩
 have fin:=cEZ (l:=l) h1 he
 refine eY (fun k=>((k:Int),zM p l e k,aCL p (List.take k l))) (min (List.length l) 2000) rfl fun I μ k hk _ go=>?_
 dsimp only
 refine dQ ?_
 have hz:=bC4 (p:=p) l k (by omega) hp
 have hkl:=aRF p l e k
 have fin2:k=min (List.length l) 2000->zM p l e k=aOV p l e:=fun h=>by rw[h];exact fin
 by_cases hk':k<List.length l
 ·simp only[aP hk']
  (repeat' first|intro _|(refine go _ ?_ ?_ ?_)|(refine go _ ?_ ?_)|(with_reducible apply And.intro))
  all_goals first|omega|(unfold maxLen;omega)|exact hz|exact fin2 (by omega)|skip
  all_goals show _=((((k+1:Nat):Int)),zM p l e (k+1),aCL p (List.take (k+1) l))
  all_goals rw[aQ1 hk']
  all_goals first|(rw[<-cBK hk' (by assumption)];rfl)|(rw[<-cCE (by assumption)];rfl)|skip
 ·(repeat' first|intro _|(refine go _ ?_ ?_ ?_)|(refine go _ ?_ ?_)|(with_reducible apply And.intro))
  all_goals first|omega|exact fin2 (by omega)|skip
end
section
variable {P:Program} {f:FuncId} {t:Ty} {e:TypeId} {fl:List Nat}
theorem cLW {t2:Ty} {pre:t.D->Prop} {fn:t.D->t2.D} (h:Con.Holds P ⟨f,t,t2,[.val ⟨true,t,[]⟩],[⟨true,t2,fl⟩],false,none,pre,fn⟩) (hf:aPP t2 fl=true) (cs:Array Value) (d:t.D) (w:World) (hr:rd t w cs.toList d) (hp:pre d):Calls P f #[.agg cs] w (bVM t2 w (fn d)):=by
 have hA:iD w [.val ⟨true,t,[]⟩] [.agg cs] (gA [t] (SV.as _ ⟨t,d⟩)):=by
  have e9:SV.as (dI [t]) ⟨t,d⟩=d:=SV.as_self _ _
  rw[e9]
  exact iD.cons rfl (by simp[mkV,Value.cells]) hr iD.nil
 have hg:=h.gives rfl rfl (x:=d) hp (kS.okD (kS.of_rd hr)) hA
 have e:SV.as t2 ⟨t2,fn d⟩=fn d:=SV.as_self _ _
 refine hg.mono fun e' w' hh=>?_
 have h2:=hh.agA rfl hf
 rw[show SV.as t2 ⟨t2,fn d⟩=fn d from e] at h2
 exact h2
theorem cFP {pre:t.D×Int->Prop} {fn:t.D×Int->Int} (h:Con.Holds P ⟨f,.cMV t tI,tI,[.val ⟨true,t,[]⟩,.val ⟨false,tI,[]⟩],[⟨false,tI,[0]⟩],false,none,pre,fn⟩) (cs:Array Value) (d:t.D) (left:Int) (w:World) (hr:rd t w cs.toList d) (h0:0<=left) (h2:left<=9223372036854775807) (hp:pre (d,left)):Calls P f #[.agg cs,.int .i64 left] w (bLG (.int .i64 (fn (d,left))) w):=by
 have hi:rd tI w [.int .i64 left] left:=⟨rfl,aAF ⟨by omega,h2⟩⟩
 have hA:iD w [.val ⟨true,t,[]⟩,.val ⟨false,tI,[]⟩] [.agg cs,.int .i64 left] (gA [t,tI] (SV.as _ ⟨.cMV t tI,(d,left)⟩)):=by
  have e9:SV.as (dI [t,tI]) ⟨.cMV t tI,(d,left)⟩=(d,left):=SV.as_self _ _
  rw[e9]
  exact iD.cons rfl (by simp[mkV,Value.cells]) hr (iD.cons rfl rfl hi iD.nil)
 have hg:=h.givesL rfl (x:=(d,left)) hp ⟨kS.okD (kS.of_rd hr),kS.okD (kS.of_rd hi)⟩ hA
 refine hg.mono fun e' w' hh=>?_
 obtain⟨rs,bl,he,ho,hn,hb,bel⟩:=hh
 rw[show SV.as (dI (List.map (fun x=>x.t) [(⟨false,tI,[0]⟩:MV)])) ⟨tI,fn (d,left)⟩=fn (d,left) from SV.as_self _ _] at ho
 obtain⟨r0,rs0,b0,bb0,rfl,rfl,k0,ho⟩:=aK9.inv ho
 obtain⟨rfl,rfl⟩:=ho
 have e1:=k0.int
 exact⟨he.trans (congrArg (fun l=>Ending.returned (bC0 l)) (congr (congrArg List.cons e1) rfl)),bel⟩
theorem cJR {pre:List t.D×Int->Prop} {fn:List t.D×Int->Int} (h:Con.Holds P ⟨f,.cMV (.slice e t) tI,tI,[.val ⟨false,.slice e t,[]⟩,.val ⟨false,tI,[]⟩],[⟨false,tI,[0]⟩],false,none,pre,fn⟩) (p:Option Addr) (len cap:Nat) (l:List t.D) (left:Int) (w:World) (hr:tC t.n (rd t w) w p len cap l) (h0:0<=left) (h2:left<=9223372036854775807) (hp:pre (l,left)):Calls P f #[.slice p len cap,.int .i64 left] w (bLG (.int .i64 (fn (l,left))) w):=by
 have hi:rd tI w [.int .i64 left] left:=⟨rfl,aAF ⟨by omega,h2⟩⟩
 have hA:iD w [.val ⟨false,.slice e t,[]⟩,.val ⟨false,tI,[]⟩] [.slice p len cap,.int .i64 left] (gA [.slice e t,tI] (SV.as _ ⟨.cMV (.slice e t) tI,(l,left)⟩)):=by
  have e9:SV.as (dI [.slice e t,tI]) ⟨.cMV (.slice e t) tI,(l,left)⟩=(l,left):=SV.as_self _ _
  rw[e9]
  exact iD.cons rfl rfl (tC.toRd (e:=e) hr) (iD.cons rfl rfl hi iD.nil)
 have hg:=h.givesL rfl (x:=(l,left)) hp ⟨kS.okD (kS.of_rd (tC.toRd (e:=e) hr)),kS.okD (kS.of_rd hi)⟩ hA
 refine hg.mono fun e' w' hh=>?_
 obtain⟨rs,bl,he,ho,hn,hb,bel⟩:=hh
 rw[show SV.as (dI (List.map (fun x=>x.t) [(⟨false,tI,[0]⟩:MV)])) ⟨tI,fn (l,left)⟩=fn (l,left) from SV.as_self _ _] at ho
 obtain⟨r0,rs0,b0,bb0,rfl,rfl,k0,ho⟩:=aK9.inv ho
 obtain⟨rfl,rfl⟩:=ho
 have e1:=k0.int
 exact⟨he.trans (congrArg (fun l=>Ending.returned (bC0 l)) (congr (congrArg List.cons e1) rfl)),bel⟩
theorem cK2 {pre:t.D×t.D->Prop} (h:Con.Holds P ⟨f,.cMV t t,.bool,[.val ⟨true,t,[]⟩,.val ⟨true,t,[]⟩],[⟨false,.bool,[0]⟩],false,none,pre,fun _=>true⟩) (ca cb:Array Value) (d:t.D) (w:World) (ha:rd t w ca.toList d) (hb:rd t w cb.toList d) (hp:pre (d,d)):Calls P f #[.agg ca,.agg cb] w (bLG (.bool true) w):=by
 have hA:iD w [.val ⟨true,t,[]⟩,.val ⟨true,t,[]⟩] [.agg ca,.agg cb] (gA [t,t] (SV.as _ ⟨.cMV t t,(d,d)⟩)):=by
  have e9:SV.as (dI [t,t]) ⟨.cMV t t,(d,d)⟩=(d,d):=SV.as_self _ _
  rw[e9]
  exact iD.cons rfl (by simp[mkV,Value.cells]) ha (iD.cons rfl (by simp[mkV,Value.cells]) hb iD.nil)
 have hg:=h.givesL rfl (x:=(d,d)) hp ⟨kS.okD (kS.of_rd ha),kS.okD (kS.of_rd hb)⟩ hA
 refine hg.mono fun e' w' hh=>?_
 obtain⟨rs,bl,he,ho,hn,hb,bel⟩:=hh
 rw[show SV.as (dI (List.map (fun x=>x.t) [(⟨false,.bool,[0]⟩:MV)])) ⟨.bool,true⟩=true from SV.as_self _ _] at ho
 obtain⟨r0,rs0,b0,bb0,rfl,rfl,k0,ho⟩:=aK9.inv ho
 obtain⟨rfl,rfl⟩:=ho
 have e1:=k0.bool
 exact⟨he.trans (congrArg (fun l=>Ending.returned (bC0 l)) (congr (congrArg List.cons e1) rfl)),bel⟩
end
theorem rS {n:Nat} (h:n<=maxLen):n<=9223372036854775807:=h
theorem aFJ {α:Type} {l:List α} {z:α} {k:Nat} (h:k<l.length):(l.take k++List.replicate (l.length - k) z).set k l[k]=l.take (k+1)++List.replicate (l.length - (k+1)) z:=by
 have hl:(l.take k).length=k:=by rw[List.length_take];omega
 rw[List.set_append_right _ _ (by omega),hl,Nat.sub_self,show l.length - k=(l.length - (k+1))+1 by omega,List.replicate_succ,List.set_cons_zero,List.take_succ_eq_append_getElem h,List.append_assoc];rfl
theorem bY (left:Int) (n:Nat):((n:Int)<=left/\szR left n=left - n)\/(left<n/\szR left n = -1):=by
 by_cases h:(n:Int)<=left
 ·exact .inl ⟨h,bX1 h⟩
 ·exact .inr ⟨by omega,bX2 h⟩
theorem bq7 (b:Bool):aES .bool b b=true:=by cases b<;>rfl
theorem pk7 {a b c d:Int} (h1:a=b) (h2:c=d):((a,c):Int×Int)=(b,d):=by rw[h1,h2]
theorem cKL {α:Type} {f:α->Nat} (l:List α) (h:∀a,f a=0):(l.map f).sum=0:=by
 induction l with
 | nil=>rfl
 | cons a l ih=>rw[List.map_cons,List.sum_cons,ih,h]
theorem aUA {α:Type} (f:α->Nat) (l:List α) (k:Nat):((l.take k).map f).sum<=(l.map f).sum:=by
 have:=congrArg (fun l=>(List.map f l).sum) (List.take_append_drop k l)
 simp only[List.map_append,List.sum_append] at this
 omega
noncomputable section
set_option maxRecDepth 100000
def aAK:Con:=⟨61,aA,aA,[.val ⟨false,aA,[]⟩],[⟨false,aA,[2]⟩],false,none,
 ((fun x=>bC aA x<=1048576):(List Int)->Prop),
 ((fun x=>x):(List Int)->(List Int))⟩
def bEN:T:=cK bJ <| aEP 3 tI 8 1 <| gW aM aA bM 3 tI bJ <| oJ aA 3 4 5 (jZ 3 bJ (kV 3) <| jZ 3 (iA 3) (kV 3) <| sZ 3 tI (aC2 aA) (kM (iA 3) (kV 3) 6) <| eJ aA 3 0 aA cU cM) (iA 3)
theorem aGO:Con.Holds Tryz.prog aAK:=tk ⟨[(2991,1003,iZ 7 5++[.tm 4 0,.sl 1])],[]⟩ bEN aH fun(x:List Int) hx hp=>by
 dsimp only [aAK] at hx hp⊢
 have hz:bC aA x<=1048576:=hp
 have hpl:List.length x<=1048576:=Nat.le_trans (rT (e:=3) (t:=tI) x) hz
 delta bEN;refine dR ?_
 refine dQ ?_
 refine fun _=>⟨by unfold repC;exact⟨by omega,by omega,by omega⟩,fun _=>eY (fun k=>((k:Int),List.take k x++List.replicate (List.length x - k) (aK tI))) (List.length x) rfl fun I μ k hk _ go=>?_⟩
 try dsimp only
 refine dQ ?_
 have hl:(List.take k x).length+(List.replicate (List.length x - k) (aK tI)).length=List.length x:=by rw[List.length_take,List.length_replicate];omega
 refine fun _=>⟨fun hlt=>?_,fun hge=>?_⟩
 ·have hk':k<List.length x:=by omega
  rw[aP hk']
  (repeat' first|intro _|(refine go2 _ ?_ ?_ ?_)|(refine go2 _ ?_ ?_)|(refine go _ ?_ ?_ ?_)|(refine go _ ?_ ?_)|(with_reducible apply And.intro))
  all_goals first|omega |  exact pk (aFJ hk')|skip
 ·have:k=List.length x:=by omega
  subst this
  rw[Nat.sub_self,List.replicate_zero,List.append_nil,List.take_length]
def aA4:Con:=⟨137,bAM,tI,[.val ⟨false,aA,[]⟩,.val ⟨false,tI,[]⟩],[⟨false,tI,[0]⟩],false,none,
 ((fun x=>0<=x.2):(bX×Int)->Prop),
 ((fun x=>szR x.2 (bC aA x.1)):(bX×Int)->(Int))⟩
def bHV:T:=cK (aTY 0) <| lR mY (iX aA) 1 <| aGJ bM 3 <| cF 2
theorem aH1:Con.Holds Tryz.prog aA4:=tk ⟨[],[]⟩ bHV aH fun(x:bX×Int) hx hp=>by
 dsimp only [aA4] at hx hp⊢
 obtain⟨x,l⟩:=x
 have hl:0<=l:=hp
 have e:bC aA x=List.length x:=lX x
 have hm:=rS (show List.length x<=maxLen from hx.1.1)
 have hfin:=bY l (bC aA x)
 have hx2:l<=9223372036854775807:=hx.2.2
 delta bHV;refine dR ?_
 (refine dQ ?_;try with_reducible exact True.intro)
 (repeat' first|intro _|(with_reducible apply And.intro))
 all_goals first|omega|(refine @Eq.trans Int _ _ _ ?_ rfl;omega)|skip
def aA3:Con:=⟨51,aL,.bool,[.val ⟨false,aA,[]⟩,.val ⟨false,aA,[]⟩],[⟨false,.bool,[0]⟩],false,none,
 ((fun x=>x.1=x.2):(bT)->Prop),
 ((fun _=>true):(bT)->(Bool))⟩
def bG4:T:=cK oZ <| cK pI <| dW aZ bM 3 <| jY 3 tI oZ <| gB dY 5 6 (cH 3 tI aA oZ 4 <| cH 3 tI aA pI 4 <| dW cY cM 9 <| uZ dY 0 cI) bD
theorem aHD:Con.Holds Tryz.prog aA3:=tk ⟨[(2988,2004,iZ 10 6++[.tm 5 0])],[]⟩ bG4 aH fun(x:bT) hx hp=>by
 dsimp only [aA3] at hx hp⊢
 obtain⟨a,b⟩:=x
 obtain rfl:a=b:=hp
 have hl:=rS (show List.length a<=maxLen from hx.1.1)
 delta bG4;refine dR ?_
 refine dQ ?_
 refine fun _ _=>⟨fun h=>absurd trivial h,fun _=>eY (fun k=>(k:Int)) (List.length a) rfl fun I μ k hk _ go=>?_⟩
 try dsimp only
 refine dQ ?_
 refine fun _=>⟨fun hlt=>?_,fun hge=>trivial⟩
 have hk':k<List.length a:=by omega
 (repeat' first|intro _|(refine go2 _ ?_ ?_ ?_)|(refine go2 _ ?_ ?_)|(refine go _ ?_ ?_ ?_)|(refine go _ ?_ ?_)|(with_reducible apply And.intro))
 all_goals first|omega|rfl|trivial|exact absurd (bq7 _) (by assumption)|(exfalso;simp_all;done)|skip
def aU6:Con:=⟨160,aL,aL,[.val ⟨true,aL,[]⟩],[⟨true,aL,[2,2]⟩],false,none,
 ((fun x=>bC aL x<=1048576):(bT)->Prop),
 ((fun x=>x):(bT)->(bT))⟩
def bFN:T:=eK 0 oZ 0 pI <| jB aA aA aZ bM
theorem bW4:Con.Holds Tryz.prog aU6:=tk ⟨[],[]⟩ bFN (aC aGO aH) fun(x:bT) hx hp=>by
 dsimp only [aU6] at hx hp⊢
 have e:bC aL x=bC aA x.1+(bC aA x.2):=rfl
 have hz:bC aL x<=1048576:=hp
 delta bFN aAK;refine dR ?_;try with_reducible exact True.intro
 (repeat' first|intro _|(with_reducible apply And.intro))
 all_goals first|omega|rfl|exact True.intro|skip
def aUE:Con:=⟨156,(.cMV aL tI),tI,[.val ⟨true,aL,[]⟩,.val ⟨false,tI,[]⟩],[⟨false,tI,[0]⟩],false,none,
 ((fun x=>0<=x.2):(bT×Int)->Prop),
 ((fun x=>szR x.2 (bC aL x.1)):(bT×Int)->(Int))⟩
def bFO:T:=oK 0 aA (aB7 aA aA aL) (iX aL) aZ 2 <| oK 0 aA (xQ aL 1 aL) aZ eG 4 <| cF 3
theorem bVZ:Con.Holds Tryz.prog aUE:=tk ⟨[],[]⟩ bFO (aC aH1 aH) fun(x:bT×Int) hx hp=>by
 dsimp only [aUE] at hx hp⊢
 obtain⟨x,l⟩:=x
 have e:bC aL x=bC aA x.1+(bC aA x.2):=rfl
 have hl:0<=l:=hp
 have hz:=fun m:Nat=>bY l m
 delta bFO aA4;refine dR ?_
 refine dQ ?_
 have hfin:=bY l (bC aL x)
 rw[e] at hfin⊢
 generalize bC aA x.1=s0 at *
 generalize bC aA x.2=s1 at *
 clear hz e
 obtain⟨a0,b0⟩|⟨a0,b0⟩:=bY l s0
 rotate_left
 ·rw[b0];(repeat' first|intro _|(with_reducible apply And.intro))<;>first|omega|(refine @Eq.trans Int _ _ _ ?_ rfl;omega)|exact True.intro
 rw[b0]
 generalize hl0:l - (s0:Int)=l0 at *
 obtain⟨a1,b1⟩|⟨a1,b1⟩:=bY l0 s1
 rotate_left
 ·rw[b1];(repeat' first|intro _|(with_reducible apply And.intro))<;>first|omega|(refine @Eq.trans Int _ _ _ ?_ rfl;omega)|exact True.intro
 rw[b1]
 generalize A0:l0 - (s1:Int)=l1 at *
 (repeat' first|intro _|(with_reducible apply And.intro))
 all_goals first|omega|(refine @Eq.trans Int _ _ _ ?_ rfl;omega)|exact True.intro|skip
def aSY:Con:=⟨165,(.cMV aL aL),.bool,[.val ⟨true,aL,[]⟩,.val ⟨true,aL,[]⟩],[⟨false,.bool,[0]⟩],false,none,
 ((fun x=>x.1=x.2):(bT×bT)->Prop),
 ((fun _=>true):(bT×bT)->(Bool))⟩
def bCZ:T:=fN 0 (dT aA aA aL aL) (eI aL aL 1) <| dU 1 2 <| fN 0 (iP aL 1 aL aL) (fA aL aL 2) <| dU 3 4 aJA
theorem bV8:Con.Holds Tryz.prog aSY:=tk ⟨[],[]⟩ bCZ (aC aHD aH) fun(x:bT×bT) hx hp=>by
 dsimp only [aSY] at hx hp⊢
 obtain⟨a,b⟩:=x
 obtain rfl:a=b:=hp
 delta bCZ aA3;refine dR ?_
 (refine dQ ?_;try with_reducible exact True.intro)
 (repeat' first|intro _|(with_reducible apply And.intro))
 all_goals first|rfl|trivial|exact absurd (bq7 _) (by assumption)|(exfalso;simp_all;done)|skip
def aOQ:Con:=⟨67,(.slice 206 aL),aO,[.val ⟨false,(.slice 206 aL),[]⟩],[⟨false,aO,[2]⟩],false,none,
 ((fun x=>bC aO x<=1048576):(iC)->Prop),
 ((fun x=>x):(iC)->(iC))⟩
def bB4:T:=gL 206 aL bJ <| aEP 138 aL 48 1 <| gW (fM aO) aO bM 206 aL bJ <| oJ aO 3 4 5 (cW 206 aL uG bJ aO 3 <| nU 6 <| cW 138 aL aO (eT aO 3) aO 3 <| sZ 138 aL (cB0 aO) (kM (eT aO 3) (cB aO 3) 7) <| eJ aO 3 0 aO cI cU) (eT aO 3)
theorem bRI:Con.Holds Tryz.prog aOQ:=tk ⟨[(2991,1003,iZ 7 5++[.tm 4 0,.sl 1])],[(2983,3006,[20],[])]⟩ bB4 (aC bW4 aH) fun(x:iC) hx hp=>by
 dsimp only [aOQ] at hx hp⊢
 have hz:bC aO x<=1048576:=hp
 have hpl:List.length x<=1048576:=Nat.le_trans (rT (e:=138) (t:=aL) x) hz
 have hm:∀k (h:k<List.length x),bC aL ((x:List (Ty.D aL))[k])<=1048576:=fun k h=>Nat.le_trans (yJ (e:=138) (t:=aL) (List.getElem_mem h)) hz
 delta bB4 aU6;refine dR ?_
 refine dQ ?_
 refine fun _=>⟨by unfold repC;exact⟨by omega,by omega,by omega⟩,fun _=>eY (fun k=>((k:Int),List.take k x++List.replicate (List.length x - k) (aK aL))) (List.length x) rfl fun I μ k hk _ go=>?_⟩
 try dsimp only
 refine dQ ?_
 have hl:(List.take k x).length+(List.replicate (List.length x - k) (aK aL)).length=List.length x:=by rw[List.length_take,List.length_replicate];omega
 refine fun _=>⟨fun hlt=>?_,fun hge=>?_⟩
 ·have hk':k<List.length x:=by omega
  have hm':=hm k hk'
  rw[aP hk']
  (repeat' first|intro _|(refine go2 _ ?_ ?_ ?_)|(refine go2 _ ?_ ?_)|(refine go _ ?_ ?_ ?_)|(refine go _ ?_ ?_)|(with_reducible apply And.intro))
  all_goals first|omega|exact hm'|exact pk (aFJ hk')|skip
 ·have:k=List.length x:=by omega
  subst this
  rw[Nat.sub_self,List.replicate_zero,List.append_nil,List.take_length]
def aNI:Con:=⟨65,(.cMV (.slice 206 aL) tI),tI,[.val ⟨false,(.slice 206 aL),[]⟩,.val ⟨false,tI,[]⟩],[⟨false,tI,[0]⟩],false,none,
 ((fun x=>0<=x.2):(iC×Int)->Prop),
 ((fun x=>szR x.2 (bC aO x.1)):(iC×Int)->(Int))⟩
def aZV:T:=gL 206 aL (fQ uG) <| lR mY (iX uG) 1 <| aGJ bM 3 <| gW aU tI bM 206 aL (fQ uG) <| gB nZ 5 6 (bZ 206 aL uG (fQ uG) nZ <| oK 0 aL cY qZ cM 9 <| aCX nZ 0 tI cI cM) qZ
theorem bR3:Con.Holds Tryz.prog aNI:=tk ⟨[(2986,2004,iZ 11 6++[.tm 5 0,.tm 1 0])],[]⟩ aZV (aC bVZ aH) fun(x:iC×Int) hx hp=>by
 dsimp only [aNI] at hx hp⊢
 obtain⟨x,l⟩:=x
 have hl:0<=l:=hp
 have e:bC aO x=List.length x+((x:List (Ty.D aL)).map (bC aL)).sum:=rfl
 have hm:=rS (show List.length x<=maxLen from hx.1.1)
 have hx2:l<=9223372036854775807:=hx.2.2
 have hfin:=bY l (bC aO x)
 have hs:=fun k=>aUA (bC aL) (x:List (Ty.D aL)) k
 delta aZV aUE;refine dR ?_
 refine dQ ?_
 rw[e] at hfin⊢
 (repeat' first|intro _|(with_reducible apply And.intro))
 all_goals first|omega|(refine @Eq.trans Int _ _ _ ?_ rfl;omega)|skip
 refine aC6 (fun k=>((k:Int),l - (List.length x:Int) - (((List.take k x).map (bC aL)).sum:Nat))) (fun k=>((List.length x+((List.take k x).map (bC aL)).sum:Nat):Int)<=l) (List.length x) (Prod.ext rfl (by show _=_ - ((0:Nat):Int);omega)) (by show((List.length x+0:Nat):Int)<=l;omega) fun I μ k hk hG _ go=>?_
 try dsimp only
 refine dQ ?_
 have hsk:=hs k
 by_cases hk':k<List.length x
 ·rw[aP hk']
  have en:((List.take (k+1) x).map (bC aL)).sum=((List.take k x).map (bC aL)).sum+bC aL ((x:List (Ty.D aL))[k]):=gN (bC aL) x k hk'
  have B0:=hs (k+1)
  have hc:=bY (l - (List.length x:Int) - (((List.take k x).map (bC aL)).sum:Nat)) (bC aL ((x:List (Ty.D aL))[k]))
  rw[en] at B0 go
  clear en hs e
  generalize bC aL ((x:List (Ty.D aL))[k])=s at *
  generalize ((List.take k x).map (bC aL)).sum=q at *
  generalize ((x:List (Ty.D aL)).map (bC aL)).sum=tot at *
  generalize szR (l - (List.length x:Int) - (q:Nat)) s=z at *
  (repeat' first|intro _|(refine go _ ?_ ?_ ?_)|(refine go _ ?_ ?_)|(with_reducible apply And.intro))
  all_goals first|omega|(show((k:Int)+1,z)=(((k+1:Nat):Int),l - (List.length x:Int) - ((q+s:Nat):Int));exact pk7 (by omega) (by omega))|(refine @Eq.trans Int _ _ _ ?_ rfl;omega)|skip
 ·have:k=List.length x:=by omega
  subst this
  rw[List.take_length] at *
  (repeat' first|intro _|(refine go _ ?_ ?_ ?_)|(refine go _ ?_ ?_)|(with_reducible apply And.intro))
  all_goals first|omega|(refine @Eq.trans Int _ _ _ ?_ rfl;omega)|skip
def aQ8:Con:=⟨70,(.cMV aO aO),.bool,[.val ⟨false,aO,[]⟩,.val ⟨false,aO,[]⟩],[⟨false,.bool,[0]⟩],false,none,
 ((fun x=>x.1=x.2):(iC×iC)->Prop),
 ((fun _=>true):(iC×iC)->(Bool))⟩
def aZS:T:=vB aL (bS aO aO) <| vB aL (bMH aO) <| dW aZ bM 3 <| jY 138 aL (bS aO aO) <| gB dY 5 6 (cH 138 aL aO (bS aO aO) 4 <| cH 138 aL aO (bMH aO) 4 <| eQ 0 aL aL cY cM <| tL 9 10 dY 0 cO) bD
theorem bRJ:Con.Holds Tryz.prog aQ8:=tk ⟨[(2988,2004,iZ 10 6++[.tm 5 0])],[]⟩ aZS (aC bV8 aH) fun(x:iC×iC) hx hp=>by
 dsimp only [aQ8] at hx hp⊢
 obtain⟨a,b⟩:=x
 obtain rfl:a=b:=hp
 have hl:=rS (show List.length a<=maxLen from hx.1.1)
 delta aZS aSY;refine dR ?_
 refine dQ ?_
 refine fun _ _=>⟨fun h=>absurd trivial h,fun _=>eY (fun k=>(k:Int)) (List.length a) rfl fun I μ k hk _ go=>?_⟩
 try dsimp only
 refine dQ ?_
 refine fun _=>⟨fun hlt=>?_,fun hge=>trivial⟩
 have hk':k<List.length a:=by omega
 (repeat' first|intro _|(refine go2 _ ?_ ?_ ?_)|(refine go2 _ ?_ ?_)|(refine go _ ?_ ?_ ?_)|(refine go _ ?_ ?_)|(with_reducible apply And.intro))
 all_goals first|omega|rfl|trivial|exact absurd (bq7 _) (by assumption)|(exfalso;simp_all;done)|skip
def aY7:Con:=⟨332,aU,aU,[.val ⟨true,aU,[]⟩],[⟨true,aU,[0,0]⟩],false,none,
 ((fun x=>bC aU x<=1048576):(Int×Int)->Prop),
 ((fun x=>x):(Int×Int)->(Int×Int))⟩
def bL4:T:=cF 0
theorem bZ4:Con.Holds Tryz.prog aY7:=tk ⟨[],[]⟩ bL4 aH fun(x:Int×Int) hx hp=>by
 dsimp only [aY7] at hx hp⊢
 have e:bC aU x=0+(0):=rfl
 have hz:bC aU x<=1048576:=hp
 delta bL4;refine dR ?_;try with_reducible exact True.intro
 (repeat' first|intro _|(with_reducible apply And.intro))
 all_goals first|omega|rfl|exact True.intro|skip
def aY6:Con:=⟨336,(.cMV aU aU),.bool,[.val ⟨true,aU,[]⟩,.val ⟨true,aU,[]⟩],[⟨false,.bool,[0]⟩],false,none,
 ((fun x=>x.1=x.2):(eP×eP)->Prop),
 ((fun _=>true):(eP×eP)->(Bool))⟩
def bKF:T:=dW (dT tI tI aU aU) (qE (aC2 aU)) 1 <| dW (iP aU 1 aU aU) (fA aU aU 2) 2 aJA
theorem cAQ:Con.Holds Tryz.prog aY6:=tk ⟨[],[]⟩ bKF aH fun(x:eP×eP) hx hp=>by
 dsimp only [aY6] at hx hp⊢
 obtain⟨a,b⟩:=x
 obtain rfl:a=b:=hp
 delta bKF;refine dR ?_
 (refine dQ ?_;try with_reducible exact True.intro)
 (repeat' first|intro _|(with_reducible apply And.intro))
 all_goals first|rfl|trivial|exact absurd (bq7 _) (by assumption)|(exfalso;simp_all;done)|skip
def aT0:Con:=⟨268,(.slice 344 aU),bI,[.val ⟨false,(.slice 344 aU),[]⟩],[⟨false,bI,[2]⟩],false,none,
 ((fun x=>bC bI x<=1048576):(List eP)->Prop),
 ((fun x=>x):(List eP)->(List eP))⟩
def bCY:T:=gL 344 aU bJ <| aEP 159 aU 16 1 <| gW (fM bI) bI bM 344 aU bJ <| oJ bI 3 4 5 (cW 344 aU (.slice 344 aU) bJ bI 3 <| nU 6 <| cW 159 aU bI (eT bI 3) bI 3 <| sZ 159 aU aDD (kM (eT bI 3) (cB bI 3) 7) <| eJ bI 3 0 bI cI cU) (eT bI 3)
theorem bUL:Con.Holds Tryz.prog aT0:=tk ⟨[(2991,1003,iZ 7 5++[.tm 4 0,.sl 1])],[]⟩ bCY (aC bZ4 aH) fun(x:List eP) hx hp=>by
 dsimp only [aT0] at hx hp⊢
 have hz:bC bI x<=1048576:=hp
 have hpl:List.length x<=1048576:=Nat.le_trans (rT (e:=159) (t:=aU) x) hz
 have hm:∀k (h:k<List.length x),bC aU ((x:List (Ty.D aU))[k])<=1048576:=fun k h=>Nat.le_trans (yJ (e:=159) (t:=aU) (List.getElem_mem h)) hz
 delta bCY aY7;refine dR ?_
 refine dQ ?_
 refine fun _=>⟨by unfold repC;exact⟨by omega,by omega,by omega⟩,fun _=>eY (fun k=>((k:Int),List.take k x++List.replicate (List.length x - k) (aK aU))) (List.length x) rfl fun I μ k hk _ go=>?_⟩
 try dsimp only
 refine dQ ?_
 have hl:(List.take k x).length+(List.replicate (List.length x - k) (aK aU)).length=List.length x:=by rw[List.length_take,List.length_replicate];omega
 refine fun _=>⟨fun hlt=>?_,fun hge=>?_⟩
 ·have hk':k<List.length x:=by omega
  have hm':=hm k hk'
  rw[aP hk']
  (repeat' first|intro _|(refine go2 _ ?_ ?_ ?_)|(refine go2 _ ?_ ?_)|(refine go _ ?_ ?_ ?_)|(refine go _ ?_ ?_)|(with_reducible apply And.intro))
  all_goals first|omega|exact hm'|exact pk (aFJ hk')|skip
 ·have:k=List.length x:=by omega
  subst this
  rw[Nat.sub_self,List.replicate_zero,List.append_nil,List.take_length]
def aUL:Con:=⟨258,(.cMV (.slice 344 aU) tI),tI,[.val ⟨false,(.slice 344 aU),[]⟩,.val ⟨false,tI,[]⟩],[⟨false,tI,[0]⟩],false,none,
 ((fun x=>0<=x.2):((List eP)×Int)->Prop),
 ((fun x=>szR x.2 (bC bI x.1)):((List eP)×Int)->(Int))⟩
def bGG:T:=gL 344 aU (fQ (.slice 344 aU)) <| lR mY (iX (.slice 344 aU)) 1 <| aGJ bM 3 <| cF 2
theorem bW3:Con.Holds Tryz.prog aUL:=tk ⟨[],[]⟩ bGG aH fun(x:(List eP)×Int) hx hp=>by
 dsimp only [aUL] at hx hp⊢
 obtain⟨x,l⟩:=x
 have hl:0<=l:=hp
 have e:bC bI x=List.length x+((x:List (Ty.D aU)).map (bC aU)).sum:=rfl
 rw[cKL (f:=bC aU) x (fun _=>rfl)] at e
 have hm:=rS (show List.length x<=maxLen from hx.1.1)
 have hfin:=bY l (bC bI x)
 have hx2:l<=9223372036854775807:=hx.2.2
 delta bGG;refine dR ?_
 (refine dQ ?_;try with_reducible exact True.intro)
 (repeat' first|intro _|(with_reducible apply And.intro))
 all_goals first|omega|(refine @Eq.trans Int _ _ _ ?_ rfl;omega)|skip
def aT7:Con:=⟨273,(.cMV bI bI),.bool,[.val ⟨false,bI,[]⟩,.val ⟨false,bI,[]⟩],[⟨false,.bool,[0]⟩],false,none,
 ((fun x=>x.1=x.2):((List eP)×(List eP))->Prop),
 ((fun _=>true):((List eP)×(List eP))->(Bool))⟩
def bFA:T:=wA aU (bS bI bI) <| wA aU (kE bI bI) <| dW aZ bM 3 <| jY 159 aU (bS bI bI) <| gB dY 5 6 (cH 159 aU bI (bS bI bI) 4 <| cH 159 aU bI (kE bI bI) 4 <| eQ 0 aU aU cY cM <| tL 9 10 dY 0 cO) bD
theorem bUK:Con.Holds Tryz.prog aT7:=tk ⟨[(2988,2004,iZ 10 6++[.tm 5 0])],[]⟩ bFA (aC cAQ aH) fun(x:(List eP)×(List eP)) hx hp=>by
 dsimp only [aT7] at hx hp⊢
 obtain⟨a,b⟩:=x
 obtain rfl:a=b:=hp
 have hl:=rS (show List.length a<=maxLen from hx.1.1)
 delta bFA aY6;refine dR ?_
 refine dQ ?_
 refine fun _ _=>⟨fun h=>absurd trivial h,fun _=>eY (fun k=>(k:Int)) (List.length a) rfl fun I μ k hk _ go=>?_⟩
 try dsimp only
 refine dQ ?_
 refine fun _=>⟨fun hlt=>?_,fun hge=>trivial⟩
 have hk':k<List.length a:=by omega
 (repeat' first|intro _|(refine go2 _ ?_ ?_ ?_)|(refine go2 _ ?_ ?_)|(refine go _ ?_ ?_ ?_)|(refine go _ ?_ ?_)|(with_reducible apply And.intro))
 all_goals first|omega|rfl|trivial|exact absurd (bq7 _) (by assumption)|(exfalso;simp_all;done)|skip
def bFX:Con:=⟨316,bK,bK,[.val ⟨true,bK,[]⟩],[⟨true,bK,[0,0,0,2]⟩],false,none,
 ((fun x=>bC bK x<=1048576):(fP)->Prop),
 ((fun x=>x):(fP)->(fP))⟩
def bOR:T:=nC (fG bK 3) <| uR bK [pZ aM 0,wV,aAL,aZ]
theorem cEL:Con.Holds Tryz.prog bFX:=tk ⟨[],[]⟩ bOR (aC aGO aH) fun(x:fP) hx hp=>by
 dsimp only [bFX] at hx hp⊢
 have e:bC bK x=0+(0+(0+(bC aA x.2.2.2))):=rfl
 have hz:bC bK x<=1048576:=hp
 delta bOR aAK;refine dR ?_;try with_reducible exact True.intro
 (repeat' first|intro _|(with_reducible apply And.intro))
 all_goals first|omega|rfl|exact True.intro|skip
def bGW:Con:=⟨313,(.cMV bK tI),tI,[.val ⟨true,bK,[]⟩,.val ⟨false,tI,[]⟩],[⟨false,tI,[0]⟩],false,none,
 ((fun x=>0<=x.2):(fP×Int)->Prop),
 ((fun x=>szR x.2 (bC bK x.1)):(fP×Int)->(Int))⟩
def bQ0:T:=oK 0 aA (xQ bK 3 bK) (iX bK) aZ 2 <| cF 1
theorem cCJ:Con.Holds Tryz.prog bGW:=tk ⟨[],[]⟩ bQ0 (aC aH1 aH) fun(x:fP×Int) hx hp=>by
 dsimp only [bGW] at hx hp⊢
 obtain⟨x,l⟩:=x
 have e:bC bK x=0+(0+(0+(bC aA x.2.2.2))):=rfl
 have hl:0<=l:=hp
 have hz:=fun m:Nat=>bY l m
 delta bQ0 aA4;refine dR ?_
 refine dQ ?_
 have hfin:=bY l (bC bK x)
 rw[e] at hfin⊢
 generalize bC aA x.2.2.2=s3 at *
 clear hz e
 obtain⟨a0,b0⟩|⟨a0,b0⟩:=bY l s3
 rotate_left
 ·rw[b0];(repeat' first|intro _|(with_reducible apply And.intro))<;>first|omega|(refine @Eq.trans Int _ _ _ ?_ rfl;omega)|exact True.intro
 rw[b0]
 generalize hl0:l - (s3:Int)=l0 at *
 (repeat' first|intro _|(with_reducible apply And.intro))
 all_goals first|omega|(refine @Eq.trans Int _ _ _ ?_ rfl;omega)|exact True.intro|skip
def bEO:Con:=⟨251,(.cMV bK bK),.bool,[.val ⟨true,bK,[]⟩,.val ⟨true,bK,[]⟩],[⟨false,.bool,[0]⟩],false,none,
 ((fun x=>x.1=x.2):(fP×fP)->Prop),
 ((fun _=>true):(fP×fP)->(Bool))⟩
def bST:T:=dW (dT tI bL bK bK) (eI bK bK 1) 1 <| dW (eV bK 1 bK bK) (eI bK bK 2) 2 <| dW (eV bK 2 bK bK) (eI bK bK 3) 3 <| fN 0 (iP bK 3 bK bK) (fA bK bK 4) <| dU 4 5 aJA
theorem cBG:Con.Holds Tryz.prog bEO:=tk ⟨[],[]⟩ bST (aC aHD aH) fun(x:fP×fP) hx hp=>by
 dsimp only [bEO] at hx hp⊢
 obtain⟨a,b⟩:=x
 obtain rfl:a=b:=hp
 delta bST aA3;refine dR ?_
 (refine dQ ?_;try with_reducible exact True.intro)
 (repeat' first|intro _|(with_reducible apply And.intro))
 all_goals first|rfl|trivial|exact absurd (bq7 _) (by assumption)|(exfalso;simp_all;done)|skip
def aZD:Con:=⟨242,(.slice 329 bK),aG,[.val ⟨false,(.slice 329 bK),[]⟩],[⟨false,aG,[2]⟩],false,none,
 ((fun x=>bC aG x<=1048576):(cC)->Prop),
 ((fun x=>x):(cC)->(cC))⟩
def bJQ:T:=gL 329 bK bJ <| aEP 243 bK 48 1 <| gW (fM aG) aG bM 329 bK bJ <| oJ aG 3 4 5 (cW 329 bK (.slice 329 bK) bJ aG 3 <| nU 6 <| cW 243 bK aG (eT aG 3) aG 3 <| sZ 243 bK (aBL aG bK) (kM (eT aG 3) (cB aG 3) 7) <| eJ aG 3 0 aG cI cU) (eT aG 3)
theorem bZ6:Con.Holds Tryz.prog aZD:=tk ⟨[(2991,1003,iZ 7 5++[.tm 4 0,.sl 1])],[(2983,3006,[20],[])]⟩ bJQ (aC cEL aH) fun(x:cC) hx hp=>by
 dsimp only [aZD] at hx hp⊢
 have hz:bC aG x<=1048576:=hp
 have hpl:List.length x<=1048576:=Nat.le_trans (rT (e:=243) (t:=bK) x) hz
 have hm:∀k (h:k<List.length x),bC bK ((x:List (Ty.D bK))[k])<=1048576:=fun k h=>Nat.le_trans (yJ (e:=243) (t:=bK) (List.getElem_mem h)) hz
 delta bJQ bFX;refine dR ?_
 refine dQ ?_
 refine fun _=>⟨by unfold repC;exact⟨by omega,by omega,by omega⟩,fun _=>eY (fun k=>((k:Int),List.take k x++List.replicate (List.length x - k) (aK bK))) (List.length x) rfl fun I μ k hk _ go=>?_⟩
 try dsimp only
 refine dQ ?_
 have hl:(List.take k x).length+(List.replicate (List.length x - k) (aK bK)).length=List.length x:=by rw[List.length_take,List.length_replicate];omega
 refine fun _=>⟨fun hlt=>?_,fun hge=>?_⟩
 ·have hk':k<List.length x:=by omega
  have hm':=hm k hk'
  rw[aP hk']
  (repeat' first|intro _|(refine go2 _ ?_ ?_ ?_)|(refine go2 _ ?_ ?_)|(refine go _ ?_ ?_ ?_)|(refine go _ ?_ ?_)|(with_reducible apply And.intro))
  all_goals first|omega|exact hm'|exact pk (aFJ hk')|skip
 ·have:k=List.length x:=by omega
  subst this
  rw[Nat.sub_self,List.replicate_zero,List.append_nil,List.take_length]
def aZ6:Con:=⟨236,(.cMV (.slice 329 bK) tI),tI,[.val ⟨false,(.slice 329 bK),[]⟩,.val ⟨false,tI,[]⟩],[⟨false,tI,[0]⟩],false,none,
 ((fun x=>0<=x.2):(cC×Int)->Prop),
 ((fun x=>szR x.2 (bC aG x.1)):(cC×Int)->(Int))⟩
def bJV:T:=gL 329 bK (fQ (.slice 329 bK)) <| lR mY (iX (.slice 329 bK)) 1 <| aGJ bM 3 <| gW aU tI bM 329 bK (fQ (.slice 329 bK)) <| gB nZ 5 6 (bZ 329 bK (.slice 329 bK) (fQ (.slice 329 bK)) nZ <| oK 0 bK cY qZ cM 9 <| aCX nZ 0 tI cI cM) qZ
theorem cA5:Con.Holds Tryz.prog aZ6:=tk ⟨[(2986,2004,iZ 11 6++[.tm 5 0,.tm 1 0])],[]⟩ bJV (aC cCJ aH) fun(x:cC×Int) hx hp=>by
 dsimp only [aZ6] at hx hp⊢
 obtain⟨x,l⟩:=x
 have hl:0<=l:=hp
 have e:bC aG x=List.length x+((x:List (Ty.D bK)).map (bC bK)).sum:=rfl
 have hm:=rS (show List.length x<=maxLen from hx.1.1)
 have hx2:l<=9223372036854775807:=hx.2.2
 have hfin:=bY l (bC aG x)
 have hs:=fun k=>aUA (bC bK) (x:List (Ty.D bK)) k
 delta bJV bGW;refine dR ?_
 refine dQ ?_
 rw[e] at hfin⊢
 (repeat' first|intro _|(with_reducible apply And.intro))
 all_goals first|omega|(refine @Eq.trans Int _ _ _ ?_ rfl;omega)|skip
 refine aC6 (fun k=>((k:Int),l - (List.length x:Int) - (((List.take k x).map (bC bK)).sum:Nat))) (fun k=>((List.length x+((List.take k x).map (bC bK)).sum:Nat):Int)<=l) (List.length x) (Prod.ext rfl (by show _=_ - ((0:Nat):Int);omega)) (by show((List.length x+0:Nat):Int)<=l;omega) fun I μ k hk hG _ go=>?_
 try dsimp only
 refine dQ ?_
 have hsk:=hs k
 by_cases hk':k<List.length x
 ·rw[aP hk']
  have en:((List.take (k+1) x).map (bC bK)).sum=((List.take k x).map (bC bK)).sum+bC bK ((x:List (Ty.D bK))[k]):=gN (bC bK) x k hk'
  have B0:=hs (k+1)
  have hc:=bY (l - (List.length x:Int) - (((List.take k x).map (bC bK)).sum:Nat)) (bC bK ((x:List (Ty.D bK))[k]))
  rw[en] at B0 go
  clear en hs e
  generalize bC bK ((x:List (Ty.D bK))[k])=s at *
  generalize ((List.take k x).map (bC bK)).sum=q at *
  generalize ((x:List (Ty.D bK)).map (bC bK)).sum=tot at *
  generalize szR (l - (List.length x:Int) - (q:Nat)) s=z at *
  (repeat' first|intro _|(refine go _ ?_ ?_ ?_)|(refine go _ ?_ ?_)|(with_reducible apply And.intro))
  all_goals first|omega|(show((k:Int)+1,z)=(((k+1:Nat):Int),l - (List.length x:Int) - ((q+s:Nat):Int));exact pk7 (by omega) (by omega))|(refine @Eq.trans Int _ _ _ ?_ rfl;omega)|skip
 ·have:k=List.length x:=by omega
  subst this
  rw[List.take_length] at *
  (repeat' first|intro _|(refine go _ ?_ ?_ ?_)|(refine go _ ?_ ?_)|(with_reducible apply And.intro))
  all_goals first|omega|(refine @Eq.trans Int _ _ _ ?_ rfl;omega)|skip
def aZ2:Con:=⟨149,(.cMV aG aG),.bool,[.val ⟨false,aG,[]⟩,.val ⟨false,aG,[]⟩],[⟨false,.bool,[0]⟩],false,none,
 ((fun x=>x.1=x.2):(cC×cC)->Prop),
 ((fun _=>true):(cC×cC)->(Bool))⟩
def bJF:T:=iE (bS aG aG) <| iE (kE aG aG) <| dW aZ bM 3 <| jY 243 bK (bS aG aG) <| gB dY 5 6 (cH 243 bK aG (bS aG aG) 4 <| cH 243 bK aG (kE aG aG) 4 <| eQ 0 bK bK cY cM <| tL 9 10 dY 0 cO) bD
theorem cA2:Con.Holds Tryz.prog aZ2:=tk ⟨[(2988,2004,iZ 10 6++[.tm 5 0])],[]⟩ bJF (aC cBG aH) fun(x:cC×cC) hx hp=>by
 dsimp only [aZ2] at hx hp⊢
 obtain⟨a,b⟩:=x
 obtain rfl:a=b:=hp
 have hl:=rS (show List.length a<=maxLen from hx.1.1)
 delta bJF bEO;refine dR ?_
 refine dQ ?_
 refine fun _ _=>⟨fun h=>absurd trivial h,fun _=>eY (fun k=>(k:Int)) (List.length a) rfl fun I μ k hk _ go=>?_⟩
 try dsimp only
 refine dQ ?_
 refine fun _=>⟨fun hlt=>?_,fun hge=>trivial⟩
 have hk':k<List.length a:=by omega
 (repeat' first|intro _|(refine go2 _ ?_ ?_ ?_)|(refine go2 _ ?_ ?_)|(refine go _ ?_ ?_ ?_)|(refine go _ ?_ ?_)|(with_reducible apply And.intro))
 all_goals first|omega|rfl|trivial|exact absurd (bq7 _) (by assumption)|(exfalso;simp_all;done)|skip
def aY4:Con:=⟨334,aA,aA,[.val ⟨true,aA,[]⟩],[⟨true,aA,[2]⟩],false,none,
 ((fun x=>bC fD x<=1048576):(List Int)->Prop),
 ((fun x=>x):(List Int)->(List Int))⟩
def bIU:T:=hZ <| cF 1
theorem bZP:Con.Holds Tryz.prog aY4:=tk ⟨[],[]⟩ bIU (aC aGO aH) fun(x:List Int) hx hp=>by
 dsimp only [aY4] at hx hp⊢
 have e:bC fD x=bC aA x:=rfl
 have hz:bC fD x<=1048576:=hp
 delta bIU aAK;refine dR ?_;try with_reducible exact True.intro
 (repeat' first|intro _|(with_reducible apply And.intro))
 all_goals first|omega|rfl|exact True.intro|skip
def aYK:Con:=⟨328,bAM,tI,[.val ⟨true,aA,[]⟩,.val ⟨false,tI,[]⟩],[⟨false,tI,[0]⟩],false,none,
 ((fun x=>0<=x.2):(bX×Int)->Prop),
 ((fun x=>szR x.2 (bC fD x.1)):(bX×Int)->(Int))⟩
def bJC:T:=hZ <| aGJ aZ 2 <| cF 1
theorem bZJ:Con.Holds Tryz.prog aYK:=tk ⟨[],[]⟩ bJC (aC aH1 aH) fun(x:bX×Int) hx hp=>by
 dsimp only [aYK] at hx hp⊢
 obtain⟨x,l⟩:=x
 have e:bC fD x=bC aA x:=rfl
 have hl:0<=l:=hp
 have hz:=fun m:Nat=>bY l m
 delta bJC aA4;refine dR ?_
 refine dQ ?_
 have hfin:=bY l (bC fD x)
 rw[e] at hfin⊢
 generalize bC aA x=s0 at *
 clear hz e
 obtain⟨a0,b0⟩|⟨a0,b0⟩:=bY l s0
 rotate_left
 ·rw[b0];(repeat' first|intro _|(with_reducible apply And.intro))<;>first|omega|(refine @Eq.trans Int _ _ _ ?_ rfl;omega)|exact True.intro
 rw[b0]
 generalize hl0:l - (s0:Int)=l0 at *
 (repeat' first|intro _|(with_reducible apply And.intro))
 all_goals first|omega|(refine @Eq.trans Int _ _ _ ?_ rfl;omega)|exact True.intro|skip
def aXD:Con:=⟨257,aL,.bool,[.val ⟨true,aA,[]⟩,.val ⟨true,aA,[]⟩],[⟨false,.bool,[0]⟩],false,none,
 ((fun x=>x.1=x.2):(bT)->Prop),
 ((fun _=>true):(bT)->(Bool))⟩
def bKH:T:=hZ <| dU 1 2 aJA
theorem bZ0:Con.Holds Tryz.prog aXD:=tk ⟨[],[]⟩ bKH (aC aHD aH) fun(x:bT) hx hp=>by
 dsimp only [aXD] at hx hp⊢
 obtain⟨a,b⟩:=x
 obtain rfl:a=b:=hp
 delta bKH aA3;refine dR ?_
 (refine dQ ?_;try with_reducible exact True.intro)
 (repeat' first|intro _|(with_reducible apply And.intro))
 all_goals first|rfl|trivial|exact absurd (bq7 _) (by assumption)|(exfalso;simp_all;done)|skip
def aHE:Con:=⟨270,aV7,aF,[.val ⟨false,aV7,[]⟩],[⟨false,aF,[2]⟩],false,none,
 ((fun x=>bC aF x<=1048576):(cT)->Prop),
 ((fun x=>x):(cT)->(cT))⟩
def bFR:T:=gL 337 aA bJ <| aEP 253 aA 24 1 <| gW aJ aF bM 337 aA bJ <| oJ aF 3 4 5 (cW 337 aA kR bJ aF 3 <| nU 6 <| cW 253 aA aF (gG 3) aF 3 <| sZ 253 aA (.cMV aF aM) (kM (gG 3) (cB aF 3) 7) <| eJ aF 3 0 aF cI cU) (gG 3)
theorem aUC:Con.Holds Tryz.prog aHE:=tk ⟨[(2991,1003,iZ 7 5++[.tm 4 0,.sl 1])],[(2983,3006,[20],[])]⟩ bFR (aC bZP aH) fun(x:cT) hx hp=>by
 dsimp only [aHE] at hx hp⊢
 have hz:bC aF x<=1048576:=hp
 have hpl:List.length x<=1048576:=Nat.le_trans (rT (e:=253) (t:=fD) x) hz
 have hm:∀k (h:k<List.length x),bC fD ((x:List (Ty.D fD))[k])<=1048576:=fun k h=>Nat.le_trans (yJ (e:=253) (t:=fD) (List.getElem_mem h)) hz
 delta bFR aY4;refine dR ?_
 refine dQ ?_
 refine fun _=>⟨by unfold repC;exact⟨by omega,by omega,by omega⟩,fun _=>eY (fun k=>((k:Int),List.take k x++List.replicate (List.length x - k) (aK fD))) (List.length x) rfl fun I μ k hk _ go=>?_⟩
 try dsimp only
 refine dQ ?_
 have hl:(List.take k x).length+(List.replicate (List.length x - k) (aK fD)).length=List.length x:=by rw[List.length_take,List.length_replicate];omega
 refine fun _=>⟨fun hlt=>?_,fun hge=>?_⟩
 ·have hk':k<List.length x:=by omega
  have hm':=hm k hk'
  rw[aP hk']
  (repeat' first|intro _|(refine go2 _ ?_ ?_ ?_)|(refine go2 _ ?_ ?_)|(refine go _ ?_ ?_ ?_)|(refine go _ ?_ ?_)|(with_reducible apply And.intro))
  all_goals first|omega|exact hm'|exact pk (aFJ hk')|skip
 ·have:k=List.length x:=by omega
  subst this
  rw[Nat.sub_self,List.replicate_zero,List.append_nil,List.take_length]
def aH2:Con:=⟨260,(.cMV aV7 tI),tI,[.val ⟨false,aV7,[]⟩,.val ⟨false,tI,[]⟩],[⟨false,tI,[0]⟩],false,none,
 ((fun x=>0<=x.2):(cT×Int)->Prop),
 ((fun x=>szR x.2 (bC aF x.1)):(cT×Int)->(Int))⟩
def bFM:T:=gL 337 aA (fQ kR) <| lR mY (iX kR) 1 <| aGJ bM 3 <| gW aU tI bM 337 aA (fQ kR) <| gB nZ 5 6 (bZ 337 aA kR (fQ kR) nZ <| oK 0 aA cY qZ cM 9 <| aCX nZ 0 tI cI cM) qZ
theorem aT6:Con.Holds Tryz.prog aH2:=tk ⟨[(2986,2004,iZ 11 6++[.tm 5 0,.tm 1 0])],[]⟩ bFM (aC bZJ aH) fun(x:cT×Int) hx hp=>by
 dsimp only [aH2] at hx hp⊢
 obtain⟨x,l⟩:=x
 have hl:0<=l:=hp
 have e:bC aF x=List.length x+((x:List (Ty.D fD)).map (bC fD)).sum:=rfl
 have hm:=rS (show List.length x<=maxLen from hx.1.1)
 have hx2:l<=9223372036854775807:=hx.2.2
 have hfin:=bY l (bC aF x)
 have hs:=fun k=>aUA (bC fD) (x:List (Ty.D fD)) k
 delta bFM aYK;refine dR ?_
 refine dQ ?_
 rw[e] at hfin⊢
 (repeat' first|intro _|(with_reducible apply And.intro))
 all_goals first|omega|(refine @Eq.trans Int _ _ _ ?_ rfl;omega)|skip
 refine aC6 (fun k=>((k:Int),l - (List.length x:Int) - (((List.take k x).map (bC fD)).sum:Nat))) (fun k=>((List.length x+((List.take k x).map (bC fD)).sum:Nat):Int)<=l) (List.length x) (Prod.ext rfl (by show _=_ - ((0:Nat):Int);omega)) (by show((List.length x+0:Nat):Int)<=l;omega) fun I μ k hk hG _ go=>?_
 try dsimp only
 refine dQ ?_
 have hsk:=hs k
 by_cases hk':k<List.length x
 ·rw[aP hk']
  have en:((List.take (k+1) x).map (bC fD)).sum=((List.take k x).map (bC fD)).sum+bC fD ((x:List (Ty.D fD))[k]):=gN (bC fD) x k hk'
  have B0:=hs (k+1)
  have hc:=bY (l - (List.length x:Int) - (((List.take k x).map (bC fD)).sum:Nat)) (bC fD ((x:List (Ty.D fD))[k]))
  rw[en] at B0 go
  clear en hs e
  generalize bC fD ((x:List (Ty.D fD))[k])=s at *
  generalize ((List.take k x).map (bC fD)).sum=q at *
  generalize ((x:List (Ty.D fD)).map (bC fD)).sum=tot at *
  generalize szR (l - (List.length x:Int) - (q:Nat)) s=z at *
  (repeat' first|intro _|(refine go _ ?_ ?_ ?_)|(refine go _ ?_ ?_)|(with_reducible apply And.intro))
  all_goals first|omega|(show((k:Int)+1,z)=(((k+1:Nat):Int),l - (List.length x:Int) - ((q+s:Nat):Int));exact pk7 (by omega) (by omega))|(refine @Eq.trans Int _ _ _ ?_ rfl;omega)|skip
 ·have:k=List.length x:=by omega
  subst this
  rw[List.take_length] at *
  (repeat' first|intro _|(refine go _ ?_ ?_ ?_)|(refine go _ ?_ ?_)|(with_reducible apply And.intro))
  all_goals first|omega|(refine @Eq.trans Int _ _ _ ?_ rfl;omega)|skip
def aHK:Con:=⟨164,(.cMV aF aF),.bool,[.val ⟨false,aF,[]⟩,.val ⟨false,aF,[]⟩],[⟨false,.bool,[0]⟩],false,none,
 ((fun x=>x.1=x.2):(cT×cT)->Prop),
 ((fun _=>true):(cT×cT)->(Bool))⟩
def bDY:T:=nX (bS aF aF) <| nX (kE aF aF) <| dW aZ bM 3 <| jY 253 aA (bS aF aF) <| gB dY 5 6 (nV aA aF (bS aF aF) 4 <| nV aA aF (kE aF aF) 4 <| fN 0 cY cM <| tL 9 10 dY 0 cO) bD
theorem aU4:Con.Holds Tryz.prog aHK:=tk ⟨[(2988,2004,iZ 10 6++[.tm 5 0])],[]⟩ bDY (aC bZ0 aH) fun(x:cT×cT) hx hp=>by
 dsimp only [aHK] at hx hp⊢
 obtain⟨a,b⟩:=x
 obtain rfl:a=b:=hp
 have hl:=rS (show List.length a<=maxLen from hx.1.1)
 delta bDY aXD;refine dR ?_
 refine dQ ?_
 refine fun _ _=>⟨fun h=>absurd trivial h,fun _=>eY (fun k=>(k:Int)) (List.length a) rfl fun I μ k hk _ go=>?_⟩
 try dsimp only
 refine dQ ?_
 refine fun _=>⟨fun hlt=>?_,fun hge=>trivial⟩
 have hk':k<List.length a:=by omega
 (repeat' first|intro _|(refine go2 _ ?_ ?_ ?_)|(refine go2 _ ?_ ?_)|(refine go _ ?_ ?_ ?_)|(refine go _ ?_ ?_)|(with_reducible apply And.intro))
 all_goals first|omega|rfl|trivial|exact absurd (bq7 _) (by assumption)|(exfalso;simp_all;done)|skip
def aNQ:Con:=⟨333,bB0,aJ,[.val ⟨true,bB0,[]⟩],[⟨true,aJ,[0,2]⟩],false,none,
 ((fun x=>bC aJ x<=1048576):(eC)->Prop),
 ((fun x=>x):(eC)->(eC))⟩
def bA5:T:=nC (eT kR 0) <| jB tI aF (cB kR 0) aZ
theorem bPV:Con.Holds Tryz.prog aNQ:=tk ⟨[],[]⟩ bA5 (aC aUC aH) fun(x:eC) hx hp=>by
 dsimp only [aNQ] at hx hp⊢
 have e:bC aJ x=0+(bC aF x.2):=rfl
 have hz:bC aJ x<=1048576:=hp
 delta bA5 aHE;refine dR ?_;try with_reducible exact True.intro
 (repeat' first|intro _|(with_reducible apply And.intro))
 all_goals first|omega|rfl|exact True.intro|skip
def aOK:Con:=⟨327,(.cMV bB0 tI),tI,[.val ⟨true,bB0,[]⟩,.val ⟨false,tI,[]⟩],[⟨false,tI,[0]⟩],false,none,
 ((fun x=>0<=x.2):(eC×Int)->Prop),
 ((fun x=>szR x.2 (bC aJ x.1)):(eC×Int)->(Int))⟩
def bBK:T:=oK 0 kR (xQ jO 1 jO) (iX jO) aZ 2 <| cF 1
theorem bPH:Con.Holds Tryz.prog aOK:=tk ⟨[],[]⟩ bBK (aC aT6 aH) fun(x:eC×Int) hx hp=>by
 dsimp only [aOK] at hx hp⊢
 obtain⟨x,l⟩:=x
 have e:bC aJ x=0+(bC aF x.2):=rfl
 have hl:0<=l:=hp
 have hz:=fun m:Nat=>bY l m
 delta bBK aH2;refine dR ?_
 refine dQ ?_
 have hfin:=bY l (bC aJ x)
 rw[e] at hfin⊢
 generalize bC aF x.2=s1 at *
 clear hz e
 obtain⟨a0,b0⟩|⟨a0,b0⟩:=bY l s1
 rotate_left
 ·rw[b0];(repeat' first|intro _|(with_reducible apply And.intro))<;>first|omega|(refine @Eq.trans Int _ _ _ ?_ rfl;omega)|exact True.intro
 rw[b0]
 generalize hl0:l - (s1:Int)=l0 at *
 (repeat' first|intro _|(with_reducible apply And.intro))
 all_goals first|omega|(refine @Eq.trans Int _ _ _ ?_ rfl;omega)|exact True.intro|skip
def aO7:Con:=⟨337,(.cMV aJ aJ),.bool,[.val ⟨true,aJ,[]⟩,.val ⟨true,aJ,[]⟩],[⟨false,.bool,[0]⟩],false,none,
 ((fun x=>x.1=x.2):(eC×eC)->Prop),
 ((fun _=>true):(eC×eC)->(Bool))⟩
def bAS:T:=dW (dT tI aF aJ aJ) (eI aJ aJ 1) 1 <| eQ 0 aF aF (iP aJ 1 aJ aJ) (fA aJ aJ 2) <| dU 2 3 aJA
theorem bQ3:Con.Holds Tryz.prog aO7:=tk ⟨[],[]⟩ bAS (aC aU4 aH) fun(x:eC×eC) hx hp=>by
 dsimp only [aO7] at hx hp⊢
 obtain⟨a,b⟩:=x
 obtain rfl:a=b:=hp
 delta bAS aHK;refine dR ?_
 (refine dQ ?_;try with_reducible exact True.intro)
 (repeat' first|intro _|(with_reducible apply And.intro))
 all_goals first|rfl|trivial|exact absurd (bq7 _) (by assumption)|(exfalso;simp_all;done)|skip
def aL9:Con:=⟨269,(.slice 335 bB0),aS9,[.val ⟨false,(.slice 335 bB0),[]⟩],[⟨false,aS9,[2]⟩],false,none,
 ((fun x=>bC (.slice 245 aJ) x<=1048576):(List eC)->Prop),
 ((fun x=>x):(List eC)->(List eC))⟩
def aUT:T:=gL 335 jO bJ <| aEP 245 aJ 32 1 <| gW (fM aS) aS bM 335 jO bJ <| oJ aS 3 4 5 (cW 335 jO (.slice 335 jO) bJ aS 3 <| nU 6 <| cW 245 aJ aS (eT aS 3) aS 3 <| sZ 245 aJ (aBL aS aJ) (kM (eT aS 3) (cB aS 3) 7) <| eJ aS 3 0 aS cI cU) (eT aS 3)
theorem bM7:Con.Holds Tryz.prog aL9:=tk ⟨[(2991,1003,iZ 7 5++[.tm 4 0,.sl 1])],[(2983,3006,[20],[])]⟩ aUT (aC bPV aH) fun(x:List eC) hx hp=>by
 dsimp only [aL9] at hx hp⊢
 have hz:bC (.slice 245 aJ) x<=1048576:=hp
 have hpl:List.length x<=1048576:=Nat.le_trans (rT (e:=245) (t:=aJ) x) hz
 have hm:∀k (h:k<List.length x),bC aJ ((x:List (Ty.D aJ))[k])<=1048576:=fun k h=>Nat.le_trans (yJ (e:=245) (t:=aJ) (List.getElem_mem h)) hz
 delta aUT aNQ;refine dR ?_
 refine dQ ?_
 refine fun _=>⟨by unfold repC;exact⟨by omega,by omega,by omega⟩,fun _=>eY (fun k=>((k:Int),List.take k x++List.replicate (List.length x - k) (aK aJ))) (List.length x) rfl fun I μ k hk _ go=>?_⟩
 try dsimp only
 refine dQ ?_
 have hl:(List.take k x).length+(List.replicate (List.length x - k) (aK aJ)).length=List.length x:=by rw[List.length_take,List.length_replicate];omega
 refine fun _=>⟨fun hlt=>?_,fun hge=>?_⟩
 ·have hk':k<List.length x:=by omega
  have hm':=hm k hk'
  rw[aP hk']
  (repeat' first|intro _|(refine go2 _ ?_ ?_ ?_)|(refine go2 _ ?_ ?_)|(refine go _ ?_ ?_ ?_)|(refine go _ ?_ ?_)|(with_reducible apply And.intro))
  all_goals first|omega|exact hm'|exact pk (aFJ hk')|skip
 ·have:k=List.length x:=by omega
  subst this
  rw[Nat.sub_self,List.replicate_zero,List.append_nil,List.take_length]
def aLW:Con:=⟨259,(.cMV (.slice 335 bB0) tI),tI,[.val ⟨false,(.slice 335 bB0),[]⟩,.val ⟨false,tI,[]⟩],[⟨false,tI,[0]⟩],false,none,
 ((fun x=>0<=x.2):((List eC)×Int)->Prop),
 ((fun x=>szR x.2 (bC (.slice 245 aJ) x.1)):((List eC)×Int)->(Int))⟩
def aW4:T:=gL 335 jO (fQ (.slice 335 jO)) <| lR mY (iX (.slice 335 jO)) 1 <| aGJ bM 3 <| gW aU tI bM 335 jO (fQ (.slice 335 jO)) <| gB nZ 5 6 (bZ 335 jO (.slice 335 jO) (fQ (.slice 335 jO)) nZ <| oK 0 jO cY qZ cM 9 <| aCX nZ 0 tI cI cM) qZ
theorem bNG:Con.Holds Tryz.prog aLW:=tk ⟨[(2986,2004,iZ 11 6++[.tm 5 0,.tm 1 0])],[]⟩ aW4 (aC bPH aH) fun(x:(List eC)×Int) hx hp=>by
 dsimp only [aLW] at hx hp⊢
 obtain⟨x,l⟩:=x
 have hl:0<=l:=hp
 have e:bC (.slice 245 aJ) x=List.length x+((x:List (Ty.D aJ)).map (bC aJ)).sum:=rfl
 have hm:=rS (show List.length x<=maxLen from hx.1.1)
 have hx2:l<=9223372036854775807:=hx.2.2
 have hfin:=bY l (bC (.slice 245 aJ) x)
 have hs:=fun k=>aUA (bC aJ) (x:List (Ty.D aJ)) k
 delta aW4 aOK;refine dR ?_
 refine dQ ?_
 rw[e] at hfin⊢
 (repeat' first|intro _|(with_reducible apply And.intro))
 all_goals first|omega|(refine @Eq.trans Int _ _ _ ?_ rfl;omega)|skip
 refine aC6 (fun k=>((k:Int),l - (List.length x:Int) - (((List.take k x).map (bC aJ)).sum:Nat))) (fun k=>((List.length x+((List.take k x).map (bC aJ)).sum:Nat):Int)<=l) (List.length x) (Prod.ext rfl (by show _=_ - ((0:Nat):Int);omega)) (by show((List.length x+0:Nat):Int)<=l;omega) fun I μ k hk hG _ go=>?_
 try dsimp only
 refine dQ ?_
 have hsk:=hs k
 by_cases hk':k<List.length x
 ·rw[aP hk']
  have en:((List.take (k+1) x).map (bC aJ)).sum=((List.take k x).map (bC aJ)).sum+bC aJ ((x:List (Ty.D aJ))[k]):=gN (bC aJ) x k hk'
  have B0:=hs (k+1)
  have hc:=bY (l - (List.length x:Int) - (((List.take k x).map (bC aJ)).sum:Nat)) (bC aJ ((x:List (Ty.D aJ))[k]))
  rw[en] at B0 go
  clear en hs e
  generalize bC aJ ((x:List (Ty.D aJ))[k])=s at *
  generalize ((List.take k x).map (bC aJ)).sum=q at *
  generalize ((x:List (Ty.D aJ)).map (bC aJ)).sum=tot at *
  generalize szR (l - (List.length x:Int) - (q:Nat)) s=z at *
  (repeat' first|intro _|(refine go _ ?_ ?_ ?_)|(refine go _ ?_ ?_)|(with_reducible apply And.intro))
  all_goals first|omega|(show((k:Int)+1,z)=(((k+1:Nat):Int),l - (List.length x:Int) - ((q+s:Nat):Int));exact pk7 (by omega) (by omega))|(refine @Eq.trans Int _ _ _ ?_ rfl;omega)|skip
 ·have:k=List.length x:=by omega
  subst this
  rw[List.take_length] at *
  (repeat' first|intro _|(refine go _ ?_ ?_ ?_)|(refine go _ ?_ ?_)|(with_reducible apply And.intro))
  all_goals first|omega|(refine @Eq.trans Int _ _ _ ?_ rfl;omega)|skip
def aLX:Con:=⟨274,(.cMV aS9 aS9),.bool,[.val ⟨false,aS9,[]⟩,.val ⟨false,aS9,[]⟩],[⟨false,.bool,[0]⟩],false,none,
 ((fun x=>x.1=x.2):((List eC)×(List eC))->Prop),
 ((fun _=>true):((List eC)×(List eC))->(Bool))⟩
def aUO:T:=aBT aJ (bS aS aS) <| aBT aJ (kE aS aS) <| dW aZ bM 3 <| jY 245 aJ (bS aS aS) <| gB dY 5 6 (nS aJ aS (bS aS aS) 4 <| nS aJ aS (kE aS aS) 4 <| eQ 0 aJ aJ cY cM <| tL 9 10 dY 0 cO) bD
theorem bO3:Con.Holds Tryz.prog aLX:=tk ⟨[(2988,2004,iZ 10 6++[.tm 5 0])],[]⟩ aUO (aC bQ3 aH) fun(x:(List eC)×(List eC)) hx hp=>by
 dsimp only [aLX] at hx hp⊢
 obtain⟨a,b⟩:=x
 obtain rfl:a=b:=hp
 have hl:=rS (show List.length a<=maxLen from hx.1.1)
 delta aUO aO7;refine dR ?_
 refine dQ ?_
 refine fun _ _=>⟨fun h=>absurd trivial h,fun _=>eY (fun k=>(k:Int)) (List.length a) rfl fun I μ k hk _ go=>?_⟩
 try dsimp only
 refine dQ ?_
 refine fun _=>⟨fun hlt=>?_,fun hge=>trivial⟩
 have hk':k<List.length a:=by omega
 (repeat' first|intro _|(refine go2 _ ?_ ?_ ?_)|(refine go2 _ ?_ ?_)|(refine go _ ?_ ?_ ?_)|(refine go _ ?_ ?_)|(with_reducible apply And.intro))
 all_goals first|omega|rfl|trivial|exact absurd (bq7 _) (by assumption)|(exfalso;simp_all;done)|skip
end
set_option maxRecDepth 100000
noncomputable def aPL:Con:=⟨271,(.cMV aV7 aB4),aT,[.val ⟨true,(.cMV aV7 aB4),[]⟩],[⟨true,aT,[2,0,0]⟩],false,none,
 ((fun x=>bC aT x<=1048576):(gI)->Prop),
 ((fun x=>x):(gI)->(gI))⟩
def bB2:T:=nC (oY kR tI 0) <| jB aF iO aZ (mW bEJ 0)
theorem bQH:Con.Holds Tryz.prog aPL:=tk ⟨[],[]⟩ bB2 (aC aUC aH) fun(x:gI) hx hp=>by
 dsimp only [aPL] at hx hp⊢
 have e:bC aT x=bC aF x.1+(0+(0)):=rfl
 have hz:bC aT x<=1048576:=hp
 delta bB2 aHE;refine dR ?_;try with_reducible exact True.intro
 (repeat' first|intro _|(with_reducible apply And.intro))
 all_goals first|omega|rfl|exact True.intro|skip
noncomputable def aQ5:Con:=⟨261,(.cMV (.cMV aV7 aB4) tI),tI,[.val ⟨true,(.cMV aV7 aB4),[]⟩,.val ⟨false,tI,[]⟩],[⟨false,tI,[0]⟩],false,none,
 ((fun x=>0<=x.2):(gI×Int)->Prop),
 ((fun x=>szR x.2 (bC aT x.1)):(gI×Int)->(Int))⟩
def bBG:T:=oK 0 kR (aB7 kR iO bEJ) (iX bEJ) aZ 2 <| cF 1
theorem bS1:Con.Holds Tryz.prog aQ5:=tk ⟨[],[]⟩ bBG (aC aT6 aH) fun(x:gI×Int) hx hp=>by
 dsimp only [aQ5] at hx hp⊢
 obtain⟨x,l⟩:=x
 have e:bC aT x=bC aF x.1+(0+(0)):=rfl
 have hl:0<=l:=hp
 have hz:=fun m:Nat=>bY l m
 delta bBG aH2;refine dR ?_
 refine dQ ?_
 have hfin:=bY l (bC aT x)
 rw[e] at hfin⊢
 generalize bC aF x.1=s0 at *
 clear hz e
 obtain⟨a0,b0⟩|⟨a0,b0⟩:=bY l s0
 rotate_left
 ·rw[b0];(repeat' first|intro _|(with_reducible apply And.intro))<;>first|omega|(refine @Eq.trans Int _ _ _ ?_ rfl;omega)|exact True.intro
 rw[b0]
 generalize hl0:l - (s0:Int)=l0 at *
 (repeat' first|intro _|(with_reducible apply And.intro))
 all_goals first|omega|(refine @Eq.trans Int _ _ _ ?_ rfl;omega)|exact True.intro|skip
noncomputable def aPN:Con:=⟨69,(.cMV aT aT),.bool,[.val ⟨true,aT,[]⟩,.val ⟨true,aT,[]⟩],[⟨false,.bool,[0]⟩],false,none,
 ((fun x=>x.1=x.2):(gI×gI)->Prop),
 ((fun _=>true):(gI×gI)->(Bool))⟩
def aZU:T:=eQ 0 aF aF (dT aF iO aT aT) (eI aT aT 1) <| dU 1 2 <| dW (eV aT 1 aT aT) (eI aT aT 2) 3 <| jM (aMO true) .bool .bool (iP aT 2 aT aT) (fA aT aT 3) <| sY 4 aX aJA
theorem bQB:Con.Holds Tryz.prog aPN:=tk ⟨[],[]⟩ aZU (aC aU4 aH) fun(x:gI×gI) hx hp=>by
 dsimp only [aPN] at hx hp⊢
 obtain⟨a,b⟩:=x
 obtain rfl:a=b:=hp
 delta aZU aHK;refine dR ?_
 (refine dQ ?_;try with_reducible exact True.intro)
 (repeat' first|intro _|(with_reducible apply And.intro))
 all_goals first|rfl|trivial|exact absurd (bq7 _) (by assumption)|(exfalso;simp_all;done)|skip
noncomputable section
set_option maxRecDepth 100000
def aO3:Con:=⟨173,aVM,aB,[.val ⟨true,aVM,[]⟩],[⟨true,aB,[0,2,2,0,0,2,2,2,2,2,2,2,0,0]⟩],false,none,
 ((fun x=>bC aB x<=1048576):(aR)->Prop),
 ((fun x=>x):(aR)->(aR))⟩
def bBE:T:=nC (cL (uA aU bK jO kR tW) 1 0) <| eK 1 (cL (uA aU bK jO kR tW) 2 0) 2 (cL (uA aU bK jO kR tW) 5 0) <| eK 3 (cL (uA aU bK jO kR tW) 6 0) 4 (cL (uA aU bK jO kR tW) 7 0) <| eK 4 (cL (uA aU bK jO kR tW) 8 0) 4 (cL (uA aU bK jO kR tW) 9 0) <| eK 4 (cL (uA aU bK jO kR tW) 10 0) 5 (fY (uA aU bK jO kR tW) 11 0) <| fB [cB (uA aU bK jO kR tW) 0,aZ,bM,cL (uA aU bK jO kR tW) 3 0,cL (uA aU bK jO kR tW) 4 0,eG,dY,fF,cQ,cY,cM,cU]
set_option maxHeartbeats 4000000 in
theorem bRA:Con.Holds Tryz.prog aO3:=tk ⟨[],[]⟩ bBE (aC bUL (aC bZ6 (aC bM7 (aC aUC (aC aGO (aC bQH aH)))))) fun(x:aR) hx hp=>by
 dsimp only [aO3] at hx hp⊢
 have e:bC aB x=0+(bC bI x.2.1+(bC aG x.2.2.1+(0+(0+(bC (.slice 245 aJ) x.2.2.2.2.2.1+(bC aF x.2.2.2.2.2.2.1+(bC aA x.2.2.2.2.2.2.2.1+(bC aA x.2.2.2.2.2.2.2.2.1+(bC aA x.2.2.2.2.2.2.2.2.2.1+(bC aA x.2.2.2.2.2.2.2.2.2.2.1+(bC aT x.2.2.2.2.2.2.2.2.2.2.2))))))))))):=rfl
 have hz:bC aB x<=1048576:=hp
 delta bBE aT0 aZD aL9 aHE aAK aPL;refine dR ?_;try with_reducible exact True.intro
 (repeat' first|intro _|(with_reducible apply And.intro))
 all_goals first|omega|rfl|exact True.intro|skip
def aOD:Con:=⟨168,(.cMV aVM tI),tI,[.val ⟨true,aVM,[]⟩,.val ⟨false,tI,[]⟩],[⟨false,tI,[0]⟩],false,none,
 ((fun x=>0<=x.2):(aR×Int)->Prop),
 ((fun x=>szR x.2 (bC aB x.1)):(aR×Int)->(Int))⟩
def bBB:T:=oK 0 (.slice 344 aU) (gS iY 1 iY 0) (iX iY) aZ 2 <| oK 1 (.slice 329 bK) (gS iY 2 iY 0) aZ eG 4 <| oK 2 (.slice 335 jO) (gS iY 5 iY 0) eG fF 6 <| oK 3 kR (gS iY 6 iY 0) fF cY 8 <| oK 4 aA (gS iY 7 iY 0) cY cU 10 <| oK 4 aA (gS iY 8 iY 0) cU cO 12 <| oK 4 aA (gS iY 9 iY 0) cO eM 14 <| oK 4 aA (gS iY 10 iY 0) eM fC 16 <| oK 5 bEJ (xQ iY 11 iY) fC iR 18 <| cF 17
set_option maxHeartbeats 4000000 in
theorem bQS:Con.Holds Tryz.prog aOD:=tk ⟨[],[]⟩ bBB (aC bW3 (aC cA5 (aC bNG (aC aT6 (aC aH1 (aC bS1 aH)))))) fun(x:aR×Int) hx hp=>by
 dsimp only [aOD] at hx hp⊢
 obtain⟨x,l⟩:=x
 have e:bC aB x=0+(bC bI x.2.1+(bC aG x.2.2.1+(0+(0+(bC (.slice 245 aJ) x.2.2.2.2.2.1+(bC aF x.2.2.2.2.2.2.1+(bC aA x.2.2.2.2.2.2.2.1+(bC aA x.2.2.2.2.2.2.2.2.1+(bC aA x.2.2.2.2.2.2.2.2.2.1+(bC aA x.2.2.2.2.2.2.2.2.2.2.1+(bC aT x.2.2.2.2.2.2.2.2.2.2.2))))))))))):=rfl
 have hl:0<=l:=hp
 have hz:=fun m:Nat=>bY l m
 delta bBB aUL aZ6 aLW aH2 aA4 aQ5;refine dR ?_
 refine dQ ?_
 have hfin:=bY l (bC aB x)
 rw[e] at hfin⊢
 generalize bC bI x.2.1=s1 at *
 generalize bC aG x.2.2.1=s2 at *
 generalize bC (.slice 245 aJ) x.2.2.2.2.2.1=s5 at *
 generalize bC aF x.2.2.2.2.2.2.1=s6 at *
 generalize bC aA x.2.2.2.2.2.2.2.1=s7 at *
 generalize bC aA x.2.2.2.2.2.2.2.2.1=s8 at *
 generalize bC aA x.2.2.2.2.2.2.2.2.2.1=s9 at *
 generalize bC aA x.2.2.2.2.2.2.2.2.2.2.1=s10 at *
 generalize bC aT x.2.2.2.2.2.2.2.2.2.2.2=s11 at *
 clear hz e
 obtain⟨a0,b0⟩|⟨a0,b0⟩:=bY l s1
 rotate_left
 ·rw[b0];(repeat' first|intro _|(with_reducible apply And.intro))<;>first|omega|(refine @Eq.trans Int _ _ _ ?_ rfl;omega)|exact True.intro
 rw[b0]
 generalize hl0:l - (s1:Int)=l0 at *
 obtain⟨a1,b1⟩|⟨a1,b1⟩:=bY l0 s2
 rotate_left
 ·rw[b1];(repeat' first|intro _|(with_reducible apply And.intro))<;>first|omega|(refine @Eq.trans Int _ _ _ ?_ rfl;omega)|exact True.intro
 rw[b1]
 generalize A0:l0 - (s2:Int)=l1 at *
 obtain⟨a2,b2⟩|⟨a2,b2⟩:=bY l1 s5
 rotate_left
 ·rw[b2];(repeat' first|intro _|(with_reducible apply And.intro))<;>first|omega|(refine @Eq.trans Int _ _ _ ?_ rfl;omega)|exact True.intro
 rw[b2]
 generalize hl2:l1 - (s5:Int)=l2 at *
 obtain⟨a3,b3⟩|⟨a3,b3⟩:=bY l2 s6
 rotate_left
 ·rw[b3];(repeat' first|intro _|(with_reducible apply And.intro))<;>first|omega|(refine @Eq.trans Int _ _ _ ?_ rfl;omega)|exact True.intro
 rw[b3]
 generalize Cl:l2 - (s6:Int)=l3 at *
 obtain⟨a4,b4⟩|⟨a4,b4⟩:=bY l3 s7
 rotate_left
 ·rw[b4];(repeat' first|intro _|(with_reducible apply And.intro))<;>first|omega|(refine @Eq.trans Int _ _ _ ?_ rfl;omega)|exact True.intro
 rw[b4]
 generalize hl4:l3 - (s7:Int)=l4 at *
 obtain⟨a5,b5⟩|⟨a5,b5⟩:=bY l4 s8
 rotate_left
 ·rw[b5];(repeat' first|intro _|(with_reducible apply And.intro))<;>first|omega|(refine @Eq.trans Int _ _ _ ?_ rfl;omega)|exact True.intro
 rw[b5]
 generalize hl5:l4 - (s8:Int)=l5 at *
 obtain⟨a6,b6⟩|⟨a6,b6⟩:=bY l5 s9
 rotate_left
 ·rw[b6];(repeat' first|intro _|(with_reducible apply And.intro))<;>first|omega|(refine @Eq.trans Int _ _ _ ?_ rfl;omega)|exact True.intro
 rw[b6]
 generalize L5:l5 - (s9:Int)=l6 at *
 obtain⟨a7,b7⟩|⟨a7,b7⟩:=bY l6 s10
 rotate_left
 ·rw[b7];(repeat' first|intro _|(with_reducible apply And.intro))<;>first|omega|(refine @Eq.trans Int _ _ _ ?_ rfl;omega)|exact True.intro
 rw[b7]
 generalize hl7:l6 - (s10:Int)=l7 at *
 obtain⟨a8,b8⟩|⟨a8,b8⟩:=bY l7 s11
 rotate_left
 ·rw[b8];(repeat' first|intro _|(with_reducible apply And.intro))<;>first|omega|(refine @Eq.trans Int _ _ _ ?_ rfl;omega)|exact True.intro
 rw[b8]
 generalize hl8:l7 - (s11:Int)=l8 at *
 (repeat' first|intro _|(with_reducible apply And.intro))
 all_goals first|omega|(refine @Eq.trans Int _ _ _ ?_ rfl;omega)|exact True.intro|skip
def aOW:Con:=⟨178,(.cMV aB aB),.bool,[.val ⟨true,aB,[]⟩,.val ⟨true,aB,[]⟩],[⟨false,.bool,[0]⟩],false,none,
 ((fun x=>x.1=x.2):(aR×aR)->Prop),
 ((fun _=>true):(aR×aR)->(Bool))⟩
def bBI:T:=dW (dT tI bZR aB aB) (pG 1) 1 <| eQ 0 bI bI (oN 1) (pG 2) <| dU 2 3 <| eQ 1 aG aG (oN 2) (pG 3) <| dU 4 5 <| jM (aMO true) .bool .bool (oN 3) (pG 4) <| sY 6 aX <| jM (aMO true) .bool .bool (oN 4) (pG 5) <| sY 7 aX <| eQ 2 aS aS (oN 5) (pG 6) <| dU 8 9 <| eQ 3 aF aF (oN 6) (pG 7) <| dU 10 11 <| fN 4 (oN 7) (pG 8) <| dU 12 13 <| fN 4 (oN 8) (pG 9) <| dU 14 15 <| fN 4 (oN 9) (pG 10) <| dU 16 17 <| fN 4 (oN 10) (pG 11) <| dU 18 19 <| eQ 5 aT aT (iP aB 11 aB aB) (fA aB aB 12) <| dU 20 21 aJA
set_option maxHeartbeats 4000000 in
theorem bQX:Con.Holds Tryz.prog aOW:=tk ⟨[],[]⟩ bBI (aC bUK (aC cA2 (aC bO3 (aC aU4 (aC aHD (aC bQB aH)))))) fun(x:aR×aR) hx hp=>by
 dsimp only [aOW] at hx hp⊢
 obtain⟨a,b⟩:=x
 obtain rfl:a=b:=hp
 delta bBI aT7 aZ2 aLX aHK aA3 aPN;refine dR ?_
 (refine dQ ?_;try with_reducible exact True.intro)
 (repeat' first|intro _|(with_reducible apply And.intro))
 all_goals first|rfl|trivial|exact absurd (bq7 _) (by assumption)|(exfalso;simp_all;done)|skip
def aMQ:Con:=⟨79,(.slice 224 aVM),(.slice 142 aB),[.val ⟨false,(.slice 224 aVM),[]⟩],[⟨false,(.slice 142 aB),[2]⟩],false,none,
 ((fun x=>bC (.slice 142 aB) x<=1048576):(List aR)->Prop),
 ((fun x=>x):(List aR)->(List aR))⟩
def aW1:T:=gL 224 iY bJ <| aEP 142 aB 248 1 <| gW (fM bV) bV bM 224 iY bJ <| oJ bV 3 4 5 (cW 224 iY (aNW 224 (uA aU bK jO kR tW)) bJ bV 3 <| nU 6 <| cW 142 aB bV (eT bV 3) bV 3 <| qF aB tI aB (kM (eT bV 3) (cB bV 3) 7) <| eJ bV 3 0 bV cI cU) (eT bV 3)
set_option maxHeartbeats 4000000 in
theorem bNQ:Con.Holds Tryz.prog aMQ:=tk ⟨[(2991,1003,iZ 7 5++[.tm 4 0,.sl 1])],[(2983,3006,[20],[])]⟩ aW1 (aC bRA aH) fun(x:List aR) hx hp=>by
 dsimp only [aMQ] at hx hp⊢
 have hz:bC (.slice 142 aB) x<=1048576:=hp
 have hpl:List.length x<=1048576:=Nat.le_trans (rT (e:=142) (t:=aB) x) hz
 have hm:∀k (h:k<List.length x),bC aB ((x:List (Ty.D aB))[k])<=1048576:=fun k h=>Nat.le_trans (yJ (e:=142) (t:=aB) (List.getElem_mem h)) hz
 delta aW1 aO3;refine dR ?_
 refine dQ ?_
 refine fun _=>⟨by unfold repC;exact⟨by omega,by omega,by omega⟩,fun _=>eY (fun k=>((k:Int),List.take k x++List.replicate (List.length x - k) (aK aB))) (List.length x) rfl fun I μ k hk _ go=>?_⟩
 try dsimp only
 refine dQ ?_
 have hl:(List.take k x).length+(List.replicate (List.length x - k) (aK aB)).length=List.length x:=by rw[List.length_take,List.length_replicate];omega
 refine fun _=>⟨fun hlt=>?_,fun hge=>?_⟩
 ·have hk':k<List.length x:=by omega
  have hm':=hm k hk'
  rw[aP hk']
  (repeat' first|intro _|(refine go2 _ ?_ ?_ ?_)|(refine go2 _ ?_ ?_)|(refine go _ ?_ ?_ ?_)|(refine go _ ?_ ?_)|(with_reducible apply And.intro))
  all_goals first|omega|exact hm'|exact pk (aFJ hk')|skip
 ·have:k=List.length x:=by omega
  subst this
  rw[Nat.sub_self,List.replicate_zero,List.append_nil,List.take_length]
def aM2:Con:=⟨74,(.cMV (.slice 224 aVM) tI),tI,[.val ⟨false,(.slice 224 aVM),[]⟩,.val ⟨false,tI,[]⟩],[⟨false,tI,[0]⟩],false,none,
 ((fun x=>0<=x.2):((List aR)×Int)->Prop),
 ((fun x=>szR x.2 (bC (.slice 142 aB) x.1)):((List aR)×Int)->(Int))⟩
def aWV:T:=gL 224 iY (fQ (aNW 224 (uA aU bK jO kR tW))) <| lR mY (iX (aNW 224 (uA aU bK jO kR tW))) 1 <| aGJ bM 3 <| gW aU tI bM 224 iY (fQ (aNW 224 (uA aU bK jO kR tW))) <| gB nZ 5 6 (bZ 224 iY (aNW 224 (uA aU bK jO kR tW)) (fQ (aNW 224 (uA aU bK jO kR tW))) nZ <| oK 0 iY cY qZ cM 9 <| aCX nZ 0 tI cI cM) qZ
set_option maxHeartbeats 4000000 in
theorem bOC:Con.Holds Tryz.prog aM2:=tk ⟨[(2986,2004,iZ 11 6++[.tm 5 0,.tm 1 0])],[]⟩ aWV (aC bQS aH) fun(x:(List aR)×Int) hx hp=>by
 dsimp only [aM2] at hx hp⊢
 obtain⟨x,l⟩:=x
 have hl:0<=l:=hp
 have e:bC (.slice 142 aB) x=List.length x+((x:List (Ty.D aB)).map (bC aB)).sum:=rfl
 have hm:=rS (show List.length x<=maxLen from hx.1.1)
 have hx2:l<=9223372036854775807:=hx.2.2
 have hfin:=bY l (bC (.slice 142 aB) x)
 have hs:=fun k=>aUA (bC aB) (x:List (Ty.D aB)) k
 delta aWV aOD;refine dR ?_
 refine dQ ?_
 rw[e] at hfin⊢
 (repeat' first|intro _|(with_reducible apply And.intro))
 all_goals first|omega|(refine @Eq.trans Int _ _ _ ?_ rfl;omega)|skip
 refine aC6 (fun k=>((k:Int),l - (List.length x:Int) - (((List.take k x).map (bC aB)).sum:Nat))) (fun k=>((List.length x+((List.take k x).map (bC aB)).sum:Nat):Int)<=l) (List.length x) (Prod.ext rfl (by show _=_ - ((0:Nat):Int);omega)) (by show((List.length x+0:Nat):Int)<=l;omega) fun I μ k hk hG _ go=>?_
 try dsimp only
 refine dQ ?_
 have hsk:=hs k
 by_cases hk':k<List.length x
 ·rw[aP hk']
  have en:((List.take (k+1) x).map (bC aB)).sum=((List.take k x).map (bC aB)).sum+bC aB ((x:List (Ty.D aB))[k]):=gN (bC aB) x k hk'
  have B0:=hs (k+1)
  have hc:=bY (l - (List.length x:Int) - (((List.take k x).map (bC aB)).sum:Nat)) (bC aB ((x:List (Ty.D aB))[k]))
  rw[en] at B0 go
  clear en hs e
  generalize bC aB ((x:List (Ty.D aB))[k])=s at *
  generalize ((List.take k x).map (bC aB)).sum=q at *
  generalize ((x:List (Ty.D aB)).map (bC aB)).sum=tot at *
  generalize szR (l - (List.length x:Int) - (q:Nat)) s=z at *
  (repeat' first|intro _|(refine go _ ?_ ?_ ?_)|(refine go _ ?_ ?_)|(with_reducible apply And.intro))
  all_goals first|omega|(show((k:Int)+1,z)=(((k+1:Nat):Int),l - (List.length x:Int) - ((q+s:Nat):Int));exact pk7 (by omega) (by omega))|(refine @Eq.trans Int _ _ _ ?_ rfl;omega)|skip
 ·have:k=List.length x:=by omega
  subst this
  rw[List.take_length] at *
  (repeat' first|intro _|(refine go _ ?_ ?_ ?_)|(refine go _ ?_ ?_)|(with_reducible apply And.intro))
  all_goals first|omega|(refine @Eq.trans Int _ _ _ ?_ rfl;omega)|skip
def aL5:Con:=⟨84,(.cMV (.slice 142 aB) (.slice 142 aB)),.bool,[.val ⟨false,(.slice 142 aB),[]⟩,.val ⟨false,(.slice 142 aB),[]⟩],[⟨false,.bool,[0]⟩],false,none,
 ((fun x=>x.1=x.2):((List aR)×(List aR))->Prop),
 ((fun _=>true):((List aR)×(List aR))->(Bool))⟩
def aUU:T:=tN aB (bS bV bV) <| tN aB (kE bV bV) <| dW aZ bM 3 <| jY 142 aB (bS bV bV) <| gB dY 5 6 (cH 142 aB bV (bS bV bV) 4 <| cH 142 aB bV (kE bV bV) 4 <| eQ 0 aB aB cY cM <| tL 9 10 dY 0 cO) bD
set_option maxHeartbeats 4000000 in
theorem bME:Con.Holds Tryz.prog aL5:=tk ⟨[(2988,2004,iZ 10 6++[.tm 5 0])],[]⟩ aUU (aC bQX aH) fun(x:(List aR)×(List aR)) hx hp=>by
 dsimp only [aL5] at hx hp⊢
 obtain⟨a,b⟩:=x
 obtain rfl:a=b:=hp
 have hl:=rS (show List.length a<=maxLen from hx.1.1)
 delta aUU aOW;refine dR ?_
 refine dQ ?_
 refine fun _ _=>⟨fun h=>absurd trivial h,fun _=>eY (fun k=>(k:Int)) (List.length a) rfl fun I μ k hk _ go=>?_⟩
 try dsimp only
 refine dQ ?_
 refine fun _=>⟨fun hlt=>?_,fun hge=>trivial⟩
 have hk':k<List.length a:=by omega
 (repeat' first|intro _|(refine go2 _ ?_ ?_ ?_)|(refine go2 _ ?_ ?_)|(refine go _ ?_ ?_ ?_)|(refine go _ ?_ ?_)|(with_reducible apply And.intro))
 all_goals first|omega|rfl|trivial|exact absurd (bq7 _) (by assumption)|(exfalso;simp_all;done)|skip
end
end Go.Proofs.YtfmfeplebgbpmaaGreat
