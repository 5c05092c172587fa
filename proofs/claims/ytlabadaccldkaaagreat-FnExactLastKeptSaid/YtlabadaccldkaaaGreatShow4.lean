/- Show4: lemmas. No conditions. -/
import Derived.Test.YtlabadaccldkaaaGreatPipe4
import Derived.Test.YtlabadaccldkaaaGreatShow3
namespace Go.Proofs.YtlabadaccldkaaaGreat
noncomputable section
set_option maxRecDepth 100000
open Go.ChangeShapes Go.WideShapes Go.ChangeAt Go.RowKit Go.Deep
set_option linter.unusedVariables false
set_option linter.unusedSimpArgs false
theorem aOL {B:Nat} (s:ByteArray):(l:List ByteArray)→(∀ p∈l,p.size≤B)→(cK s l).size≤s.size+B * l.length
 | [],_=>Nat.le_refl _
 | x :: l,h=>by
  have h1:=aOL (s++x) l (fun p hp=>h p (List.mem_cons_of_mem _ hp))
  have h2:=h x List.mem_cons_self
  rw[cA] at h1
  show (cK (s++x) l).size≤_
  rw[List.length_cons,Nat.mul_succ];omega
theorem aE4 {B:Nat} (w:WrD):(l:List ByteArray)→(∀ p∈l,p.size≤B)→(bN w l).1.length≤w.1.length+B * l.length
 | [],_=>Nat.le_refl _
 | x :: l,h=>by
  have h1:=aE4 (jM w x) l (fun p hp=>h p (List.mem_cons_of_mem _ hp))
  have h2:=h x List.mem_cons_self
  have h3:(jM w x).1.length=w.1.length+x.size:=by unfold jM;rw[List.length_append,wY]
  show (bN (jM w x) l).1.length≤_
  rw[List.length_cons,Nat.mul_succ];omega
theorem qE (s:bA):(dF s).size≤400000:=by
 unfold dF
 split
 ·rename_i h
  obtain ⟨hl,_⟩:=h
  have hm:=(cB _).1 ((dA s).1 hl.1).1
  have hg:=((jU _ _).1 ((dA s).1 hl.1).2.2.1).1
  have hkp:=yH hl.1
  obtain ⟨_,h2,h3,h4⟩:=hl
  have hz:szP (dB s):=by
   unfold dB uR
   exact rQ (cR (aW _) iC) (rQ (iS _ aIH) (rQ (iS _ aNM) (rQ (iS _ aHB) (rQ (kV _) (rQ (cR (aW _) (cR (aW _) (cR (aW _) (cR (aW _) iC)))) (kV _))))))
  have h5:=fX ⟨#[]⟩ (dB s) hz
  have l1:=fL mA 1 s.2.1 (fun _ _=>Nat.le_refl _)
  have l2:=fL xF 2 s.2.2.1 (fun _ _=>Nat.le_refl _)
  have l3:=fL jL 11 s.2.2.2.2.2.1 (fun a ha=>by have:=hkp a ha;unfold jL;rw[List.length_cons,jC];omega)
  have hn:(dB s).length≤220:=by
   unfold dB uR
   simp only[List.length_append,jC,List.length_cons,List.length_nil]
   omega
  rw[show (⟨#[]⟩:ByteArray).size=0 from rfl] at h5
  omega
 ·exact Nat.zero_le _
def itP (x:kP):List ByteArray:=[cC [x.1],cC x.2]
def eX (q:bK):List ByteArray:=cC [q.1,q.2.length] :: q.2.flatMap itP
def gK (x:lA):List ByteArray:=[cC x.1,cC x.2]
theorem aMK (x:kP):szP (itP x):=cR (aW _) (cR (aW _) iC)
theorem aK5 (x:lA):szP (gK x):=cR (aW _) (cR (aW _) iC)
theorem qZ (q:bK):szP (eX q):=cR (aW _) (iS _ aMK)
theorem kA (q:bK):(eX q).length≤2 * q.2.length+1:=by
 have:=fL itP 2 q.2 (fun _ _=>Nat.le_refl _)
 unfold eX;rw[List.length_cons];omega
def qsP (a b:List bK) (i:Nat):List ByteArray:=eX (a.getD i (aV aE))++eX (b.getD i (aV aE))
theorem aTM (a b:List bK) (i:Nat):szP (qsP a b i):=rQ (qZ _) (qZ _)
def stP (s:bA):List ByteArray:=[dF s]
def lO (p:dH):List ByteArray:=[cC [(p.1.length:Int),(p.2.1.length:Int)]]++(p.1.flatMap gK++(p.2.1.flatMap stP++(List.range p.2.2.1.length).flatMap (qsP p.2.2.1 p.2.2.2)))
def jQ (p:dH):ByteArray:=if nB p=true∧(p.2.1.all fun s=>!isE (dF s))=true∧(cK ⟨#[]⟩ (lO p)).size≤60000 then cK ⟨#[]⟩ (lO p) else ⟨#[]⟩
theorem aKH {p:dH} (h:¬ nB p=true):(⟨#[]⟩:ByteArray)=jQ p:=by unfold jQ;rw[if_neg (fun hh=>h hh.1)]
theorem aFR {p:dH} (h:60000<(cK ⟨#[]⟩ (lO p)).size):(⟨#[]⟩:ByteArray)=jQ p:=by unfold jQ;rw[if_neg (fun hh=>by omega)]
theorem aPQ {p:dH} {i:Nat} (hi:i<p.2.1.length) (h:dF (p.2.1.getD i (aV aB))=⟨#[]⟩):(⟨#[]⟩:ByteArray)=jQ p:=by
 unfold jQ
 rw[if_neg (fun hh=>?_)]
 have h1:=List.all_eq_true.1 hh.2.1 _ (List.getElem_mem hi)
 rw[bG hi] at h
 unfold isE at h1
 rw[h] at h1
 exact absurd h1 (by decide)
theorem oC {v:List Int} (h:pP v=true):gV v=true:=by
 have h1:=(tJ v).1 h
 unfold gV
 rw[Bool.and_eq_true,decide_eq_true_eq,List.all_eq_true]
 refine ⟨by omega,fun x hx=>?_⟩
 have h2:=(aIT x).1 (List.all_eq_true.1 h1.2.2 x hx)
 unfold gG;rw[decide_eq_true_eq];omega
theorem aV3 {a:Int} (h:0≤a∧a≤1000):gV [a]=true:=by
 unfold gV;simp only[List.all_cons,List.all_nil,gG,List.length_cons,List.length_nil,Bool.and_true,Bool.and_eq_true,decide_eq_true_eq];omega
theorem aOH {a b:Int} (h:0≤a∧a≤1000) (h2:0≤b∧b≤1000):gV [a,b]=true:=by
 unfold gV;simp only[List.all_cons,List.all_nil,gG,List.length_cons,List.length_nil,Bool.and_true,Bool.and_eq_true,decide_eq_true_eq];omega
theorem aHW {α:Type} {f:α→Bool}:(l:List α)→(∀ a∈l,f a=false)→l.any f=false
 | [],_=>rfl
 | x :: l,h=>by rw[List.any_cons,h x List.mem_cons_self,aHW l fun a ha=>h a (List.mem_cons_of_mem _ ha)];rfl
theorem aCE {q:bK} (h:gM q=true):(eX q).any isE=false:=by
 have h1:=hY.1 h
 unfold eX
 rw[List.any_cons,kW,aOH (by omega) (by omega),aHA]
 refine aHW _ fun a ha=>?_
 obtain ⟨i,hi,rfl⟩:=List.getElem_of_mem ha
 have h2:=(lT _).1 (h1.2 i hi)
 rw[bG hi] at h2
 unfold itP
 rw[List.any_cons,List.any_cons,List.any_nil,kW,kW,aV3 (by omega),oC h2.1];rfl
theorem aT4 {p:dH} (h:nB p=true):(lO p).any isE = !(p.2.1.all fun s=>!isE (dF s)):=by
 obtain ⟨h1,h2,h3,h4⟩:=hY.1 h
 unfold lO
 rw[List.not_all_eq_any_not]
 simp only[List.any_append,aHA,List.any_cons,List.any_nil,kW,aOH (show 0≤(p.1.length:Int)∧(p.1.length:Int)≤1000 by omega) (show 0≤(p.2.1.length:Int)∧(p.2.1.length:Int)≤1000 by omega),Bool.not_true,Bool.or_false,Bool.false_or,stP]
 rw[aHW p.1 fun a ha=>?_,aHW (List.range _) fun i hi=>?_]
 ·simp
 ·rw[List.mem_range] at hi
  have:=h3 i hi
  unfold qsP
  rw[List.any_append,aCE this.1,aCE this.2];rfl
 ·obtain ⟨i,hi,rfl⟩:=List.getElem_of_mem ha
  have:=h2 i hi
  rw[bG hi] at this
  unfold gK
  rw[List.any_cons,List.any_cons,List.any_nil,kW,kW,oC this.1,oC this.2];rfl
theorem aQI (W:WrD) {p:dH} (h:nB p=true) (hW:W=bN ([],false) (lO p)):W.1.length=(cK ⟨#[]⟩ (lO p)).size∧(¬ 60000<W.1.length→(if W.2=true then (⟨#[]⟩:ByteArray) else dD W.1)=jQ p):=by
 have h1:=aCN (lO p) ⟨#[]⟩ false
 rw[Bool.false_or,aT4 h] at h1
 rw[hW,show (([],false):WrD)=(dK ⟨#[]⟩,false) from rfl,h1]
 dsimp only
 rw[wY,aG1]
 refine ⟨rfl,fun h2=>?_⟩
 unfold jQ
 cases p.2.1.all fun s=>!isE (dF s)
 ·rw[if_pos (show (!false)=true from rfl),if_neg (fun hh=>by cases hh.2.1)]
 ·rw[if_neg (show ¬ (!true)=true by decide),if_pos ⟨h,rfl,by omega⟩]
theorem aOR {β:Type} (g:Nat→List β) (k:Nat):(List.range (k+1)).flatMap g=(List.range k).flatMap g++g k:=by
 rw[List.range_succ,List.flatMap_append,List.flatMap_singleton]
def gH:Con:=⟨64,(.aWS (.aWS (.slice 5 (.int .u8)) .bool) aE),(.aWS (.slice 5 (.int .u8)) .bool),[.box 105 ⟨true,(.aWS (.slice 5 (.int .u8)) .bool),[2,0]⟩,.val ⟨true,aE,[]⟩],[],false,none,
 ((fun x=>x.1.1.length≤100000000000∧x.2.2.length≤10000000):((fN × Bool) × bK)→Prop),
 ((fun x=>bN x.1 (eX x.2)):((fN × Bool) × bK)→(fN × Bool))⟩
def mC:T :=
 .aWT (.aWW 97 aP) (aG (.aWS (.aWS (.slice 5 (.int .u8)) .bool) aE) 2 (.Z 0)) <|
 .aWT (.lit 3 tI 2) (.aWU tI tI (aO (.aWS (.aWS (.slice 5 (.int .u8)) .bool) aE) 1 (.Z 0)) (.Z 1)) <|
 .call 0 (.Z 2) <|
 .call 1 (.aWU (.aWS (.slice 5 (.int .u8)) .bool) .str (.p1 (.aWS (.slice 5 (.int .u8)) .bool) aE (.Z 0)) (.Z 3)) <|
 .aWT (.aWW 97 aP) (aG (.aWS (.aWS (.slice 5 (.int .u8)) .bool) aE) 2 (.Z 0)) <|
 .loop (.aWS tI (.aWS .bool (.slice 5 (.int .u8)))) (aQ (.aWS tI (.aWS .bool (.slice 5 (.int .u8)))) [(.ci .i64 0),(aG (.aWS (.slice 5 (.int .u8)) .bool) 1 (.Z 4)),(.p1 (.slice 5 (.int .u8)) .bool (.Z 4))]) <|
  .aWT (.cmp .lss .i64) (.aWU tI tI (.p1 tI (.aWS .bool (.slice 5 (.int .u8))) (.Z 6)) (.Z 5)) <|
  .ite (.Z 7) (
   .aWT (.aWX 97 aP) (.aWU (.slice 97 aP) tI (aG (.aWS (.aWS (.slice 5 (.int .u8)) .bool) aE) 2 (.Z 0)) (.p1 tI (.aWS .bool (.slice 5 (.int .u8))) (.Z 6))) <|
   .aWT (.lit 3 tI 1) (.p1 tI aA (.Z 8)) <|
   .call 0 (.Z 9) <|
   .call 1 (.aWU (.aWS (.slice 5 (.int .u8)) .bool) .str (.aWU (.slice 5 (.int .u8)) .bool (aG (.aWS tI (.aWS .bool (.slice 5 (.int .u8)))) 2 (.Z 6)) (aO (.aWS tI (.aWS .bool (.slice 5 (.int .u8)))) 1 (.Z 6))) (.Z 10)) <|
   .call 0 (aG aP 1 (.Z 8)) <|
   .call 1 (.aWU (.aWS (.slice 5 (.int .u8)) .bool) .str (.Z 11) (.Z 12)) <|
   .aWT (.ar .add .i64) (.aWU tI tI (.p1 tI (.aWS .bool (.slice 5 (.int .u8))) (.Z 6)) (.ci .i64 1)) <|
   .aWV 0 (aQ (.aWS tI (.aWS .bool (.slice 5 (.int .u8)))) [(.Z 14),(aG (.aWS (.slice 5 (.int .u8)) .bool) 1 (.Z 13)),(.p1 (.slice 5 (.int .u8)) .bool (.Z 13))])) (
   .ret (.aWU (.slice 5 (.int .u8)) .bool (aG (.aWS tI (.aWS .bool (.slice 5 (.int .u8)))) 2 (.Z 6)) (aO (.aWS tI (.aWS .bool (.slice 5 (.int .u8)))) 1 (.Z 6))))
theorem zI:cW Tryz.prog [dM,cF] gH false 3000 ⟨[(2992,1006,fG 15 6++[.dr 3,.dr 1,.tm 18 0,.bx 1 1,.sl 5])],[]⟩ = .ok mC:=by kernel_rfl
theorem aA9 (x:(fN × Bool) × bK) (hx:okD (.aWS (.aWS (.slice 5 (.int .u8)) .bool) aE) x) (hp:(fun x=>x.1.1.length≤100000000000∧x.2.2.length≤10000000) x):mC.wp [dM,cF] [⟨(.aWS (.aWS (.slice 5 (.int .u8)) .bool) aE),x⟩] [] (fun v=>v.as (.aWS (.slice 5 (.int .u8)) .bool)=(fun x=>bN x.1 (eX x.2)) x):=by
 obtain ⟨w,c,l⟩:=x
 obtain ⟨h1,h2⟩:w.1.length≤100000000000∧l.length≤10000000:=hp
 delta mC dM cF;refine jN ?_
 obtain ⟨W,hW⟩:∃ W,W=jM w (cC [c,(l.length:Int)]):=⟨_,rfl⟩
 have z1:W.1.length≤w.1.length+1608:=by rw[hW];exact dI w [_] (cR (aW _) iC)
 (repeat' first|intro _|(with_reducible apply And.intro))
 all_goals first|omega|(exact Nat.le_trans (aW _) (by decide))|skip
 refine ⟨fun s=>∃ k:Nat,k≤l.length∧s=((k:Int),(bN W ((l.take k).flatMap itP)).2,(bN W ((l.take k).flatMap itP)).1),fun s=>l.length - (s.1:Int).toNat,⟨0,by omega,by rw[hW];rfl⟩,fun s _ hI=>?_⟩
 obtain ⟨k,hk,rfl⟩:=hI
 have y1:=dI W ((l.take k).flatMap itP) (iS _ aMK)
 have y2:=fL itP 2 (l.take k) (fun _ _=>Nat.le_refl _)
 rw[List.length_take] at y2
 dsimp only
 refine gJ ?_
 constructor
 ·intro hlt
  have hk':k<l.length:=by omega
  rw[bG hk']
  have e:jM (jM (bN W ((l.take k).flatMap itP)) (cC [(l[k]'hk').1])) (cC (l[k]'hk').2)=bN W ((l.take (k+1)).flatMap itP):=by rw[gA itP l hk',fQ];rfl
  have e1:(jM (bN W ((l.take k).flatMap itP)) (cC [(l[k]'hk').1])).1.length≤(bN W ((l.take k).flatMap itP)).1.length+1608:=dI _ [_] (cR (aW _) iC)
  (repeat' first|intro _|(with_reducible apply And.intro))
  all_goals first|omega|(exact Nat.le_trans (aW _) (by decide))|(exact Nat.le_trans e1 (by omega))|skip
  exact ⟨k+1,by omega,by rw[← e];rfl⟩
 intro hge
 obtain rfl:k=l.length:=by omega
 rw[List.take_length,hW]
 rfl
theorem zF:Con.Holds Tryz.prog gH:=aX bI (aR pW (aR kT aY)) zI aA9
def lC:Con:=⟨57,aE,.str,[.val ⟨true,aE,[]⟩],[⟨false,.str,[0]⟩],false,none,
 ((fun x=>x.2.length≤10000000):(bK)→Prop),
 ((fun x=>cK ⟨#[]⟩ (eX x)):(bK)→(ByteArray))⟩
def sM:T :=
 .aWT (.aWW 97 aP) (aG aE 1 (.Z 0)) <|
 .aWT (.lit 3 tI 2) (.aWU tI tI (.p1 tI (.slice 97 aP) (.Z 0)) (.Z 1)) <|
 .call 0 (.Z 2) <|
 .loop (.aWS tI .str) (.aWU tI .str (.ci .i64 0) (.Z 3)) <|
  .aWT (.aWW 97 aP) (aG aE 1 (.Z 0)) <|
  .aWT (.cmp .lss .i64) (.aWU tI tI (.p1 tI .str (.Z 4)) (.Z 5)) <|
  .ite (.Z 6) (
   .aWT (.aWX 97 aP) (.aWU (.slice 97 aP) tI (aG aE 1 (.Z 0)) (.p1 tI .str (.Z 4))) <|
   .aWT (.aWX 97 aP) (.aWU (.slice 97 aP) tI (aG aE 1 (.Z 0)) (.p1 tI .str (.Z 4))) <|
   .aWT (.lit 3 tI 1) (.p1 tI aA (.Z 7)) <|
   .call 0 (.Z 9) <|
   .aWT .sadd (.aWU .str .str (aG (.aWS tI .str) 1 (.Z 4)) (.Z 10)) <|
   .call 0 (aG aP 1 (.Z 8)) <|
   .aWT .sadd (.aWU .str .str (.Z 11) (.Z 12)) <|
   .aWT (.ar .add .i64) (.aWU tI tI (.p1 tI .str (.Z 4)) (.ci .i64 1)) <|
   .aWV 0 (.aWU tI .str (.Z 14) (.Z 13))) (
   .ret (aG (.aWS tI .str) 1 (.Z 4)))
theorem aH3:cW Tryz.prog [cL] lC false 3000 ⟨[(2991,1004,fG 11 5++[.dr 0,.tm 4 0,.tm 3 0])],[]⟩ = .ok sM:=by kernel_rfl
theorem aIA (x:bK) (hx:okD aE x) (hp:(fun x=>x.2.length≤10000000) x):sM.wp [cL] [⟨aE,x⟩] [] (fun v=>v.as .str=(fun x=>cK ⟨#[]⟩ (eX x)) x):=by
 obtain ⟨c,l⟩:=x
 have h2:l.length≤10000000:=hp
 delta sM cL;refine jN ?_
 obtain ⟨W,hW⟩:∃ W,W=cC [c,(l.length:Int)]:=⟨_,rfl⟩
 have z1:W.size≤1608:=by rw[hW];exact aW _
 (repeat' first|intro _|(with_reducible apply And.intro))
 refine ⟨fun s=>∃ k:Nat,k≤l.length∧s=((k:Int),cK W ((l.take k).flatMap itP)),fun s=>l.length - (s.1:Int).toNat,⟨0,by omega,by rw[hW];rfl⟩,fun s _ hI=>?_⟩
 obtain ⟨k,hk,rfl⟩:=hI
 have y1:=fX W ((l.take k).flatMap itP) (iS _ aMK)
 have y2:=fL itP 2 (l.take k) (fun _ _=>Nat.le_refl _)
 rw[List.length_take] at y2
 dsimp only
 refine gJ ?_
 intro _
 constructor
 ·intro hlt
  have hk':k<l.length:=by omega
  rw[bG hk']
  have e:cK W ((l.take k).flatMap itP)++(cC [(l[k]'hk').1])++(cC (l[k]'hk').2)=cK W ((l.take (k+1)).flatMap itP):=by rw[gA itP l hk',jZ];rfl
  have e1:=aW [(l[k]'hk').1]
  have e2:=aW (l[k]'hk').2
  (repeat' first|intro _|(with_reducible apply And.intro))
  all_goals first|omega|(unfold maxLen;(try rw[cA]);omega)|skip
  exact ⟨k+1,by omega,by rw[← e];rfl⟩
 intro hge
 obtain rfl:k=l.length:=by omega
 rw[List.take_length,hW]
 show cK (cC _) _=cK (⟨#[]⟩++cC _) _
 rw[fF]
theorem aGT:Con.Holds Tryz.prog lC:=aX bI (aR mT aY) aH3 aIA
def lB:Con:=⟨34,aH,.str,[.val ⟨true,aH,[]⟩],[⟨false,.str,[0]⟩],false,none,
 ((fun _=>True):(dH)→Prop),
 ((fun x=>jQ x):(dH)→(ByteArray))⟩
def rN:T:=.call 0 (.Z 0) <|
 .aWT .not (.Z 1) <|
 .ite (.Z 2) (
  .ret (.cs ⟨#[]⟩)) (
  .aWT (.aWW 49 aM) (.p1 aS (.aWS (.slice 57 aB) (.aWS aC aC)) (.Z 0)) <|
  .aWT (.aWW 57 aB) (aO aH 1 (.Z 0)) <|
  .aWT (.lit 3 tI 2) (.aWU tI tI (.Z 3) (.Z 4)) <|
  .call 1 (.Z 5) <|
  .call 2 (.aWU (.aWS (.slice 5 (.int .u8)) .bool) .str (.aWU (.slice 5 (.int .u8)) .bool (.nl 5 (.int .u8)) (.cb false)) (.Z 6)) <|
  .aWT (.aWW 49 aM) (.p1 aS (.aWS (.slice 57 aB) (.aWS aC aC)) (.Z 0)) <|
  .loop (.aWS tI (.aWS .bool (.slice 5 (.int .u8)))) (aQ (.aWS tI (.aWS .bool (.slice 5 (.int .u8)))) [(.ci .i64 0),(aG (.aWS (.slice 5 (.int .u8)) .bool) 1 (.Z 7)),(.p1 (.slice 5 (.int .u8)) .bool (.Z 7))]) <|
   .aWT (.cmp .lss .i64) (.aWU tI tI (.p1 tI (.aWS .bool (.slice 5 (.int .u8))) (.Z 9)) (.Z 8)) <|
   .ite (.Z 10) (
    .aWT (.aWX 49 aM) (.aWU aS tI (.p1 aS (.aWS (.slice 57 aB) (.aWS aC aC)) (.Z 0)) (.p1 tI (.aWS .bool (.slice 5 (.int .u8))) (.Z 9))) <|
    .call 1 (.p1 aA aA (.Z 11)) <|
    .call 2 (.aWU (.aWS (.slice 5 (.int .u8)) .bool) .str (.aWU (.slice 5 (.int .u8)) .bool (aG (.aWS tI (.aWS .bool (.slice 5 (.int .u8)))) 2 (.Z 9)) (aO (.aWS tI (.aWS .bool (.slice 5 (.int .u8)))) 1 (.Z 9))) (.Z 12)) <|
    .call 1 (aG aM 1 (.Z 11)) <|
    .call 2 (.aWU (.aWS (.slice 5 (.int .u8)) .bool) .str (.Z 13) (.Z 14)) <|
    .aWT (.ar .add .i64) (.aWU tI tI (.p1 tI (.aWS .bool (.slice 5 (.int .u8))) (.Z 9)) (.ci .i64 1)) <|
    .aWV 0 (aQ (.aWS tI (.aWS .bool (.slice 5 (.int .u8)))) [(.Z 16),(aG (.aWS (.slice 5 (.int .u8)) .bool) 1 (.Z 15)),(.p1 (.slice 5 (.int .u8)) .bool (.Z 15))])) (
    .aWT (.aWW 57 aB) (aO aH 1 (.Z 0)) <|
    .loop (.aWS tI (.aWS .bool (.slice 5 (.int .u8)))) (.aWU tI (.aWS .bool (.slice 5 (.int .u8))) (.ci .i64 0) (aG (.aWS tI (.aWS .bool (.slice 5 (.int .u8)))) 1 (.Z 9))) <|
     .aWT (.cmp .lss .i64) (.aWU tI tI (.p1 tI (.aWS .bool (.slice 5 (.int .u8))) (.Z 12)) (.Z 11)) <|
     .ite (.Z 13) (
      .aWT (.aWX 57 aB) (.aWU (.slice 57 aB) tI (aO aH 1 (.Z 0)) (.p1 tI (.aWS .bool (.slice 5 (.int .u8))) (.Z 12))) <|
      .call 3 (.Z 14) <|
      .call 2 (.aWU (.aWS (.slice 5 (.int .u8)) .bool) .str (.aWU (.slice 5 (.int .u8)) .bool (aG (.aWS tI (.aWS .bool (.slice 5 (.int .u8)))) 2 (.Z 12)) (aO (.aWS tI (.aWS .bool (.slice 5 (.int .u8)))) 1 (.Z 12))) (.Z 15)) <|
      .aWT (.ar .add .i64) (.aWU tI tI (.p1 tI (.aWS .bool (.slice 5 (.int .u8))) (.Z 12)) (.ci .i64 1)) <|
      .aWV 0 (aQ (.aWS tI (.aWS .bool (.slice 5 (.int .u8)))) [(.Z 17),(aG (.aWS (.slice 5 (.int .u8)) .bool) 1 (.Z 16)),(.p1 (.slice 5 (.int .u8)) .bool (.Z 16))])) (
      .aWT (.aWW 62 aE) (aO aH 2 (.Z 0)) <|
      .loop (.aWS tI (.aWS .bool (.slice 5 (.int .u8)))) (.aWU tI (.aWS .bool (.slice 5 (.int .u8))) (.ci .i64 0) (aG (.aWS tI (.aWS .bool (.slice 5 (.int .u8)))) 1 (.Z 12))) <|
       .aWT (.cmp .lss .i64) (.aWU tI tI (.p1 tI (.aWS .bool (.slice 5 (.int .u8))) (.Z 15)) (.Z 14)) <|
       .ite (.Z 16) (
        .aWT (.aWX 62 aE) (.aWU aC tI (aO aH 2 (.Z 0)) (.p1 tI (.aWS .bool (.slice 5 (.int .u8))) (.Z 15))) <|
        .call 4 (.aWU (.aWS (.slice 5 (.int .u8)) .bool) aE (.aWU (.slice 5 (.int .u8)) .bool (aG (.aWS tI (.aWS .bool (.slice 5 (.int .u8)))) 2 (.Z 15)) (aO (.aWS tI (.aWS .bool (.slice 5 (.int .u8)))) 1 (.Z 15))) (.Z 17)) <|
        .aWT (.aWX 62 aE) (.aWU aC tI (aG aH 3 (.Z 0)) (.p1 tI (.aWS .bool (.slice 5 (.int .u8))) (.Z 15))) <|
        .call 4 (.aWU (.aWS (.slice 5 (.int .u8)) .bool) aE (.Z 18) (.Z 19)) <|
        .aWT (.ar .add .i64) (.aWU tI tI (.p1 tI (.aWS .bool (.slice 5 (.int .u8))) (.Z 15)) (.ci .i64 1)) <|
        .aWV 0 (aQ (.aWS tI (.aWS .bool (.slice 5 (.int .u8)))) [(.Z 21),(aG (.aWS (.slice 5 (.int .u8)) .bool) 1 (.Z 20)),(.p1 (.slice 5 (.int .u8)) .bool (.Z 20))])) (
        .aWT (.aWW 5 (.int .u8)) (aG (.aWS tI (.aWS .bool (.slice 5 (.int .u8)))) 2 (.Z 15)) <|
        .aWT (.cmp .gtr .i64) (.aWU tI tI (.Z 17) (.ci .i64 60000)) <|
        .ite (.Z 18) (
         .ret (.cs ⟨#[]⟩)) (
         .call 5 (.aWU (.slice 5 (.int .u8)) .bool (aG (.aWS tI (.aWS .bool (.slice 5 (.int .u8)))) 2 (.Z 15)) (aO (.aWS tI (.aWS .bool (.slice 5 (.int .u8)))) 1 (.Z 15))) <|
         .ret (.p1 .str (.aWS (.slice 5 (.int .u8)) .bool) (.Z 19)))))))
theorem aHD:cW Tryz.prog [oT,dM,cF,jW,gH,eA] lB false 3000 ⟨[(2984,2009,fG 24 9++[.dr 0,.tm 27 0,.bx 2 1,.sl 5]),(2974,4012,[.dr 42]++fG 28 25++[.tm 45 0,.bx 2 1,.sl 5]),(2964,8015,[.dr 55,.dr 54]++fG 46 43++[.tm 57 0,.bx 2 1,.sl 5])],[]⟩ = .ok rN:=by kernel_rfl
theorem aGJ (x:dH) (hx:okD aH x) (hp:(fun _=>True) x):rN.wp [oT,dM,cF,jW,gH,eA] [⟨aH,x⟩] [] (fun v=>v.as .str=(fun x=>jQ x) x):=by
 delta rN oT dM cF jW gH eA;refine jN ?_
 refine gJ ?_
 refine ⟨fun h=>aKH (by rw[h];decide),fun h1=>?_⟩
 obtain ⟨q1,q2,q3,q4⟩:=hY.1 h1
 obtain ⟨W1,hW1⟩:∃ W,W=jM ([],false) (cC [(x.1.length:Int),(x.2.1.length:Int)]):=⟨_,rfl⟩
 have z1:W1.1.length≤1608:=by rw[hW1];exact dI ([],false) [_] (cR (aW _) iC)
 (repeat' first|intro _|(with_reducible apply And.intro))
 all_goals first|omega|(exact Nat.le_trans (aW _) (by decide))|skip
 refine ⟨fun s=>∃ k:Nat,k≤x.1.length∧s=((k:Int),(bN W1 ((x.1.take k).flatMap gK)).2,(bN W1 ((x.1.take k).flatMap gK)).1),fun s=>x.1.length - (s.1:Int).toNat,⟨0,by omega,by rw[hW1];rfl⟩,fun s _ hI=>?_⟩
 obtain ⟨k,hk,rfl⟩:=hI
 have y1:=dI W1 ((x.1.take k).flatMap gK) (iS _ aK5)
 have y2:=fL gK 2 (x.1.take k) (fun _ _=>Nat.le_refl _)
 rw[List.length_take] at y2
 dsimp only
 refine gJ ?_
 constructor
 ·intro hlt
  have hk':k<x.1.length:=by omega
  rw[bG hk']
  have e:jM (jM (bN W1 ((x.1.take k).flatMap gK)) (cC (x.1[k]'hk').1)) (cC (x.1[k]'hk').2)=bN W1 ((x.1.take (k+1)).flatMap gK):=by rw[gA gK x.1 hk',fQ];rfl
  have e1:(jM (bN W1 ((x.1.take k).flatMap gK)) (cC (x.1[k]'hk').1)).1.length≤(bN W1 ((x.1.take k).flatMap gK)).1.length+1608:=dI _ [_] (cR (aW _) iC)
  (repeat' first|intro _|(with_reducible apply And.intro))
  all_goals first|omega|(exact Nat.le_trans (aW _) (by decide))|(exact Nat.le_trans e1 (by omega))|skip
  exact ⟨k+1,by omega,by rw[← e];rfl⟩
 intro hge
 obtain rfl:k=x.1.length:=by omega
 rw[List.take_length] at y1 y2 ⊢
 obtain ⟨W2,hW2⟩:∃ W,W=bN W1 (x.1.flatMap gK):=⟨_,rfl⟩
 rw[← hW2] at y1 ⊢
 intro _
 refine ⟨fun s=>∃ k:Nat,k≤x.2.1.length∧s=((k:Int),(bN W2 ((x.2.1.take k).flatMap stP)).2,(bN W2 ((x.2.1.take k).flatMap stP)).1),fun s=>x.2.1.length - (s.1:Int).toNat,⟨0,by omega,rfl⟩,fun s _ hI=>?_⟩
 obtain ⟨k,hk,rfl⟩:=hI
 have y3:=aE4 (B:=400000) W2 ((x.2.1.take k).flatMap stP) (fun p hp=>by rw[List.mem_flatMap] at hp;obtain ⟨a,_,hp⟩:=hp;unfold stP at hp;rw[List.mem_singleton] at hp;rw[hp];exact qE a)
 have y4:=fL stP 1 (x.2.1.take k) (fun _ _=>Nat.le_refl _)
 rw[List.length_take] at y4
 dsimp only
 refine gJ ?_
 constructor
 ·intro hlt
  have hk':k<x.2.1.length:=by omega
  rw[bG hk']
  have e:jM (bN W2 ((x.2.1.take k).flatMap stP)) (dF (x.2.1[k]'hk'))=bN W2 ((x.2.1.take (k+1)).flatMap stP):=by rw[gA stP x.2.1 hk',fQ];rfl
  (repeat' first|intro _|(with_reducible apply And.intro))
  all_goals first|omega|(exact Nat.le_trans (qE _) (by decide))|skip
  exact ⟨k+1,by omega,by rw[← e];rfl⟩
 intro hge2
 obtain rfl:k=x.2.1.length:=by omega
 rw[List.take_length] at y3 y4 ⊢
 obtain ⟨W3,hW3⟩:∃ W,W=bN W2 (x.2.1.flatMap stP):=⟨_,rfl⟩
 rw[← hW3] at y3 ⊢
 intro _
 refine ⟨fun s=>∃ k:Nat,k≤x.2.2.1.length∧s=((k:Int),(bN W3 ((List.range k).flatMap (qsP x.2.2.1 x.2.2.2))).2,(bN W3 ((List.range k).flatMap (qsP x.2.2.1 x.2.2.2))).1),fun s=>x.2.2.1.length - (s.1:Int).toNat,⟨0,by omega,rfl⟩,fun s _ hI=>?_⟩
 obtain ⟨k,hk,rfl⟩:=hI
 have hlq:∀ i,i<k→(qsP x.2.2.1 x.2.2.2 i).length≤22:=fun i hi=>by
  have:=q3 i (by omega)
  have g1:=(hY.1 this.1).1
  have g2:=(hY.1 this.2).1
  have g3:=kA (x.2.2.1.getD i (aV aE))
  have g4:=kA (x.2.2.2.getD i (aV aE))
  unfold qsP;rw[List.length_append];omega
 have y5:=dI W3 ((List.range k).flatMap (qsP x.2.2.1 x.2.2.2)) (iS _ (aTM _ _))
 have y6:=fL (qsP x.2.2.1 x.2.2.2) 22 (List.range k) (fun i hi=>hlq i (List.mem_range.1 hi))
 rw[List.length_range] at y6
 dsimp only
 refine gJ ?_
 constructor
 ·intro hlt
  have hk':k<x.2.2.1.length:=by omega
  have e:bN (bN (bN W3 ((List.range k).flatMap (qsP x.2.2.1 x.2.2.2))) (eX (x.2.2.1.getD k (aV aE)))) (eX (x.2.2.2.getD k (aV aE)))=bN W3 ((List.range (k+1)).flatMap (qsP x.2.2.1 x.2.2.2)):=by rw[aOR,fQ];unfold qsP;rw[fQ]
  have e1:=dI (bN W3 ((List.range k).flatMap (qsP x.2.2.1 x.2.2.2))) _ (qZ (x.2.2.1.getD k (aV aE)))
  have g0:=q3 k hk'
  have g1:=(hY.1 g0.1).1
  have g2:=(hY.1 g0.2).1
  have g3:=kA (x.2.2.1.getD k (aV aE))
  (repeat' first|intro _|(with_reducible apply And.intro))
  all_goals first|omega|(exact Nat.le_trans e1 (by omega))|skip
  exact ⟨k+1,by omega,by rw[← e];rfl⟩
 intro hge3 _
 obtain rfl:k=x.2.2.1.length:=by omega
 obtain ⟨W4,hW4⟩:∃ W,W=bN W3 ((List.range x.2.2.1.length).flatMap (qsP x.2.2.1 x.2.2.2)):=⟨_,rfl⟩
 rw[← hW4] at y5 ⊢
 obtain ⟨t1,t2⟩:=aQI W4 h1 (by unfold lO;simp only[fQ];rw[hW4,hW3,hW2,hW1];rfl)
 refine ⟨fun h=>aFR (by omega),fun h _=>t2 (by omega)⟩
theorem aI8:Con.Holds Tryz.prog lB:=aX bI (aR aNI (aR pW (aR kT (aR aEK (aR zF (aR sP aY)))))) aHD aGJ
def lI:Con:=⟨29,aH,.str,[.val ⟨true,aH,[]⟩],[⟨false,.str,[0]⟩],false,none,
 ((fun _=>True):(dH)→Prop),
 ((fun x=>jQ x):(dH)→(ByteArray))⟩
def rR:T:=.call 0 (.Z 0) <|
 .aWT .not (.Z 1) <|
 .ite (.Z 2) (
  .ret (.cs ⟨#[]⟩)) (
  .aWT (.aWW 49 aM) (.p1 aS (.aWS (.slice 57 aB) (.aWS aC aC)) (.Z 0)) <|
  .aWT (.aWW 57 aB) (aO aH 1 (.Z 0)) <|
  .aWT (.lit 3 tI 2) (.aWU tI tI (.Z 3) (.Z 4)) <|
  .call 1 (.Z 5) <|
  .loop (.aWS tI .str) (.aWU tI .str (.ci .i64 0) (.Z 6)) <|
   .aWT (.aWW 49 aM) (.p1 aS (.aWS (.slice 57 aB) (.aWS aC aC)) (.Z 0)) <|
   .aWT (.cmp .lss .i64) (.aWU tI tI (.p1 tI .str (.Z 7)) (.Z 8)) <|
   .ite (.Z 9) (
    .aWT (.aWX 49 aM) (.aWU aS tI (.p1 aS (.aWS (.slice 57 aB) (.aWS aC aC)) (.Z 0)) (.p1 tI .str (.Z 7))) <|
    .aWT (.aWX 49 aM) (.aWU aS tI (.p1 aS (.aWS (.slice 57 aB) (.aWS aC aC)) (.Z 0)) (.p1 tI .str (.Z 7))) <|
    .call 1 (.p1 aA aA (.Z 10)) <|
    .aWT .sadd (.aWU .str .str (aG (.aWS tI .str) 1 (.Z 7)) (.Z 12)) <|
    .call 1 (aG aM 1 (.Z 11)) <|
    .aWT .sadd (.aWU .str .str (.Z 13) (.Z 14)) <|
    .aWT (.ar .add .i64) (.aWU tI tI (.p1 tI .str (.Z 7)) (.ci .i64 1)) <|
    .aWV 0 (.aWU tI .str (.Z 16) (.Z 15))) (
    .loop (.aWS tI .str) (.aWU tI .str (.ci .i64 0) (aG (.aWS tI .str) 1 (.Z 7))) <|
     .aWT (.aWW 57 aB) (aO aH 1 (.Z 0)) <|
     .aWT (.cmp .lss .i64) (.aWU tI tI (.p1 tI .str (.Z 10)) (.Z 11)) <|
     .ite (.Z 12) (
      .aWT (.aWX 57 aB) (.aWU (.slice 57 aB) tI (aO aH 1 (.Z 0)) (.p1 tI .str (.Z 10))) <|
      .call 2 (.Z 13) <|
      .aWT (.seq false) (.aWU .str .str (.Z 14) (.cs ⟨#[]⟩)) <|
      .ite (.Z 15) (
       .ret (.cs ⟨#[]⟩)) (
       .aWT .sadd (.aWU .str .str (aG (.aWS tI .str) 1 (.Z 10)) (.Z 14)) <|
       .aWT (.ar .add .i64) (.aWU tI tI (.p1 tI .str (.Z 10)) (.ci .i64 1)) <|
       .aWV 0 (.aWU tI .str (.Z 17) (.Z 16)))) (
      .loop (.aWS tI .str) (.aWU tI .str (.ci .i64 0) (aG (.aWS tI .str) 1 (.Z 10))) <|
       .aWT (.aWW 62 aE) (aO aH 2 (.Z 0)) <|
       .aWT (.cmp .lss .i64) (.aWU tI tI (.p1 tI .str (.Z 13)) (.Z 14)) <|
       .ite (.Z 15) (
        .aWT (.aWX 62 aE) (.aWU aC tI (aO aH 2 (.Z 0)) (.p1 tI .str (.Z 13))) <|
        .aWT (.aWX 62 aE) (.aWU aC tI (aG aH 3 (.Z 0)) (.p1 tI .str (.Z 13))) <|
        .call 3 (.Z 16) <|
        .aWT .sadd (.aWU .str .str (aG (.aWS tI .str) 1 (.Z 13)) (.Z 18)) <|
        .call 3 (.Z 17) <|
        .aWT .sadd (.aWU .str .str (.Z 19) (.Z 20)) <|
        .aWT (.ar .add .i64) (.aWU tI tI (.p1 tI .str (.Z 13)) (.ci .i64 1)) <|
        .aWV 0 (.aWU tI .str (.Z 22) (.Z 21))) (
        .aWT .slen (aG (.aWS tI .str) 1 (.Z 13)) <|
        .aWT (.cmp .gtr .i64) (.aWU tI tI (.Z 16) (.ci .i64 60000)) <|
        .ite (.Z 17) (
         .ret (.cs ⟨#[]⟩)) (
         .ret (aG (.aWS tI .str) 1 (.Z 13)))))))
theorem aGZ:cW Tryz.prog [oN,cL,fH,lC] lI false 3000 ⟨[(2986,2007,fG 18 8++[.dr 0,.tm 4 0,.tm 3 0]),(2976,4010,fG 23 19++[.dr 4,.tm 5 0,.tm 3 0]),(2966,8013,fG 47 43++[.dr 5,.tm 7 0,.tm 3 0])],[]⟩ = .ok rR:=by kernel_rfl
theorem aIJ (x:dH) (hx:okD aH x) (hp:(fun _=>True) x):rR.wp [oN,cL,fH,lC] [⟨aH,x⟩] [] (fun v=>v.as .str=(fun x=>jQ x) x):=by
 delta rR oN cL fH lC;refine jN ?_
 refine gJ ?_
 refine ⟨fun h=>aKH (by rw[h];decide),fun h1=>?_⟩
 obtain ⟨q1,q2,q3,q4⟩:=hY.1 h1
 obtain ⟨W1,hW1⟩:∃ W,W=cC [(x.1.length:Int),(x.2.1.length:Int)]:=⟨_,rfl⟩
 have z1:W1.size≤1608:=by rw[hW1];exact aW _
 (repeat' first|intro _|(with_reducible apply And.intro))
 refine ⟨fun s=>∃ k:Nat,k≤x.1.length∧s=((k:Int),cK W1 ((x.1.take k).flatMap gK)),fun s=>x.1.length - (s.1:Int).toNat,⟨0,by omega,by rw[hW1];rfl⟩,fun s _ hI=>?_⟩
 obtain ⟨k,hk,rfl⟩:=hI
 have y1:=fX W1 ((x.1.take k).flatMap gK) (iS _ aK5)
 have y2:=fL gK 2 (x.1.take k) (fun _ _=>Nat.le_refl _)
 rw[List.length_take] at y2
 dsimp only
 refine gJ ?_
 intro _
 constructor
 ·intro hlt
  have hk':k<x.1.length:=by omega
  rw[bG hk']
  have e:cK W1 ((x.1.take k).flatMap gK)++(cC (x.1[k]'hk').1)++(cC (x.1[k]'hk').2)=cK W1 ((x.1.take (k+1)).flatMap gK):=by rw[gA gK x.1 hk',jZ];rfl
  have e1:=aW (x.1[k]'hk').1
  have e2:=aW (x.1[k]'hk').2
  (repeat' first|intro _|(with_reducible apply And.intro))
  all_goals first|omega|(unfold maxLen;(try rw[cA]);omega)|skip
  exact ⟨k+1,by omega,by rw[← e];rfl⟩
 intro hge
 obtain rfl:k=x.1.length:=by omega
 rw[List.take_length] at y1 y2 ⊢
 obtain ⟨W2,hW2⟩:∃ W,W=cK W1 (x.1.flatMap gK):=⟨_,rfl⟩
 rw[← hW2] at y1 ⊢
 refine ⟨fun s=>∃ k:Nat,k≤x.2.1.length∧s=((k:Int),cK W2 ((x.2.1.take k).flatMap stP))∧∀ i,i<k→¬ dF (x.2.1.getD i (aV aB))=⟨#[]⟩,fun s=>x.2.1.length - (s.1:Int).toNat,⟨0,by omega,rfl,by omega⟩,fun s _ hI=>?_⟩
 obtain ⟨k,hk,rfl,ha⟩:=hI
 have y3:=aOL (B:=400000) W2 ((x.2.1.take k).flatMap stP) (fun p hp=>by rw[List.mem_flatMap] at hp;obtain ⟨a,_,hp⟩:=hp;unfold stP at hp;rw[List.mem_singleton] at hp;rw[hp];exact qE a)
 have y4:=fL stP 1 (x.2.1.take k) (fun _ _=>Nat.le_refl _)
 rw[List.length_take] at y4
 dsimp only
 refine gJ ?_
 intro _
 constructor
 ·intro hlt
  have hk':k<x.2.1.length:=by omega
  have e:cK W2 ((x.2.1.take k).flatMap stP)++(dF (x.2.1.getD k (aV aB)))=cK W2 ((x.2.1.take (k+1)).flatMap stP):=by rw[gA stP x.2.1 hk',jZ,bG hk'];rfl
  have e1:=qE (x.2.1.getD k (aV aB))
  (repeat' first|intro _|(with_reducible apply And.intro))
  all_goals first|omega|(unfold maxLen;omega)|(exact aPQ hk' (by first|assumption|exact Classical.not_not.1 (by assumption)))|skip
  exact ⟨k+1,by omega,by rw[← e];rfl,vY ha (by first|assumption|exact Classical.not_not.1 (by assumption))⟩
 intro hge2
 obtain rfl:k=x.2.1.length:=by omega
 rw[List.take_length] at y3 y4 ⊢
 obtain ⟨W3,hW3⟩:∃ W,W=cK W2 (x.2.1.flatMap stP):=⟨_,rfl⟩
 rw[← hW3] at y3 ⊢
 refine ⟨fun s=>∃ k:Nat,k≤x.2.2.1.length∧s=((k:Int),cK W3 ((List.range k).flatMap (qsP x.2.2.1 x.2.2.2))),fun s=>x.2.2.1.length - (s.1:Int).toNat,⟨0,by omega,rfl⟩,fun s _ hI=>?_⟩
 obtain ⟨k,hk,rfl⟩:=hI
 have hlq:∀ i,i<k→(qsP x.2.2.1 x.2.2.2 i).length≤22:=fun i hi=>by
  have:=q3 i (by omega)
  have g1:=(hY.1 this.1).1
  have g2:=(hY.1 this.2).1
  have g3:=kA (x.2.2.1.getD i (aV aE))
  have g4:=kA (x.2.2.2.getD i (aV aE))
  unfold qsP;rw[List.length_append];omega
 have y5:=fX W3 ((List.range k).flatMap (qsP x.2.2.1 x.2.2.2)) (iS _ (aTM _ _))
 have y6:=fL (qsP x.2.2.1 x.2.2.2) 22 (List.range k) (fun i hi=>hlq i (List.mem_range.1 hi))
 rw[List.length_range] at y6
 dsimp only
 refine gJ ?_
 intro _
 constructor
 ·intro hlt
  have hk':k<x.2.2.1.length:=by omega
  have e:cK W3 ((List.range k).flatMap (qsP x.2.2.1 x.2.2.2))++cK ⟨#[]⟩ (eX (x.2.2.1.getD k (aV aE)))++cK ⟨#[]⟩ (eX (x.2.2.2.getD k (aV aE)))=cK W3 ((List.range (k+1)).flatMap (qsP x.2.2.1 x.2.2.2)):=by
   rw[aOR,jZ];unfold qsP;rw[jZ,mN (cK _ _) (eX (x.2.2.2.getD k (aV aE))),mN (cK _ _) (eX (x.2.2.1.getD k (aV aE)))]
  have e1:=fX ⟨#[]⟩ _ (qZ (x.2.2.1.getD k (aV aE)))
  have e2:=fX ⟨#[]⟩ _ (qZ (x.2.2.2.getD k (aV aE)))
  rw[show (⟨#[]⟩:ByteArray).size=0 from rfl] at e1 e2
  have g0:=q3 k hk'
  have g1:=(hY.1 g0.1).1
  have g2:=(hY.1 g0.2).1
  have g3:=kA (x.2.2.1.getD k (aV aE))
  have g4:=kA (x.2.2.2.getD k (aV aE))
  (repeat' first|intro _|(with_reducible apply And.intro))
  all_goals first|omega|(unfold maxLen;(try rw[cA]);omega)|skip
  exact ⟨k+1,by omega,by rw[← e];rfl⟩
 intro hge3
 obtain rfl:k=x.2.2.1.length:=by omega
 have fin:cK W3 ((List.range x.2.2.1.length).flatMap (qsP x.2.2.1 x.2.2.2))=cK ⟨#[]⟩ (lO x):=by
  unfold lO;simp only[jZ];rw[hW3,hW2,hW1,gC,fF]
 rw[fin]
 have hst:(x.2.1.all fun s=>!isE (dF s))=true:=List.all_eq_true.2 fun s hs=>by
  obtain ⟨i,hi,rfl⟩:=List.getElem_of_mem hs
  have:=ha i hi
  rw[bG hi] at this
  unfold isE;rw[decide_eq_false this];rfl
 refine fun _=>⟨fun h=>?_,fun h=>?_⟩
 ·exact aFR (by omega)
 ·unfold jQ;rw[if_pos ⟨h1,hst,by omega⟩]
theorem aGH:Con.Holds Tryz.prog lI:=aX bI (aR aMG (aR mT (aR vO (aR aGT aY)))) aGZ aIJ
end
end Go.Proofs.YtlabadaccldkaaaGreat
