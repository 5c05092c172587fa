/- Show3: lemmas. No conditions. -/
import Derived.Test.YtlabadaccldkaaaGreatStage3
import Derived.Test.YtlabadaccldkaaaGreatVec2
namespace Go.Proofs.YtlabadaccldkaaaGreat
noncomputable section
set_option maxRecDepth 100000
open Go.ChangeShapes Go.WideShapes Go.ChangeAt Go.RowKit Go.Deep
set_option linter.unusedVariables false
set_option linter.unusedSimpArgs false
def gV (v:List Int):Bool:=decide (v.length≤200)&&v.all gG
theorem aJI (n:Int):1≤(fP n).size:=by
 unfold fP
 split <;> rw[cA] <;> (show 1≤1+_) <;> omega
theorem aJK (s:ByteArray):(l:List Int)→s.size≤(rE s l).size
 | []=>Nat.le_refl _
 | x :: l=>by
  have h:=aJK (s++fP x) l
  rw[cA] at h
  show s.size≤(rE (s++fP x) l).size
  omega
def isE (p:ByteArray):Bool:=decide (p=⟨#[]⟩)
theorem aV0 (n:Int):isE (fP n)=false:=by
 unfold isE;rw[decide_eq_false_iff_not];intro h
 have:=aJI n;rw[h] at this;exact absurd this (by decide)
theorem kW (v:List Int):isE (cC v) = !gV v:=by
 unfold isE cC gV
 by_cases h:v.length≤200∧v.all gG=true
 ·rw[if_pos h,decide_eq_true h.1,h.2]
  rw[decide_eq_false_iff_not.2 (fun e=>?_)];· rfl
  have h1:=aJK (fP v.length) v
  have h2:=aJI v.length
  rw[e] at h1;exact absurd (Nat.le_trans h2 h1) (by decide)
 ·rw[if_neg h,decide_eq_true rfl]
  cases ha:v.all gG
  ·simp
  ·rw[decide_eq_false (fun h2=>h ⟨h2,ha⟩)];rfl
def cK (s:ByteArray) (l:List ByteArray):ByteArray:=l.foldl (fun a b=>a++b) s
theorem jZ (s:ByteArray) (a b:List ByteArray):cK s (a++b)=cK (cK s a) b:=List.foldl_append
theorem aSQ (a b c:ByteArray):a++b++c=a++(b++c):=by apply ByteArray.ext;simp[ByteArray.data_append,Array.append_assoc]
theorem fF (a:ByteArray):(⟨#[]⟩:ByteArray)++a=a:=by apply ByteArray.ext;simp[ByteArray.data_append]
theorem mN (s:ByteArray):(l:List ByteArray)→cK s l=s++cK ⟨#[]⟩ l
 | []=>(aTX s).symm
 | x :: l=>by
  show cK (s++x) l=s++cK (⟨#[]⟩++x) l
  rw[mN (s++x) l,mN (⟨#[]⟩++x) l,fF,aSQ]
theorem gC (s p:ByteArray):cK s [p]=s++p:=rfl
def szP (l:List ByteArray):Prop:=∀ p∈l,p.size≤1608
theorem fX (s:ByteArray):(l:List ByteArray)→szP l→(cK s l).size≤s.size+1608 * l.length
 | [],_=>Nat.le_refl _
 | x :: l,h=>by
  have h1:=fX (s++x) l (fun p hp=>h p (List.mem_cons_of_mem _ hp))
  have h2:=h x List.mem_cons_self
  rw[cA] at h1
  show (cK (s++x) l).size≤_
  rw[List.length_cons];omega
theorem aNY (a b:ByteArray):dK (a++b)=dK a++dK b:=by unfold dK;rw[ByteArray.data_append,Array.toList_append,List.map_append]
theorem wY (a:ByteArray):(dK a).length=a.size:=by unfold dK;rw[List.length_map];rfl
theorem aG1 (a:ByteArray):dD (dK a)=a:=by
 unfold dD dK
 apply ByteArray.ext
 rw[List.map_map]
 have:∀ l:List UInt8,l.map ((fun n:Int=>UInt8.ofNat n.toNat) ∘ fun b=>(b.toNat:Int))=l:=fun l=>by
  rw[List.map_congr_left (g:=id) fun b _=>?_,List.map_id]
  show UInt8.ofNat ((b.toNat:Int).toNat)=b
  rw[Int.toNat_natCast];simp
 rw[this]
abbrev WrD:=List Int × Bool
def jM (w:WrD) (s:ByteArray):WrD:=(w.1++dK s,w.2 || isE s)
def bN (w:WrD) (l:List ByteArray):WrD:=l.foldl jM w
theorem fQ (w:WrD) (a b:List ByteArray):bN w (a++b)=bN (bN w a) b:=List.foldl_append
theorem aCN:(l:List ByteArray)→(s:ByteArray)→(b:Bool)→bN (dK s,b) l=(dK (cK s l),b || l.any isE)
 | [],s,b=>by simp[bN,cK]
 | x :: l,s,b=>by
  have h:=aCN l (s++x) (b || isE x)
  rw[aNY] at h
  show bN (dK s++dK x,b || isE x) l=_
  rw[h,List.any_cons,Bool.or_assoc];rfl
theorem dI (w:WrD):(l:List ByteArray)→szP l→(bN w l).1.length≤w.1.length+1608 * l.length
 | [],_=>Nat.le_refl _
 | x :: l,h=>by
  have h1:=dI (jM w x) l (fun p hp=>h p (List.mem_cons_of_mem _ hp))
  have h2:=h x List.mem_cons_self
  have h3:(jM w x).1.length=w.1.length+x.size:=by unfold jM;rw[List.length_append,wY]
  show (bN (jM w x) l).1.length≤_
  rw[List.length_cons];omega
theorem rQ {a b:List ByteArray} (h1:szP a) (h2:szP b):szP (a++b):=fun p hp=>by
 rw[List.mem_append] at hp;exact hp.elim (h1 p) (h2 p)
theorem cR {a:ByteArray} {b:List ByteArray} (h1:a.size≤1608) (h2:szP b):szP (a :: b):=fun p hp=>by
 rw[List.mem_cons] at hp;rcases hp with rfl|hp;exact h1;exact h2 p hp
theorem iC:szP []:=fun p hp=>by cases hp
theorem iS {α:Type} {g:α→List ByteArray} (l:List α) (h:∀ a,szP (g a)):szP (l.flatMap g):=fun p hp=>by
 rw[List.mem_flatMap] at hp;obtain ⟨a,_,hp⟩:=hp;exact h a p hp
theorem aM1 (n:Int):(fP n).size≤1608:=Nat.le_trans (lS n) (by decide)
def dN (l:eT):List ByteArray:=fP l.length :: l.map cC
theorem kV (l:eT):szP (dN l):=cR (aM1 _) fun p hp=>by
 rw[List.mem_map] at hp;obtain ⟨a,_,rfl⟩:=hp;exact aW a
theorem jC (l:eT):(dN l).length=l.length+1:=by unfold dN;rw[List.length_cons,List.length_map]
theorem aDH (l:eT) {k:Nat} (h:k<l.length):(dN l).take (k+1)++[cC l[k]]=(dN l).take (k+2):=by
 have h':k+1<(dN l).length:=by rw[jC];omega
 have e:(dN l)[k+1]'h'=cC l[k]:=by simp[dN]
 rw[List.take_succ_eq_append_getElem h',e]
theorem aG2 (l:eT):(dN l).take (l.length+1)=dN l:=List.take_of_length_le (by rw[jC];exact Nat.le_refl _)
theorem aPZ (l:eT):(dN l).take 1=[fP l.length]:=rfl
theorem gA {α β:Type} (g:α→List β) (l:List α) {k:Nat} (h:k<l.length):(l.take (k+1)).flatMap g=(l.take k).flatMap g++g l[k]:=by
 rw[List.take_succ_eq_append_getElem h,List.flatMap_append,List.flatMap_singleton]
theorem fL {α β:Type} (g:α→List β) (B:Nat):(l:List α)→(∀ a∈l,(g a).length≤B)→(l.flatMap g).length≤B * l.length
 | [],_=>Nat.le_refl _
 | x :: l,h=>by
  have h1:=fL g B l (fun a ha=>h a (List.mem_cons_of_mem _ ha))
  have h2:=h x List.mem_cons_self
  rw[List.flatMap_cons,List.length_append,List.length_cons,Nat.mul_succ];omega
def mA (i:jR):List ByteArray:=[cC [i.1,i.2]]
def xF (o:jT):List ByteArray:=[cC [o.1,o.2.1,o.2.2.1],cC o.2.2.2]
def jL (x:fO):List ByteArray:=cC [x.1] :: dN x.2
theorem aIH (i:jR):szP (mA i):=cR (aW _) iC
theorem aNM (o:jT):szP (xF o):=cR (aW _) (cR (aW _) iC)
theorem aHB (x:fO):szP (jL x):=cR (aW _) (kV _)
def b01 (b:Bool):Int:=if b=true then 1 else 0
def kM (s:bA):List Int:=[s.1,b01 s.2.2.2.1,b01 s.2.2.2.2.1,s.2.2.2.2.2.2.2.2.2.2.2.2.1,b01 s.2.2.2.2.2.2.2.2.2.2.2.2.2,s.2.1.length,s.2.2.1.length,s.2.2.2.2.2.1.length]
def uR (s:bA):List ByteArray:=dN s.2.2.2.2.2.2.1++([cC s.2.2.2.2.2.2.2.1,cC s.2.2.2.2.2.2.2.2.1,cC s.2.2.2.2.2.2.2.2.2.1,cC s.2.2.2.2.2.2.2.2.2.2.1]++dN s.2.2.2.2.2.2.2.2.2.2.2.1)
def dB (s:bA):List ByteArray:=[cC (kM s)]++(s.2.1.flatMap mA++(s.2.2.1.flatMap xF++(s.2.2.2.2.2.1.flatMap jL++uR s)))
def kG (s:bA):eT:=[[s.1,s.2.2.2.2.2.2.2.2.2.2.2.2.1],s.2.2.2.2.2.2.2.1,s.2.2.2.2.2.2.2.2.1,s.2.2.2.2.2.2.2.2.2.1,s.2.2.2.2.2.2.2.2.2.2.1]++(s.2.1.flatMap (fun i=>[[i.1,i.2]])++(s.2.2.1.flatMap (fun o=>[o.2.2.2])++(s.2.2.2.2.2.1.flatMap (fun x=>[x.1] :: x.2)++(s.2.2.2.2.2.2.1++s.2.2.2.2.2.2.2.2.2.2.2.1))))
def vM (s:bA):Prop:=kH s=true∧s.2.1.length≤100∧s.2.2.2.2.2.1.length≤5∧s.2.2.2.2.2.2.1.length≤20
instance (s:bA):Decidable (vM s):=by unfold vM;infer_instance
def dF (s:bA):ByteArray:=if vM s∧(kG s).all gV=true then cK ⟨#[]⟩ (dB s) else ⟨#[]⟩
theorem aQM (b:Bool):gG (b01 b)=true:=by cases b <;> decide
theorem aAD {n:Nat} (h:n≤1000):gG (n:Int)=true:=by unfold gG;rw[decide_eq_true_eq];omega
theorem aLP {s:bA} (h:vM s):gV (kM s)=gV [s.1,s.2.2.2.2.2.2.2.2.2.2.2.2.1]:=by
 obtain ⟨h1,h2,h3,_⟩:=h
 have h5:=(cB _).1 ((dA s).1 h1).1
 unfold gV kM
 simp only[List.all_cons,List.all_nil,aQM,aAD (show s.2.1.length≤1000 by omega),aAD (show s.2.2.1.length≤1000 by omega),aAD (show s.2.2.2.2.2.1.length≤1000 by omega),Bool.true_and,Bool.and_true,List.length_cons,List.length_nil]
 rfl
theorem aTG {m:List jT} (h:iM m=true):∀ o∈m,gV [o.1,o.2.1,o.2.2.1]=true:=fun o ho=>by
 obtain ⟨i,hi,rfl⟩:=List.getElem_of_mem ho
 have h1:=((yF m hi).1 (((cB m).1 h).2.2 i hi)).1
 have h2:=((qA _).1 h1).1
 unfold gV
 simp only[List.all_cons,List.all_nil,gG,List.length_cons,List.length_nil,Bool.and_true]
 simp only[Bool.and_eq_true,decide_eq_true_eq]
 exact ⟨by omega,by omega,by omega,by omega⟩
theorem aHA {α β:Type} (g:α→List β) (q:β→Bool):(l:List α)→(l.flatMap g).any q=l.any fun a=>(g a).any q
 | []=>rfl
 | x :: l=>by rw[List.flatMap_cons,List.any_append,List.any_cons,aHA g q l]
theorem aNU {α:Type} {f g:α→Bool}:(l:List α)→(∀ a∈l,f a=g a)→l.any f=l.any g
 | [],_=>rfl
 | x :: l,h=>by rw[List.any_cons,List.any_cons,h x List.mem_cons_self,aNU l fun a ha=>h a (List.mem_cons_of_mem _ ha)]
theorem aQK (l:eT):(dN l).any isE=l.any fun v=>!gV v:=by
 unfold dN
 rw[List.any_cons,aV0,Bool.false_or,List.any_map]
 exact aNU l fun a _=>kW a
theorem aPT {s:bA} (h:vM s):(dB s).any isE = !(kG s).all gV:=by
 have hm:=((dA s).1 h.1).1
 unfold dB uR kG
 rw[List.not_all_eq_any_not]
 simp only[List.any_append,aHA,aQK,List.any_cons,List.any_nil,kW,aLP h,Bool.or_false,mA,jL]
 have e1:s.2.2.1.any (fun a=>(xF a).any isE)=s.2.2.1.any fun o=>!gV o.2.2.2:=aNU _ fun o ho=>by
  unfold xF;rw[List.any_cons,List.any_cons,List.any_nil,kW,kW,aTG hm o ho,Bool.or_false];rfl
 rw[e1]
 ac_rfl
theorem aQF {s:bA} (h:vM s):bN ([],false) (dB s)=(dK (cK ⟨#[]⟩ (dB s)),!(kG s).all gV):=by
 have:=aCN (dB s) ⟨#[]⟩ false
 rw[Bool.false_or,aPT h] at this
 exact this
theorem yH {s:bA} (h:kH s=true):∀ x∈s.2.2.2.2.2.1,x.2.length≤9:=fun x hx=>by
 have h1:=(dA s).1 h
 have h2:=(cB _).1 h1.1
 have h3:=List.all_eq_true.1 h1.2.2.2.1 x hx
 have h4:=((aDU _ _ _).1 h3).1
 unfold vS at h4
 split at h4 <;> omega
def cF:Con:=⟨61,(.aWS (.aWS (.slice 5 (.int .u8)) .bool) .str),(.aWS (.slice 5 (.int .u8)) .bool),[.box 105 ⟨true,(.aWS (.slice 5 (.int .u8)) .bool),[2,0]⟩,.val ⟨false,.str,[]⟩],[],false,none,
 ((fun x=>x.1.1.length≤1000000000000∧x.2.size≤1000000000000):((fN × Bool) × (ByteArray))→Prop),
 ((fun x=>jM x.1 x.2):((fN × Bool) × (ByteArray))→(fN × Bool))⟩
def pJ:T:=.ite (aG (.aWS (.slice 5 (.int .u8)) .bool) 1 (.p1 (.aWS (.slice 5 (.int .u8)) .bool) .str (.Z 0))) (
 .aWT (.lapps 5) (.aWU (.slice 5 (.int .u8)) .str (.p1 (.slice 5 (.int .u8)) .bool (.p1 (.aWS (.slice 5 (.int .u8)) .bool) .str (.Z 0))) (aG (.aWS (.aWS (.slice 5 (.int .u8)) .bool) .str) 1 (.Z 0))) <|
 .ret (.aWU (.slice 5 (.int .u8)) .bool (.Z 1) (.cb true))) (
 .aWT (.seq false) (.aWU .str .str (aG (.aWS (.aWS (.slice 5 (.int .u8)) .bool) .str) 1 (.Z 0)) (.cs ⟨#[]⟩)) <|
 .aWT (.lapps 5) (.aWU (.slice 5 (.int .u8)) .str (.p1 (.slice 5 (.int .u8)) .bool (.p1 (.aWS (.slice 5 (.int .u8)) .bool) .str (.Z 0))) (aG (.aWS (.aWS (.slice 5 (.int .u8)) .bool) .str) 1 (.Z 0))) <|
 .ret (.aWU (.slice 5 (.int .u8)) .bool (.Z 2) (.Z 1)))
theorem aC7:cW Tryz.prog [] cF false 3000 ⟨[],[]⟩ = .ok pJ:=by kernel_rfl
theorem aD9 (x:(fN × Bool) × (ByteArray)) (hx:okD (.aWS (.aWS (.slice 5 (.int .u8)) .bool) .str) x) (hp:(fun x=>x.1.1.length≤1000000000000∧x.2.size≤1000000000000) x):pJ.wp [] [⟨(.aWS (.aWS (.slice 5 (.int .u8)) .bool) .str),x⟩] [] (fun v=>v.as (.aWS (.slice 5 (.int .u8)) .bool)=(fun x=>jM x.1 x.2) x):=by
 obtain ⟨⟨p,b⟩,s⟩:=x
 obtain ⟨h1,h2⟩:p.length≤1000000000000∧s.size≤1000000000000:=hp
 delta pJ;refine jN ?_
 refine ⟨fun hb=>⟨by omega,fun _=>?_⟩,fun hb=>⟨by omega,fun _=>?_⟩⟩
 ·unfold jM;dsimp only at hb ⊢;rw[hb];rfl
 ·unfold jM isE;dsimp only at hb ⊢;rw[hb];simp
theorem kT:Con.Holds Tryz.prog cF:=aX bI aY aC7 aD9
def iE:Con:=⟨87,(.aWS (.aWS (.slice 5 (.int .u8)) .bool) aF),(.aWS (.slice 5 (.int .u8)) .bool),[.box 105 ⟨true,(.aWS (.slice 5 (.int .u8)) .bool),[2,0]⟩,.val ⟨false,aF,[]⟩],[],false,none,
 ((fun x=>x.1.1.length≤100000000000∧x.2.length≤10000000):((fN × Bool) × eT)→Prop),
 ((fun x=>bN x.1 (dN x.2)):((fN × Bool) × eT)→(fN × Bool))⟩
def nD:T :=
 .aWT (.aWW 117 aA) (aG (.aWS (.aWS (.slice 5 (.int .u8)) .bool) aF) 1 (.Z 0)) <|
 .call 0 (.Z 1) <|
 .call 1 (.aWU (.aWS (.slice 5 (.int .u8)) .bool) .str (.p1 (.aWS (.slice 5 (.int .u8)) .bool) aF (.Z 0)) (.Z 2)) <|
 .aWT (.aWW 117 aA) (aG (.aWS (.aWS (.slice 5 (.int .u8)) .bool) aF) 1 (.Z 0)) <|
 .loop (.aWS tI (.aWS .bool (.slice 5 (.int .u8)))) (aQ (.aWS tI (.aWS .bool (.slice 5 (.int .u8)))) [(.ci .i64 0),(aG (.aWS (.slice 5 (.int .u8)) .bool) 1 (.Z 3)),(.p1 (.slice 5 (.int .u8)) .bool (.Z 3))]) <|
  .aWT (.cmp .lss .i64) (.aWU tI tI (.p1 tI (.aWS .bool (.slice 5 (.int .u8))) (.Z 5)) (.Z 4)) <|
  .ite (.Z 6) (
   .aWT (.aWX 117 aA) (.aWU aF tI (aG (.aWS (.aWS (.slice 5 (.int .u8)) .bool) aF) 1 (.Z 0)) (.p1 tI (.aWS .bool (.slice 5 (.int .u8))) (.Z 5))) <|
   .call 2 (.Z 7) <|
   .call 1 (.aWU (.aWS (.slice 5 (.int .u8)) .bool) .str (.aWU (.slice 5 (.int .u8)) .bool (aG (.aWS tI (.aWS .bool (.slice 5 (.int .u8)))) 2 (.Z 5)) (aO (.aWS tI (.aWS .bool (.slice 5 (.int .u8)))) 1 (.Z 5))) (.Z 8)) <|
   .aWT (.ar .add .i64) (.aWU tI tI (.p1 tI (.aWS .bool (.slice 5 (.int .u8))) (.Z 5)) (.ci .i64 1)) <|
   .aWV 0 (aQ (.aWS tI (.aWS .bool (.slice 5 (.int .u8)))) [(.Z 10),(aG (.aWS (.slice 5 (.int .u8)) .bool) 1 (.Z 9)),(.p1 (.slice 5 (.int .u8)) .bool (.Z 9))])) (
   .ret (.aWU (.slice 5 (.int .u8)) .bool (aG (.aWS tI (.aWS .bool (.slice 5 (.int .u8)))) 2 (.Z 5)) (aO (.aWS tI (.aWS .bool (.slice 5 (.int .u8)))) 1 (.Z 5))))
theorem aBB:cW Tryz.prog [eN,cF,dM] iE false 3000 ⟨[(2994,1005,fG 10 6++[.dr 1,.tm 13 0,.bx 1 1,.sl 3])],[]⟩ = .ok nD:=by kernel_rfl
theorem aBC (x:(fN × Bool) × eT) (hx:okD (.aWS (.aWS (.slice 5 (.int .u8)) .bool) aF) x) (hp:(fun x=>x.1.1.length≤100000000000∧x.2.length≤10000000) x):nD.wp [eN,cF,dM] [⟨(.aWS (.aWS (.slice 5 (.int .u8)) .bool) aF),x⟩] [] (fun v=>v.as (.aWS (.slice 5 (.int .u8)) .bool)=(fun x=>bN x.1 (dN x.2)) x):=by
 obtain ⟨w,l⟩:=x
 obtain ⟨h1,h2⟩:w.1.length≤100000000000∧l.length≤10000000:=hp
 delta nD eN cF dM;refine jN ?_
 have h3:=aM1 l.length
 have h4:(jM w (fP l.length)).1.length≤w.1.length+1608:=dI w [fP l.length] (cR h3 iC)
 refine fun _=>⟨by omega,fun _=>⟨by omega,fun _ _=>?_⟩⟩
 refine ⟨fun s=>∃ k:Nat,k≤l.length∧s=((k:Int),(bN w ((dN l).take (k+1))).2,(bN w ((dN l).take (k+1))).1),fun s=>l.length - (s.1:Int).toNat,⟨0,by omega,rfl⟩,fun s _ hI=>?_⟩
 obtain ⟨k,hk,rfl⟩:=hI
 dsimp only
 refine gJ ?_
 constructor
 ·intro hlt
  have hk':k<l.length:=by omega
  rw[bG hk']
  have h5:=dI w ((dN l).take (k+1)) (fun p hp=>kV l p (List.mem_of_mem_take hp))
  have h6:=aW (l[k]'hk')
  rw[List.length_take] at h5
  have e:jM (bN w ((dN l).take (k+1))) (cC (l[k]'hk'))=bN w ((dN l).take (k+2)):=by rw[← aDH l hk',fQ];rfl
  (repeat' first|intro _|(with_reducible apply And.intro))
  all_goals first|omega|skip
  exact ⟨k+1,by omega,by rw[← e];rfl⟩
 ·intro hge
  have:k=l.length:=by omega
  subst this
  rw[aG2]
theorem aBL:Con.Holds Tryz.prog iE:=aX bI (aR tC (aR kT (aR pW aY))) aBB aBC
def eA:Con:=⟨65,(.aWS (.slice 5 (.int .u8)) .bool),(.aWS .str (.aWS (.slice 5 (.int .u8)) .bool)),[.box 105 ⟨true,(.aWS (.slice 5 (.int .u8)) .bool),[2,0]⟩],[⟨false,.str,[0]⟩],false,none,
 ((fun _=>True):(fN × Bool)→Prop),
 ((fun x=>(if x.2=true then ⟨#[]⟩ else dD x.1,x)):(fN × Bool)→((ByteArray) × (fN × Bool)))⟩
def nF:T:=.ite (aG (.aWS (.slice 5 (.int .u8)) .bool) 1 (.Z 0)) (.ret (.aWU .str (.aWS (.slice 5 (.int .u8)) .bool) (.cs ⟨#[]⟩) (.Z 0))) (
 .aWT (.b2s 5) (.p1 (.slice 5 (.int .u8)) .bool (.Z 0)) <|
 .ret (.aWU .str (.aWS (.slice 5 (.int .u8)) .bool) (.Z 1) (.Z 0)))
theorem aBF:cW Tryz.prog [] eA false 3000 ⟨[],[]⟩ = .ok nF:=by kernel_rfl
theorem aBH (x:fN × Bool) (hx:okD (.aWS (.slice 5 (.int .u8)) .bool) x) (hp:(fun _=>True) x):nF.wp [] [⟨(.aWS (.slice 5 (.int .u8)) .bool),x⟩] [] (fun v=>v.as (.aWS .str (.aWS (.slice 5 (.int .u8)) .bool))=(fun x=>(if x.2=true then ⟨#[]⟩ else dD x.1,x)) x):=by
 delta nF;refine jN ?_
 refine ⟨fun h=>?_,fun h _=>?_⟩
 ·rw[if_pos h]
 ·rw[if_neg (by rw[h];decide)]
theorem sP:Con.Holds Tryz.prog eA:=aX bI aY aBF aBH
def yZ:Con:=⟨86,.bool,tI,[.val ⟨false,.bool,[]⟩],[⟨false,tI,[0]⟩],false,none,
 ((fun _=>True):(Bool)→Prop),
 ((fun x=>b01 x):(Bool)→(Int))⟩
def aHN:T:=.ite (.Z 0) (.ret (.ci .i64 1)) (.ret (.ci .i64 0))
theorem aUT:cW Tryz.prog [] yZ false 3000 ⟨[],[]⟩ = .ok aHN:=by kernel_rfl
theorem aUS (x:Bool) (hx:okD .bool x) (hp:(fun _=>True) x):aHN.wp [] [⟨.bool,x⟩] [] (fun v=>v.as tI=(fun x=>b01 x) x):=by
 delta aHN;refine jN ?_
 refine ⟨fun h=>?_,fun h=>?_⟩ <;> unfold b01 <;> rw[h] <;> rfl
theorem aTS:Con.Holds Tryz.prog yZ:=aX bI aY aUT aUS
def mQ:Con:=⟨76,.bool,tI,[.val ⟨false,.bool,[]⟩],[⟨false,tI,[0]⟩],false,none,
 ((fun _=>True):(Bool)→Prop),
 ((fun x=>b01 x):(Bool)→(Int))⟩
def tK:T:=.ite (.Z 0) (.ret (.ci .i64 1)) (.ret (.ci .i64 0))
theorem aJE:cW Tryz.prog [] mQ false 3000 ⟨[],[]⟩ = .ok tK:=by kernel_rfl
theorem aJ7 (x:Bool) (hx:okD .bool x) (hp:(fun _=>True) x):tK.wp [] [⟨.bool,x⟩] [] (fun v=>v.as tI=(fun x=>b01 x) x):=by
 delta tK;refine jN ?_
 refine ⟨fun h=>?_,fun h=>?_⟩ <;> unfold b01 <;> rw[h] <;> rfl
theorem aJH:Con.Holds Tryz.prog mQ:=aX bI aY aJE aJ7
def mO:Con:=⟨77,aF,.str,[.val ⟨false,aF,[]⟩],[⟨false,.str,[0]⟩],false,none,
 ((fun x=>x.length≤10000000):(eT)→Prop),
 ((fun x=>cK ⟨#[]⟩ (dN x)):(eT)→(ByteArray))⟩
def uG:T :=
 .aWT (.aWW 117 aA) (.Z 0) <|
 .call 0 (.Z 1) <|
 .loop (.aWS tI .str) (.aWU tI .str (.ci .i64 0) (.Z 2)) <|
  .aWT (.aWW 117 aA) (.Z 0) <|
  .aWT (.cmp .lss .i64) (.aWU tI tI (.p1 tI .str (.Z 3)) (.Z 4)) <|
  .ite (.Z 5) (
   .aWT (.aWX 117 aA) (.aWU aF tI (.Z 0) (.p1 tI .str (.Z 3))) <|
   .call 1 (.Z 6) <|
   .aWT .sadd (.aWU .str .str (aG (.aWS tI .str) 1 (.Z 3)) (.Z 7)) <|
   .aWT (.ar .add .i64) (.aWU tI tI (.p1 tI .str (.Z 3)) (.ci .i64 1)) <|
   .aWV 0 (.aWU tI .str (.Z 9) (.Z 8))) (
   .ret (aG (.aWS tI .str) 1 (.Z 3)))
theorem aJL:cW Tryz.prog [iU,cL] mO false 3000 ⟨[(2991,1003,fG 7 5++[.tm 4 0,.tm 3 0])],[]⟩ = .ok uG:=by kernel_rfl
theorem aLN (x:eT) (hx:okD aF x) (hp:(fun x=>x.length≤10000000) x):uG.wp [iU,cL] [⟨aF,x⟩] [] (fun v=>v.as .str=(fun x=>cK ⟨#[]⟩ (dN x)) x):=by
 have h2:List.length x≤10000000:=hp
 delta uG iU cL;refine jN ?_
 have h3:=aM1 (List.length x)
 refine fun _=>⟨by omega,fun _=>?_⟩
 refine ⟨fun s=>∃ k:Nat,k≤x.length∧s=((k:Int),cK ⟨#[]⟩ ((dN x).take (k+1))),fun s=>x.length - (s.1:Int).toNat,⟨0,by omega,?_⟩,fun s _ hI=>?_⟩
 ·rw[aPZ,gC];exact Prod.ext rfl (by apply ByteArray.ext;simp[ByteArray.data_append])
 obtain ⟨k,hk,rfl⟩:=hI
 dsimp only
 refine gJ ?_
 intro _
 constructor
 ·intro hlt
  have hk':k<x.length:=by omega
  rw[bG hk']
  have h5:=fX ⟨#[]⟩ ((dN x).take (k+1)) (fun p hp=>kV x p (List.mem_of_mem_take hp))
  have h6:=aW (x[k]'hk')
  rw[List.length_take,show (⟨#[]⟩:ByteArray).size=0 from rfl] at h5
  have e:cK ⟨#[]⟩ ((dN x).take (k+1))++cC (x[k]'hk')=cK ⟨#[]⟩ ((dN x).take (k+2)):=by rw[← aDH x hk',jZ];rfl
  (repeat' first|intro _|(with_reducible apply And.intro))
  all_goals first|omega|(unfold maxLen;omega)|skip
  exact ⟨k+1,by omega,by rw[← e];rfl⟩
 ·intro hge
  have:k=x.length:=by omega
  subst this
  rw[aG2]
theorem aJN:Con.Holds Tryz.prog mO:=aX bI (aR aDL (aR mT aY)) aJL aLN
def mS:Con:=⟨95,aF,.bool,[.val ⟨false,aF,[]⟩],[⟨false,.bool,[0]⟩],false,none,
 ((fun _=>True):(eT)→Prop),
 ((fun x=>x.all gV):(eT)→(Bool))⟩
def uJ:T:=.loop tI (.ci .i64 0) <|
 .aWT (.aWW 117 aA) (.Z 0) <|
 .aWT (.cmp .lss .i64) (.aWU tI tI (.Z 1) (.Z 2)) <|
 .ite (.Z 3) (
  .aWT (.aWX 117 aA) (.aWU aF tI (.Z 0) (.Z 1)) <|
  .call 0 (.Z 4) <|
  .aWT (.seq false) (.aWU .str .str (.Z 5) (.cs ⟨#[]⟩)) <|
  .ite (.Z 6) (
   .ret (.cb false)) (
   .aWT (.ar .add .i64) (.aWU tI tI (.Z 1) (.ci .i64 1)) <|
   .aWV 0 (.Z 7))) (
  .ret (.cb true))
theorem aKL:cW Tryz.prog [cL] mS false 3000 ⟨[(2993,1001,[.tm 3 0])],[]⟩ = .ok uJ:=by kernel_rfl
theorem aKK (x:eT) (hx:okD aF x) (hp:(fun _=>True) x):uJ.wp [cL] [⟨aF,x⟩] [] (fun v=>v.as .bool=(fun x=>x.all gV) x):=by
 have h2:List.length x≤9223372036854775807:=hx.1
 delta uJ cL;refine jN ?_
 refine ⟨fun s=>∃ k:Nat,k≤x.length∧s=(k:Int)∧(x.take k).all gV=true,fun s=>x.length - (s:Int).toNat,⟨0,by omega,rfl,rfl⟩,fun s _ hI=>?_⟩
 obtain ⟨k,hk,rfl,ha⟩:=hI
 refine gJ ?_
 intro _
 constructor
 ·intro hlt
  have hk':k<x.length:=by omega
  rw[bG hk']
  have e:=qY gV x hk'
  have e2:=kW (x[k]'hk')
  unfold isE at e2
  (repeat' first|intro _|(with_reducible apply And.intro))
  all_goals first|omega|skip
  ·refine (yB hk' ?_).symm;rw[decide_eq_true (Classical.not_not.1 (by assumption))] at e2;simpa using e2.symm
  ·refine ⟨k+1,by omega,rfl,?_⟩;rw[decide_eq_false (by assumption)] at e2;rw[e,ha];simpa using e2.symm
 ·intro hge
  have:k=x.length:=by omega
  subst this
  rw[List.take_length] at ha
  exact ha.symm
theorem aKG:Con.Holds Tryz.prog mS:=aX bI (aR mT aY) aKL aKK
theorem kQ {x:bA} (h:¬ vM x):(⟨#[]⟩:ByteArray)=dF x:=by unfold dF;rw[if_neg (fun hh=>h hh.1)]
theorem zL {x:bA} (h:vM x):dF x=if (kG x).all gV=true then cK ⟨#[]⟩ (dB x) else ⟨#[]⟩:=by
 unfold dF
 cases (kG x).all gV
 ·rw[if_neg (fun hh=>by cases hh.2),if_neg (by decide)]
 ·rw[if_pos ⟨h,rfl⟩,if_pos rfl]
def aJW (v:List Int):List ByteArray:=[cC v]
theorem aTQ (v:List Int):szP (aJW v):=cR (aW _) iC
theorem aQW (W:WrD) {x:bA} (h:vM x) (hW:W=bN ([],false) (dB x)):(if W.2=true then (⟨#[]⟩:ByteArray) else dD W.1)=dF x:=by
 rw[hW,aQF h,zL h]
 dsimp only
 rw[aG1]
 cases (kG x).all gV <;> rfl
def jW:Con:=⟨63,aB,.str,[.val ⟨true,aB,[]⟩],[⟨false,.str,[0]⟩],false,none,
 ((fun _=>True):(bA)→Prop),
 ((fun x=>dF x):(bA)→(ByteArray))⟩
def qG:T:=.call 0 (.Z 0) <|
 .aWT .not (.Z 1) <|
 .ite (.Z 2) (
  .ret (.cs ⟨#[]⟩)) (
  .aWT (.aWW 88 aJ) (aO aB 1 (.Z 0)) <|
  .aWT (.cmp .gtr .i64) (.aWU tI tI (.Z 3) (.ci .i64 100)) <|
  .ite (.Z 4) (
   .ret (.cs ⟨#[]⟩)) (
   .aWT (.aWW 94 aD) (aO aB 5 (.Z 0)) <|
   .aWT (.cmp .gtr .i64) (.aWU tI tI (.Z 5) (.ci .i64 5)) <|
   .ite (.Z 6) (
    .ret (.cs ⟨#[]⟩)) (
    .aWT (.aWW 117 aA) (aO aB 6 (.Z 0)) <|
    .aWT (.cmp .gtr .i64) (.aWU tI tI (.Z 7) (.ci .i64 20)) <|
    .ite (.Z 8) (
     .ret (.cs ⟨#[]⟩)) (
     .aWT (.aWW 88 aJ) (aO aB 1 (.Z 0)) <|
     .aWT (.aWW 90 aZ) (aO aB 2 (.Z 0)) <|
     .aWT (.aWW 94 aD) (aO aB 5 (.Z 0)) <|
     .call 1 (aO aB 3 (.Z 0)) <|
     .call 1 (aO aB 4 (.Z 0)) <|
     .call 1 (aG aB 13 (.Z 0)) <|
     .aWT (.lit 3 tI 8) (aQ (.aWS tI (.aWS tI (.aWS tI (.aWS tI (.aWS tI (.aWS tI aJ)))))) [(.p1 tI aN8 (.Z 0)),(.Z 12),(.Z 13),(aO aB 12 (.Z 0)),(.Z 14),(.Z 9),(.Z 10),(.Z 11)]) <|
     .call 2 (.Z 15) <|
     .call 3 (.aWU (.aWS (.slice 5 (.int .u8)) .bool) .str (.aWU (.slice 5 (.int .u8)) .bool (.nl 5 (.int .u8)) (.cb false)) (.Z 16)) <|
     .aWT (.aWW 88 aJ) (aO aB 1 (.Z 0)) <|
     .loop (.aWS tI (.aWS .bool (.slice 5 (.int .u8)))) (aQ (.aWS tI (.aWS .bool (.slice 5 (.int .u8)))) [(.ci .i64 0),(aG (.aWS (.slice 5 (.int .u8)) .bool) 1 (.Z 17)),(.p1 (.slice 5 (.int .u8)) .bool (.Z 17))]) <|
      .aWT (.cmp .lss .i64) (.aWU tI tI (.p1 tI (.aWS .bool (.slice 5 (.int .u8))) (.Z 19)) (.Z 18)) <|
      .ite (.Z 20) (
       .aWT (.aWX 88 aJ) (.aWU bD tI (aO aB 1 (.Z 0)) (.p1 tI (.aWS .bool (.slice 5 (.int .u8))) (.Z 19))) <|
       .aWT (.lit 3 tI 2) (.Z 21) <|
       .call 2 (.Z 22) <|
       .call 3 (.aWU (.aWS (.slice 5 (.int .u8)) .bool) .str (.aWU (.slice 5 (.int .u8)) .bool (aG (.aWS tI (.aWS .bool (.slice 5 (.int .u8)))) 2 (.Z 19)) (aO (.aWS tI (.aWS .bool (.slice 5 (.int .u8)))) 1 (.Z 19))) (.Z 23)) <|
       .aWT (.ar .add .i64) (.aWU tI tI (.p1 tI (.aWS .bool (.slice 5 (.int .u8))) (.Z 19)) (.ci .i64 1)) <|
       .aWV 0 (aQ (.aWS tI (.aWS .bool (.slice 5 (.int .u8)))) [(.Z 25),(aG (.aWS (.slice 5 (.int .u8)) .bool) 1 (.Z 24)),(.p1 (.slice 5 (.int .u8)) .bool (.Z 24))])) (
       .aWT (.aWW 90 aZ) (aO aB 2 (.Z 0)) <|
       .loop (.aWS tI (.aWS .bool (.slice 5 (.int .u8)))) (.aWU tI (.aWS .bool (.slice 5 (.int .u8))) (.ci .i64 0) (aG (.aWS tI (.aWS .bool (.slice 5 (.int .u8)))) 1 (.Z 19))) <|
        .aWT (.cmp .lss .i64) (.aWU tI tI (.p1 tI (.aWS .bool (.slice 5 (.int .u8))) (.Z 22)) (.Z 21)) <|
        .ite (.Z 23) (
         .aWT (.aWX 90 aZ) (.aWU aK tI (aO aB 2 (.Z 0)) (.p1 tI (.aWS .bool (.slice 5 (.int .u8))) (.Z 22))) <|
         .aWT (.lit 3 tI 3) (aQ (.aWS tI aJ) [(.p1 tI (.aWS tI aP) (.Z 24)),(aO aZ 1 (.Z 24)),(aO aZ 2 (.Z 24))]) <|
         .call 2 (.Z 25) <|
         .call 3 (.aWU (.aWS (.slice 5 (.int .u8)) .bool) .str (.aWU (.slice 5 (.int .u8)) .bool (aG (.aWS tI (.aWS .bool (.slice 5 (.int .u8)))) 2 (.Z 22)) (aO (.aWS tI (.aWS .bool (.slice 5 (.int .u8)))) 1 (.Z 22))) (.Z 26)) <|
         .call 2 (aG aZ 3 (.Z 24)) <|
         .call 3 (.aWU (.aWS (.slice 5 (.int .u8)) .bool) .str (.Z 27) (.Z 28)) <|
         .aWT (.ar .add .i64) (.aWU tI tI (.p1 tI (.aWS .bool (.slice 5 (.int .u8))) (.Z 22)) (.ci .i64 1)) <|
         .aWV 0 (aQ (.aWS tI (.aWS .bool (.slice 5 (.int .u8)))) [(.Z 30),(aG (.aWS (.slice 5 (.int .u8)) .bool) 1 (.Z 29)),(.p1 (.slice 5 (.int .u8)) .bool (.Z 29))])) (
         .aWT (.aWW 94 aD) (aO aB 5 (.Z 0)) <|
         .loop (.aWS tI (.aWS .bool (.slice 5 (.int .u8)))) (.aWU tI (.aWS .bool (.slice 5 (.int .u8))) (.ci .i64 0) (aG (.aWS tI (.aWS .bool (.slice 5 (.int .u8)))) 1 (.Z 22))) <|
          .aWT (.cmp .lss .i64) (.aWU tI tI (.p1 tI (.aWS .bool (.slice 5 (.int .u8))) (.Z 25)) (.Z 24)) <|
          .ite (.Z 26) (
           .aWT (.aWX 94 aD) (.aWU (.slice 94 aD) tI (aO aB 5 (.Z 0)) (.p1 tI (.aWS .bool (.slice 5 (.int .u8))) (.Z 25))) <|
           .aWT (.lit 3 tI 1) (.p1 tI aF (.Z 27)) <|
           .call 2 (.Z 28) <|
           .call 3 (.aWU (.aWS (.slice 5 (.int .u8)) .bool) .str (.aWU (.slice 5 (.int .u8)) .bool (aG (.aWS tI (.aWS .bool (.slice 5 (.int .u8)))) 2 (.Z 25)) (aO (.aWS tI (.aWS .bool (.slice 5 (.int .u8)))) 1 (.Z 25))) (.Z 29)) <|
           .call 4 (.aWU (.aWS (.slice 5 (.int .u8)) .bool) aF (.Z 30) (aG aD 1 (.Z 27))) <|
           .aWT (.ar .add .i64) (.aWU tI tI (.p1 tI (.aWS .bool (.slice 5 (.int .u8))) (.Z 25)) (.ci .i64 1)) <|
           .aWV 0 (aQ (.aWS tI (.aWS .bool (.slice 5 (.int .u8)))) [(.Z 32),(aG (.aWS (.slice 5 (.int .u8)) .bool) 1 (.Z 31)),(.p1 (.slice 5 (.int .u8)) .bool (.Z 31))])) (
           .call 4 (.aWU (.aWS (.slice 5 (.int .u8)) .bool) aF (.aWU (.slice 5 (.int .u8)) .bool (aG (.aWS tI (.aWS .bool (.slice 5 (.int .u8)))) 2 (.Z 25)) (aO (.aWS tI (.aWS .bool (.slice 5 (.int .u8)))) 1 (.Z 25))) (aO aB 6 (.Z 0))) <|
           .aWT (.lit 44 aA 4) (aQ (.aWS aA (.aWS aA aM)) [(aO aB 7 (.Z 0)),(aO aB 8 (.Z 0)),(aO aB 9 (.Z 0)),(aO aB 10 (.Z 0))]) <|
           .aWT (.aWW 44 aA) (.Z 28) <|
           .loop (.aWS tI (.aWS .bool (.slice 5 (.int .u8)))) (aQ (.aWS tI (.aWS .bool (.slice 5 (.int .u8)))) [(.ci .i64 0),(aG (.aWS (.slice 5 (.int .u8)) .bool) 1 (.Z 27)),(.p1 (.slice 5 (.int .u8)) .bool (.Z 27))]) <|
            .aWT (.cmp .lss .i64) (.aWU tI tI (.p1 tI (.aWS .bool (.slice 5 (.int .u8))) (.Z 30)) (.Z 29)) <|
            .ite (.Z 31) (
             .aWT (.aWX 44 aA) (.aWU (.slice 44 aA) tI (.Z 28) (.p1 tI (.aWS .bool (.slice 5 (.int .u8))) (.Z 30))) <|
             .aWT (.aWX 44 aA) (.aWU (.slice 44 aA) tI (.Z 28) (.p1 tI (.aWS .bool (.slice 5 (.int .u8))) (.Z 30))) <|
             .call 2 (.Z 33) <|
             .call 3 (.aWU (.aWS (.slice 5 (.int .u8)) .bool) .str (.aWU (.slice 5 (.int .u8)) .bool (aG (.aWS tI (.aWS .bool (.slice 5 (.int .u8)))) 2 (.Z 30)) (aO (.aWS tI (.aWS .bool (.slice 5 (.int .u8)))) 1 (.Z 30))) (.Z 34)) <|
             .aWT (.ar .add .i64) (.aWU tI tI (.p1 tI (.aWS .bool (.slice 5 (.int .u8))) (.Z 30)) (.ci .i64 1)) <|
             .aWV 0 (aQ (.aWS tI (.aWS .bool (.slice 5 (.int .u8)))) [(.Z 36),(aG (.aWS (.slice 5 (.int .u8)) .bool) 1 (.Z 35)),(.p1 (.slice 5 (.int .u8)) .bool (.Z 35))])) (
             .call 4 (.aWU (.aWS (.slice 5 (.int .u8)) .bool) aF (.aWU (.slice 5 (.int .u8)) .bool (aG (.aWS tI (.aWS .bool (.slice 5 (.int .u8)))) 2 (.Z 30)) (aO (.aWS tI (.aWS .bool (.slice 5 (.int .u8)))) 1 (.Z 30))) (aO aB 11 (.Z 0))) <|
             .call 5 (.Z 32) <|
             .ret (.p1 .str (.aWS (.slice 5 (.int .u8)) .bool) (.Z 33))))))))))
theorem aEH:cW Tryz.prog [gZ,yZ,dM,cF,iE,eA] jW false 3000 ⟨[(2984,16019,fG 63 60++[.dr 50,.dr 43,.dr 40,.dr 59,.dr 58,.dr 56,.dr 55,.dr 53,.dr 52,.dr 49,.dr 46,.dr 42,.dr 39,.dr 37,.dr 57,.dr 54,.dr 51,.dr 48,.dr 47,.dr 45,.dr 44,.dr 41,.dr 38]++fG 36 12++[.dr 0,.tm 66 0,.bx 2 1,.sl 5]),(2974,32022,[.dr 79]++fG 67 64++[.tm 82 0,.bx 2 1,.sl 5]),(2964,64025,[.dr 102]++fG 83 80++[.tm 105 0,.bx 2 1,.sl 5]),(2952,128030,fG 131 120++fG 106 103++[.tm 134 0,.bx 2 1,.sl 6])],[]⟩ = .ok qG:=by kernel_rfl
theorem aER (x:bA) (hx:okD aB x) (hp:(fun _=>True) x):qG.wp [gZ,yZ,dM,cF,iE,eA] [⟨aB,x⟩] [] (fun v=>v.as .str=(fun x=>dF x) x):=by
 delta qG gZ yZ dM cF iE eA;refine jN ?_
 refine gJ ?_
 refine ⟨fun h=>kQ fun hl=>(by have:=hl.1;rw[h] at this;cases this),fun h1 _=>⟨fun h=>kQ fun hl=>by have:=hl.2.1;omega,fun h2 _=>⟨fun h=>kQ fun hl=>by have:=hl.2.2.1;omega,fun h3 _=>⟨fun h=>kQ fun hl=>by have:=hl.2.2.2;omega,fun h4=>?_⟩⟩⟩⟩
 have hl:vM x:=⟨h1,by omega,by omega,by omega⟩
 have hm:=(cB _).1 ((dA x).1 h1).1
 have hg:=((jU _ _).1 ((dA x).1 h1).2.2.1).1
 have hkp:=yH h1
 have hv:=aW (kM x)
 obtain ⟨W1,hW1⟩:∃ W1,W1=jM ([],false) (cC (kM x)):=⟨_,rfl⟩
 have z1:W1.1.length≤1608:=by rw[hW1];exact dI ([],false) [cC (kM x)] (cR hv iC)
 (repeat' first|intro _|(with_reducible apply And.intro))
 all_goals first|omega|(exact Nat.le_trans (aW _) (by decide))|skip
 refine ⟨fun s=>∃ k:Nat,k≤x.2.1.length∧s=((k:Int),(bN W1 ((x.2.1.take k).flatMap mA)).2,(bN W1 ((x.2.1.take k).flatMap mA)).1),fun s=>x.2.1.length - (s.1:Int).toNat,⟨0,by omega,by rw[hW1];rfl⟩,fun s _ hI=>?_⟩
 obtain ⟨k,hk,rfl⟩:=hI
 have y1:=dI W1 ((x.2.1.take k).flatMap mA) (iS _ aIH)
 have y2:=fL mA 1 (x.2.1.take k) (fun _ _=>Nat.le_refl _)
 rw[List.length_take] at y2
 dsimp only
 refine gJ ?_
 constructor
 ·intro hlt
  have hk':k<x.2.1.length:=by omega
  rw[bG hk']
  have e:jM (bN W1 ((x.2.1.take k).flatMap mA)) (cC [(x.2.1[k]'hk').1,(x.2.1[k]'hk').2])=bN W1 ((x.2.1.take (k+1)).flatMap mA):=by rw[gA mA x.2.1 hk',fQ];rfl
  (repeat' first|intro _|(with_reducible apply And.intro))
  all_goals first|omega|(exact Nat.le_trans (aW _) (by decide))|(exact Nat.le_trans e1 (by omega))|skip
  exact ⟨k+1,by omega,by rw[← e];rfl⟩
 intro hge
 obtain rfl:k=x.2.1.length:=by omega
 rw[List.take_length] at y1 y2 ⊢
 obtain ⟨W2,hW2⟩:∃ W2,W2=bN W1 (x.2.1.flatMap mA):=⟨_,rfl⟩
 rw[← hW2] at y1 ⊢
 intro _
 refine ⟨fun s=>∃ k:Nat,k≤x.2.2.1.length∧s=((k:Int),(bN W2 ((x.2.2.1.take k).flatMap xF)).2,(bN W2 ((x.2.2.1.take k).flatMap xF)).1),fun s=>x.2.2.1.length - (s.1:Int).toNat,⟨0,by omega,rfl⟩,fun s _ hI=>?_⟩
 obtain ⟨k,hk,rfl⟩:=hI
 have y3:=dI W2 ((x.2.2.1.take k).flatMap xF) (iS _ aNM)
 have y4:=fL xF 2 (x.2.2.1.take k) (fun _ _=>Nat.le_refl _)
 rw[List.length_take] at y4
 dsimp only
 refine gJ ?_
 constructor
 ·intro hlt
  have hk':k<x.2.2.1.length:=by omega
  rw[bG hk']
  have e:jM (jM (bN W2 ((x.2.2.1.take k).flatMap xF)) (cC [(x.2.2.1[k]'hk').1,(x.2.2.1[k]'hk').2.1,(x.2.2.1[k]'hk').2.2.1])) (cC (x.2.2.1[k]'hk').2.2.2)=bN W2 ((x.2.2.1.take (k+1)).flatMap xF):=by rw[gA xF x.2.2.1 hk',fQ];rfl
  have e1:(jM (bN W2 ((x.2.2.1.take k).flatMap xF)) (cC [(x.2.2.1[k]'hk').1,(x.2.2.1[k]'hk').2.1,(x.2.2.1[k]'hk').2.2.1])).1.length≤(bN W2 ((x.2.2.1.take k).flatMap xF)).1.length+1608:=dI _ [_] (cR (aW _) iC)
  (repeat' first|intro _|(with_reducible apply And.intro))
  all_goals first|omega|(exact Nat.le_trans (aW _) (by decide))|(exact Nat.le_trans e1 (by omega))|skip
  exact ⟨k+1,by omega,by rw[← e];rfl⟩
 intro hge
 obtain rfl:k=x.2.2.1.length:=by omega
 rw[List.take_length] at y3 y4 ⊢
 obtain ⟨W3,hW3⟩:∃ W3,W3=bN W2 (x.2.2.1.flatMap xF):=⟨_,rfl⟩
 rw[← hW3] at y3 ⊢
 intro _
 refine ⟨fun s=>∃ k:Nat,k≤x.2.2.2.2.2.1.length∧s=((k:Int),(bN W3 ((x.2.2.2.2.2.1.take k).flatMap jL)).2,(bN W3 ((x.2.2.2.2.2.1.take k).flatMap jL)).1),fun s=>x.2.2.2.2.2.1.length - (s.1:Int).toNat,⟨0,by omega,rfl⟩,fun s _ hI=>?_⟩
 obtain ⟨k,hk,rfl⟩:=hI
 have y5:=dI W3 ((x.2.2.2.2.2.1.take k).flatMap jL) (iS _ aHB)
 have y6:=fL jL 11 (x.2.2.2.2.2.1.take k) (fun a ha=>by have:=hkp a (List.mem_of_mem_take ha);unfold jL;rw[List.length_cons,jC];omega)
 rw[List.length_take] at y6
 dsimp only
 refine gJ ?_
 constructor
 ·intro hlt
  have hk':k<x.2.2.2.2.2.1.length:=by omega
  rw[bG hk']
  have hkk:=hkp _ (List.getElem_mem hk')
  have e:bN (jM (bN W3 ((x.2.2.2.2.2.1.take k).flatMap jL)) (cC [(x.2.2.2.2.2.1[k]'hk').1])) (dN (x.2.2.2.2.2.1[k]'hk').2)=bN W3 ((x.2.2.2.2.2.1.take (k+1)).flatMap jL):=by rw[gA jL x.2.2.2.2.2.1 hk',fQ];rfl
  have e1:(jM (bN W3 ((x.2.2.2.2.2.1.take k).flatMap jL)) (cC [(x.2.2.2.2.2.1[k]'hk').1])).1.length≤(bN W3 ((x.2.2.2.2.2.1.take k).flatMap jL)).1.length+1608:=dI _ [_] (cR (aW _) iC)
  (repeat' first|intro _|(with_reducible apply And.intro))
  all_goals first|omega|(exact Nat.le_trans (aW _) (by decide))|(exact Nat.le_trans e1 (by omega))|skip
  exact ⟨k+1,by omega,by rw[← e];rfl⟩
 intro hge
 obtain rfl:k=x.2.2.2.2.2.1.length:=by omega
 rw[List.take_length] at y5 y6 ⊢
 obtain ⟨W4,hW4⟩:∃ W4,W4=bN W3 (x.2.2.2.2.2.1.flatMap jL):=⟨_,rfl⟩
 rw[← hW4] at y5 ⊢
 obtain ⟨W5,hW5⟩:∃ W5,W5=bN W4 (dN x.2.2.2.2.2.2.1):=⟨_,rfl⟩
 have y7:=dI W4 _ (kV x.2.2.2.2.2.2.1)
 rw[jC,← hW5] at y7
 refine ⟨⟨by omega,by omega⟩,?_⟩
 rw[← hW5]
 intro _ _ _
 obtain ⟨L,hL⟩:∃ L:eT,L=[x.2.2.2.2.2.2.2.1,x.2.2.2.2.2.2.2.2.1,x.2.2.2.2.2.2.2.2.2.1,x.2.2.2.2.2.2.2.2.2.2.1]:=⟨_,rfl⟩
 rw[← hL]
 have hL4:L.length=4:=by rw[hL];rfl
 refine ⟨fun s=>∃ k:Nat,k≤L.length∧s=((k:Int),(bN W5 ((L.take k).flatMap aJW)).2,(bN W5 ((L.take k).flatMap aJW)).1),fun s=>L.length - (s.1:Int).toNat,⟨0,by omega,rfl⟩,fun s _ hI=>?_⟩
 obtain ⟨k,hk,rfl⟩:=hI
 have y8:=dI W5 ((L.take k).flatMap aJW) (iS _ aTQ)
 have y9:=fL aJW 1 (L.take k) (fun _ _=>Nat.le_refl _)
 rw[List.length_take] at y9
 dsimp only
 refine gJ ?_
 constructor
 ·intro hlt
  have hk':k<L.length:=by omega
  rw[bG hk']
  have e:jM (bN W5 ((L.take k).flatMap aJW)) (cC (L[k]'hk'))=bN W5 ((L.take (k+1)).flatMap aJW):=by rw[gA aJW L hk',fQ];rfl
  (repeat' first|intro _|(with_reducible apply And.intro))
  all_goals first|omega|(exact Nat.le_trans (aW _) (by decide))|(exact Nat.le_trans e1 (by omega))|skip
  exact ⟨k+1,by omega,by rw[← e];rfl⟩
 intro hge
 obtain rfl:k=L.length:=by omega
 rw[List.take_length] at y8 y9 ⊢
 refine ⟨⟨by omega,by omega⟩,fun _=>fun _=>?_⟩
 refine aQW _ hl ?_
 unfold dB uR
 simp only[fQ]
 show _=bN (bN (bN (bN (bN (bN (jM ([],false) (cC (kM x))) _) _) _) _) _) _
 rw[← hW1,← hW2,← hW3,← hW4,← hW5,hL]
 rfl
theorem aEK:Con.Holds Tryz.prog jW:=aX bI (aR aAU (aR aTS (aR pW (aR kT (aR aBL (aR sP aY)))))) aEH aER
def gQ:Con:=⟨75,aB,.bool,[.val ⟨true,aB,[]⟩],[⟨false,.bool,[0]⟩],false,none,
 ((fun x=>vM x):(bA)→Prop),
 ((fun x=>(kG x).all gV):(bA)→(Bool))⟩
def lP:T :=
 .aWT (.lit 3 tI 2) (.aWU tI tI (.p1 tI aN8 (.Z 0)) (aO aB 12 (.Z 0))) <|
 .aWT (.lit 117 aA 5) (aQ (.aWS aA (.aWS aA (.aWS aA aM))) [(.Z 1),(aO aB 7 (.Z 0)),(aO aB 8 (.Z 0)),(aO aB 9 (.Z 0)),(aO aB 10 (.Z 0))]) <|
 .loop aD (.aWU tI aF (.ci .i64 0) (.Z 2)) <|
  .aWT (.aWW 88 aJ) (aO aB 1 (.Z 0)) <|
  .aWT (.cmp .lss .i64) (.aWU tI tI (.p1 tI aF (.Z 3)) (.Z 4)) <|
  .ite (.Z 5) (
   .aWT (.aWX 88 aJ) (.aWU bD tI (aO aB 1 (.Z 0)) (.p1 tI aF (.Z 3))) <|
   .aWT (.aWX 88 aJ) (.aWU bD tI (aO aB 1 (.Z 0)) (.p1 tI aF (.Z 3))) <|
   .aWT (.lit 3 tI 2) (.aWU tI tI (.p1 tI tI (.Z 6)) (aG aJ 1 (.Z 7))) <|
   .aWT (.lit 117 aA 1) (.Z 8) <|
   .aWT (.aWZ 117 aA 24) (.aWU aF aF (aG aD 1 (.Z 3)) (.Z 9)) <|
   .aWT (.ar .add .i64) (.aWU tI tI (.p1 tI aF (.Z 3)) (.ci .i64 1)) <|
   .aWV 0 (.aWU tI aF (.Z 11) (.Z 10))) (
   .loop aD (.aWU tI aF (.ci .i64 0) (aG aD 1 (.Z 3))) <|
    .aWT (.aWW 90 aZ) (aO aB 2 (.Z 0)) <|
    .aWT (.cmp .lss .i64) (.aWU tI tI (.p1 tI aF (.Z 6)) (.Z 7)) <|
    .ite (.Z 8) (
     .aWT (.aWX 90 aZ) (.aWU aK tI (aO aB 2 (.Z 0)) (.p1 tI aF (.Z 6))) <|
     .aWT (.lit 117 aA 1) (aG aZ 3 (.Z 9)) <|
     .aWT (.aWZ 117 aA 24) (.aWU aF aF (aG aD 1 (.Z 6)) (.Z 10)) <|
     .aWT (.ar .add .i64) (.aWU tI tI (.p1 tI aF (.Z 6)) (.ci .i64 1)) <|
     .aWV 0 (.aWU tI aF (.Z 12) (.Z 11))) (
     .loop aD (.aWU tI aF (.ci .i64 0) (aG aD 1 (.Z 6))) <|
      .aWT (.aWW 94 aD) (aO aB 5 (.Z 0)) <|
      .aWT (.cmp .lss .i64) (.aWU tI tI (.p1 tI aF (.Z 9)) (.Z 10)) <|
      .ite (.Z 11) (
       .aWT (.aWX 94 aD) (.aWU (.slice 94 aD) tI (aO aB 5 (.Z 0)) (.p1 tI aF (.Z 9))) <|
       .aWT (.lit 3 tI 1) (.p1 tI aF (.Z 12)) <|
       .aWT (.lit 117 aA 1) (.Z 13) <|
       .aWT (.aWZ 117 aA 24) (.aWU aF aF (aG aD 1 (.Z 9)) (.Z 14)) <|
       .aWT (.aWX 94 aD) (.aWU (.slice 94 aD) tI (aO aB 5 (.Z 0)) (.p1 tI aF (.Z 9))) <|
       .aWT (.aWZ 117 aA 24) (.aWU aF aF (.Z 15) (aG aD 1 (.Z 16))) <|
       .aWT (.ar .add .i64) (.aWU tI tI (.p1 tI aF (.Z 9)) (.ci .i64 1)) <|
       .aWV 0 (.aWU tI aF (.Z 18) (.Z 17))) (
       .aWT (.aWZ 117 aA 24) (.aWU aF aF (aG aD 1 (.Z 9)) (aO aB 6 (.Z 0))) <|
       .aWT (.aWZ 117 aA 24) (.aWU aF aF (.Z 12) (aO aB 11 (.Z 0))) <|
       .call 0 (.Z 13) <|
       .ret (.Z 14))))
theorem aAF:cW Tryz.prog [mS] gQ false 3000 ⟨[(2991,1003,fG 26 7++[.dr 0,.tm 4 0,.sl 3]),(2981,2006,fG 31 27++[.dr 4,.tm 5 0,.sl 3]),(2971,4009,fG 55 51++[.dr 5,.tm 6 0,.sl 3])],[(2996,1001,[12],[]),(2983,3006,[47],[]),(2962,12012,[82],[])]⟩ = .ok lP:=by kernel_rfl
theorem aA4 (x:bA) (hx:okD aB x) (hp:(fun x=>vM x) x):lP.wp [mS] [⟨aB,x⟩] [] (fun v=>v.as .bool=(fun x=>(kG x).all gV) x):=by
 have hl:vM x:=hp
 have hm:=(cB _).1 ((dA x).1 hl.1).1
 have hg:=((jU _ _).1 ((dA x).1 hl.1).2.2.1).1
 have hkp:=yH hl.1
 obtain ⟨hl0,hl1,hl2,hl3⟩:=hl
 delta lP mS;refine jN ?_
 intro _ _
 obtain ⟨A,hA⟩:∃ A:eT,A=[[x.1,x.2.2.2.2.2.2.2.2.2.2.2.2.1],x.2.2.2.2.2.2.2.1,x.2.2.2.2.2.2.2.2.1,x.2.2.2.2.2.2.2.2.2.1,x.2.2.2.2.2.2.2.2.2.2.1]:=⟨_,rfl⟩
 have hA5:A.length=5:=by rw[hA];rfl
 rw[← hA]
 refine ⟨fun s=>∃ k:Nat,k≤x.2.1.length∧s=((k:Int),A++(x.2.1.take k).flatMap (fun i=>[[i.1,i.2]])),fun s=>x.2.1.length - (s.1:Int).toNat,⟨0,by omega,by simp⟩,fun s _ hI=>?_⟩
 obtain ⟨k,hk,rfl⟩:=hI
 have y2:=fL (fun i:jR=>[[i.1,i.2]]) 1 (x.2.1.take k) (fun _ _=>Nat.le_refl _)
 rw[List.length_take] at y2
 dsimp only
 refine gJ ?_
 intro _
 constructor
 ·intro hlt
  have hk':k<x.2.1.length:=by omega
  rw[bG hk']
  have e:=gA (fun i:jR=>[[i.1,i.2]]) x.2.1 hk'
  (repeat' first|intro _|(with_reducible apply And.intro))
  all_goals first|omega|(unfold maxLen;omega)|skip
  exact ⟨k+1,by omega,by rw[e,← List.append_assoc];rfl⟩
 intro hge
 obtain rfl:k=x.2.1.length:=by omega
 rw[List.take_length] at y2 ⊢
 obtain ⟨B,hB⟩:∃ B,B=A++x.2.1.flatMap (fun i=>[[i.1,i.2]]):=⟨_,rfl⟩
 have zB:B.length≤105:=by rw[hB,List.length_append];omega
 rw[← hB]
 refine ⟨fun s=>∃ k:Nat,k≤x.2.2.1.length∧s=((k:Int),B++(x.2.2.1.take k).flatMap (fun o=>[o.2.2.2])),fun s=>x.2.2.1.length - (s.1:Int).toNat,⟨0,by omega,by simp⟩,fun s _ hI=>?_⟩
 obtain ⟨k,hk,rfl⟩:=hI
 have y3:=fL (fun o:jT=>[o.2.2.2]) 1 (x.2.2.1.take k) (fun _ _=>Nat.le_refl _)
 rw[List.length_take] at y3
 dsimp only
 refine gJ ?_
 intro _
 constructor
 ·intro hlt
  have hk':k<x.2.2.1.length:=by omega
  rw[bG hk']
  have e:=gA (fun o:jT=>[o.2.2.2]) x.2.2.1 hk'
  (repeat' first|intro _|(with_reducible apply And.intro))
  all_goals first|omega|(unfold maxLen;omega)|skip
  exact ⟨k+1,by omega,by rw[e,← List.append_assoc];rfl⟩
 intro hge
 obtain rfl:k=x.2.2.1.length:=by omega
 rw[List.take_length] at y3 ⊢
 obtain ⟨C,hC⟩:∃ C,C=B++x.2.2.1.flatMap (fun o=>[o.2.2.2]):=⟨_,rfl⟩
 have zC:C.length≤113:=by rw[hC,List.length_append];omega
 rw[← hC]
 refine ⟨fun s=>∃ k:Nat,k≤x.2.2.2.2.2.1.length∧s=((k:Int),C++(x.2.2.2.2.2.1.take k).flatMap (fun x=>[x.1] :: x.2)),fun s=>x.2.2.2.2.2.1.length - (s.1:Int).toNat,⟨0,by omega,by simp⟩,fun s _ hI=>?_⟩
 obtain ⟨k,hk,rfl⟩:=hI
 have y4:=fL (fun x:fO=>[x.1] :: x.2) 10 (x.2.2.2.2.2.1.take k) (fun a ha=>by have:=hkp a (List.mem_of_mem_take ha);rw[List.length_cons];omega)
 rw[List.length_take] at y4
 dsimp only
 refine gJ ?_
 intro _
 constructor
 ·intro hlt
  have hk':k<x.2.2.2.2.2.1.length:=by omega
  rw[bG hk']
  have hkk:=hkp _ (List.getElem_mem hk')
  have e:=gA (fun x:fO=>[x.1] :: x.2) x.2.2.2.2.2.1 hk'
  (repeat' first|intro _|(with_reducible apply And.intro))
  all_goals first|omega|(unfold maxLen;omega)|skip
  exact ⟨k+1,by omega,Prod.ext (by show (k:Int)+1=((k+1:Nat):Int);omega) (by rw[e];simp[List.append_assoc])⟩
 intro hge
 obtain rfl:k=x.2.2.2.2.2.1.length:=by omega
 rw[List.take_length] at y4 ⊢
 obtain ⟨D,hD⟩:∃ D,D=C++x.2.2.2.2.2.1.flatMap (fun x=>[x.1] :: x.2):=⟨_,rfl⟩
 have zD:D.length≤163:=by rw[hD,List.length_append];omega
 rw[← hD]
 have fin:(D++x.2.2.2.2.2.2.1)++x.2.2.2.2.2.2.2.2.2.2.2.1=kG x:=by rw[hD,hC,hB,hA];unfold kG;simp only[List.append_assoc]
 (repeat' first|intro _|(with_reducible apply And.intro))
 all_goals first|omega|(unfold maxLen;omega)|skip
 rw[← fin]
theorem aAL:Con.Holds Tryz.prog gQ:=aX bI (aR aKG aY) aAF aA4
def fH:Con:=⟨54,aB,.str,[.val ⟨true,aB,[]⟩],[⟨false,.str,[0]⟩],false,none,
 ((fun _=>True):(bA)→Prop),
 ((fun x=>dF x):(bA)→(ByteArray))⟩
def qL:T:=.call 0 (.Z 0) <|
 .aWT .not (.Z 1) <|
 .ite (.Z 2) (
  .ret (.cs ⟨#[]⟩)) (
  .aWT (.aWW 88 aJ) (aO aB 1 (.Z 0)) <|
  .aWT (.cmp .gtr .i64) (.aWU tI tI (.Z 3) (.ci .i64 100)) <|
  .ite (.Z 4) (
   .ret (.cs ⟨#[]⟩)) (
   .aWT (.aWW 94 aD) (aO aB 5 (.Z 0)) <|
   .aWT (.cmp .gtr .i64) (.aWU tI tI (.Z 5) (.ci .i64 5)) <|
   .ite (.Z 6) (
    .ret (.cs ⟨#[]⟩)) (
    .aWT (.aWW 117 aA) (aO aB 6 (.Z 0)) <|
    .aWT (.cmp .gtr .i64) (.aWU tI tI (.Z 7) (.ci .i64 20)) <|
    .ite (.Z 8) (
     .ret (.cs ⟨#[]⟩)) (
     .call 1 (.Z 0) <|
     .aWT .not (.Z 9) <|
     .ite (.Z 10) (
      .ret (.cs ⟨#[]⟩)) (
      .aWT (.aWW 88 aJ) (aO aB 1 (.Z 0)) <|
      .aWT (.aWW 90 aZ) (aO aB 2 (.Z 0)) <|
      .aWT (.aWW 94 aD) (aO aB 5 (.Z 0)) <|
      .call 2 (aO aB 3 (.Z 0)) <|
      .call 2 (aO aB 4 (.Z 0)) <|
      .call 2 (aG aB 13 (.Z 0)) <|
      .aWT (.lit 3 tI 8) (aQ (.aWS tI (.aWS tI (.aWS tI (.aWS tI (.aWS tI (.aWS tI aJ)))))) [(.p1 tI aN8 (.Z 0)),(.Z 14),(.Z 15),(aO aB 12 (.Z 0)),(.Z 16),(.Z 11),(.Z 12),(.Z 13)]) <|
      .call 3 (.Z 17) <|
      .loop (.aWS tI .str) (.aWU tI .str (.ci .i64 0) (.Z 18)) <|
       .aWT (.aWW 88 aJ) (aO aB 1 (.Z 0)) <|
       .aWT (.cmp .lss .i64) (.aWU tI tI (.p1 tI .str (.Z 19)) (.Z 20)) <|
       .ite (.Z 21) (
        .aWT (.aWX 88 aJ) (.aWU bD tI (aO aB 1 (.Z 0)) (.p1 tI .str (.Z 19))) <|
        .aWT (.aWX 88 aJ) (.aWU bD tI (aO aB 1 (.Z 0)) (.p1 tI .str (.Z 19))) <|
        .aWT (.lit 3 tI 2) (.aWU tI tI (.p1 tI tI (.Z 22)) (aG aJ 1 (.Z 23))) <|
        .call 3 (.Z 24) <|
        .aWT .sadd (.aWU .str .str (aG (.aWS tI .str) 1 (.Z 19)) (.Z 25)) <|
        .aWT (.ar .add .i64) (.aWU tI tI (.p1 tI .str (.Z 19)) (.ci .i64 1)) <|
        .aWV 0 (.aWU tI .str (.Z 27) (.Z 26))) (
        .loop (.aWS tI .str) (.aWU tI .str (.ci .i64 0) (aG (.aWS tI .str) 1 (.Z 19))) <|
         .aWT (.aWW 90 aZ) (aO aB 2 (.Z 0)) <|
         .aWT (.cmp .lss .i64) (.aWU tI tI (.p1 tI .str (.Z 22)) (.Z 23)) <|
         .ite (.Z 24) (
          .aWT (.aWX 90 aZ) (.aWU aK tI (aO aB 2 (.Z 0)) (.p1 tI .str (.Z 22))) <|
          .aWT (.aWX 90 aZ) (.aWU aK tI (aO aB 2 (.Z 0)) (.p1 tI .str (.Z 22))) <|
          .aWT (.aWX 90 aZ) (.aWU aK tI (aO aB 2 (.Z 0)) (.p1 tI .str (.Z 22))) <|
          .aWT (.aWX 90 aZ) (.aWU aK tI (aO aB 2 (.Z 0)) (.p1 tI .str (.Z 22))) <|
          .aWT (.lit 3 tI 3) (aQ (.aWS tI aJ) [(.p1 tI (.aWS tI aP) (.Z 25)),(aO aZ 1 (.Z 26)),(aO aZ 2 (.Z 27))]) <|
          .call 3 (.Z 29) <|
          .aWT .sadd (.aWU .str .str (aG (.aWS tI .str) 1 (.Z 22)) (.Z 30)) <|
          .call 3 (aG aZ 3 (.Z 28)) <|
          .aWT .sadd (.aWU .str .str (.Z 31) (.Z 32)) <|
          .aWT (.ar .add .i64) (.aWU tI tI (.p1 tI .str (.Z 22)) (.ci .i64 1)) <|
          .aWV 0 (.aWU tI .str (.Z 34) (.Z 33))) (
          .loop (.aWS tI .str) (.aWU tI .str (.ci .i64 0) (aG (.aWS tI .str) 1 (.Z 22))) <|
           .aWT (.aWW 94 aD) (aO aB 5 (.Z 0)) <|
           .aWT (.cmp .lss .i64) (.aWU tI tI (.p1 tI .str (.Z 25)) (.Z 26)) <|
           .ite (.Z 27) (
            .aWT (.aWX 94 aD) (.aWU (.slice 94 aD) tI (aO aB 5 (.Z 0)) (.p1 tI .str (.Z 25))) <|
            .aWT (.aWX 94 aD) (.aWU (.slice 94 aD) tI (aO aB 5 (.Z 0)) (.p1 tI .str (.Z 25))) <|
            .aWT (.lit 3 tI 1) (.p1 tI aF (.Z 28)) <|
            .call 3 (.Z 30) <|
            .aWT .sadd (.aWU .str .str (aG (.aWS tI .str) 1 (.Z 25)) (.Z 31)) <|
            .call 4 (aG aD 1 (.Z 29)) <|
            .aWT .sadd (.aWU .str .str (.Z 32) (.Z 33)) <|
            .aWT (.ar .add .i64) (.aWU tI tI (.p1 tI .str (.Z 25)) (.ci .i64 1)) <|
            .aWV 0 (.aWU tI .str (.Z 35) (.Z 34))) (
            .call 4 (aO aB 6 (.Z 0)) <|
            .aWT .sadd (.aWU .str .str (aG (.aWS tI .str) 1 (.Z 25)) (.Z 28)) <|
            .call 3 (aO aB 7 (.Z 0)) <|
            .aWT .sadd (.aWU .str .str (.Z 29) (.Z 30)) <|
            .call 3 (aO aB 8 (.Z 0)) <|
            .aWT .sadd (.aWU .str .str (.Z 31) (.Z 32)) <|
            .call 3 (aO aB 9 (.Z 0)) <|
            .aWT .sadd (.aWU .str .str (.Z 33) (.Z 34)) <|
            .call 3 (aO aB 10 (.Z 0)) <|
            .aWT .sadd (.aWU .str .str (.Z 35) (.Z 36)) <|
            .call 4 (aO aB 11 (.Z 0)) <|
            .aWT .sadd (.aWU .str .str (.Z 37) (.Z 38)) <|
            .ret (.Z 39)))))))))
theorem aEG:cW Tryz.prog [gY,gQ,mQ,cL,mO] fH false 3000 ⟨[(2986,32019,[.dr 58,.dr 57,.dr 47,.dr 40,.dr 37,.dr 56,.dr 55,.dr 53,.dr 52,.dr 50,.dr 49,.dr 46,.dr 43,.dr 39,.dr 36,.dr 34,.dr 54,.dr 51,.dr 48,.dr 45,.dr 44,.dr 42,.dr 41,.dr 38,.dr 35]++fG 33 7++[.dr 0,.tm 4 0,.tm 3 0]),(2976,64022,fG 63 59++[.dr 4,.tm 5 0,.tm 3 0]),(2966,128025,fG 86 82++[.dr 5,.tm 6 0,.tm 3 0])],[]⟩ = .ok qL:=by kernel_rfl
theorem aEM (x:bA) (hx:okD aB x) (hp:(fun _=>True) x):qL.wp [gY,gQ,mQ,cL,mO] [⟨aB,x⟩] [] (fun v=>v.as .str=(fun x=>dF x) x):=by
 delta qL gY gQ mQ cL mO;refine jN ?_
 refine gJ ?_
 refine ⟨fun h=>kQ fun hl=>(by have:=hl.1;rw[h] at this;cases this),fun h1 _=>⟨fun h=>kQ fun hl=>by have:=hl.2.1;omega,fun h2 _=>⟨fun h=>kQ fun hl=>by have:=hl.2.2.1;omega,fun h3 _=>⟨fun h=>kQ fun hl=>by have:=hl.2.2.2;omega,fun h4=>?_⟩⟩⟩⟩
 have hl:vM x:=⟨h1,by omega,by omega,by omega⟩
 have hm:=(cB _).1 ((dA x).1 h1).1
 have hg:=((jU _ _).1 ((dA x).1 h1).2.2.1).1
 have hkp:=yH h1
 have hv:=aW (kM x)
 refine ⟨hl,fun h=>?_,fun h5=>?_⟩
 ·rw[zL hl,if_neg (by rw[h];decide)]
 rw[zL hl,if_pos h5]
 obtain ⟨W1,hW1⟩:∃ W1,W1=cC (kM x):=⟨_,rfl⟩
 rw[← hW1] at hv
 (repeat' first|intro _|(with_reducible apply And.intro))
 all_goals first|omega|(exact Nat.le_trans (aW _) (by decide))|skip
 refine ⟨fun s=>∃ k:Nat,k≤x.2.1.length∧s=((k:Int),cK W1 ((x.2.1.take k).flatMap mA)),fun s=>x.2.1.length - (s.1:Int).toNat,⟨0,by omega,by rw[hW1];rfl⟩,fun s _ hI=>?_⟩
 obtain ⟨k,hk,rfl⟩:=hI
 have y1:=fX W1 ((x.2.1.take k).flatMap mA) (iS _ aIH)
 have y2:=fL mA 1 (x.2.1.take k) (fun _ _=>Nat.le_refl _)
 rw[List.length_take] at y2
 dsimp only
 refine gJ ?_
 intro _
 constructor
 ·intro hlt
  have hk':k<x.2.1.length:=by omega
  rw[bG hk']
  have e:cK W1 ((x.2.1.take k).flatMap mA)++(cC [(x.2.1[k]'hk').1,(x.2.1[k]'hk').2])=cK W1 ((x.2.1.take (k+1)).flatMap mA):=by rw[gA mA x.2.1 hk',jZ];rfl
  have h6:=aW [(x.2.1[k]'hk').1,(x.2.1[k]'hk').2]
  (repeat' first|intro _|(with_reducible apply And.intro))
  all_goals first|omega|(unfold maxLen;omega)|skip
  exact ⟨k+1,by omega,by rw[← e];rfl⟩
 intro hge
 obtain rfl:k=x.2.1.length:=by omega
 rw[List.take_length] at y1 y2 ⊢
 obtain ⟨W2,hW2⟩:∃ W2,W2=cK W1 (x.2.1.flatMap mA):=⟨_,rfl⟩
 rw[← hW2] at y1 ⊢
 refine ⟨fun s=>∃ k:Nat,k≤x.2.2.1.length∧s=((k:Int),cK W2 ((x.2.2.1.take k).flatMap xF)),fun s=>x.2.2.1.length - (s.1:Int).toNat,⟨0,by omega,rfl⟩,fun s _ hI=>?_⟩
 obtain ⟨k,hk,rfl⟩:=hI
 have y3:=fX W2 ((x.2.2.1.take k).flatMap xF) (iS _ aNM)
 have y4:=fL xF 2 (x.2.2.1.take k) (fun _ _=>Nat.le_refl _)
 rw[List.length_take] at y4
 dsimp only
 refine gJ ?_
 intro _
 constructor
 ·intro hlt
  have hk':k<x.2.2.1.length:=by omega
  rw[bG hk']
  have e:cK W2 ((x.2.2.1.take k).flatMap xF)++(cC [(x.2.2.1[k]'hk').1,(x.2.2.1[k]'hk').2.1,(x.2.2.1[k]'hk').2.2.1])++(cC (x.2.2.1[k]'hk').2.2.2)=cK W2 ((x.2.2.1.take (k+1)).flatMap xF):=by rw[gA xF x.2.2.1 hk',jZ];rfl
  have h6:=aW [(x.2.2.1[k]'hk').1,(x.2.2.1[k]'hk').2.1,(x.2.2.1[k]'hk').2.2.1]
  have h7:=aW (x.2.2.1[k]'hk').2.2.2
  (repeat' first|intro _|(with_reducible apply And.intro))
  all_goals first|omega|(unfold maxLen;rw[cA];omega)|(unfold maxLen;omega)|skip
  exact ⟨k+1,by omega,by rw[← e];rfl⟩
 intro hge
 obtain rfl:k=x.2.2.1.length:=by omega
 rw[List.take_length] at y3 y4 ⊢
 obtain ⟨W3,hW3⟩:∃ W3,W3=cK W2 (x.2.2.1.flatMap xF):=⟨_,rfl⟩
 rw[← hW3] at y3 ⊢
 refine ⟨fun s=>∃ k:Nat,k≤x.2.2.2.2.2.1.length∧s=((k:Int),cK W3 ((x.2.2.2.2.2.1.take k).flatMap jL)),fun s=>x.2.2.2.2.2.1.length - (s.1:Int).toNat,⟨0,by omega,rfl⟩,fun s _ hI=>?_⟩
 obtain ⟨k,hk,rfl⟩:=hI
 have y5:=fX W3 ((x.2.2.2.2.2.1.take k).flatMap jL) (iS _ aHB)
 have y6:=fL jL 11 (x.2.2.2.2.2.1.take k) (fun a ha=>by have:=hkp a (List.mem_of_mem_take ha);unfold jL;rw[List.length_cons,jC];omega)
 rw[List.length_take] at y6
 dsimp only
 refine gJ ?_
 intro _
 constructor
 ·intro hlt
  have hk':k<x.2.2.2.2.2.1.length:=by omega
  rw[bG hk']
  have hkk:=hkp _ (List.getElem_mem hk')
  have e:cK W3 ((x.2.2.2.2.2.1.take k).flatMap jL)++(cC [(x.2.2.2.2.2.1[k]'hk').1])++cK ⟨#[]⟩ (dN (x.2.2.2.2.2.1[k]'hk').2)=cK W3 ((x.2.2.2.2.2.1.take (k+1)).flatMap jL):=by rw[gA jL x.2.2.2.2.2.1 hk',jZ];exact (mN (cK W3 ((x.2.2.2.2.2.1.take k).flatMap jL)++cC [(x.2.2.2.2.2.1[k]'hk').1]) (dN (x.2.2.2.2.2.1[k]'hk').2)).symm
  have h6:=aW [(x.2.2.2.2.2.1[k]'hk').1]
  have h7:=fX ⟨#[]⟩ _ (kV (x.2.2.2.2.2.1[k]'hk').2)
  rw[jC,show (⟨#[]⟩:ByteArray).size=0 from rfl] at h7
  (repeat' first|intro _|(with_reducible apply And.intro))
  all_goals first|omega|(unfold maxLen;rw[cA];omega)|(unfold maxLen;omega)|skip
  exact ⟨k+1,by omega,by rw[← e];rfl⟩
 intro hge
 obtain rfl:k=x.2.2.2.2.2.1.length:=by omega
 rw[List.take_length] at y5 y6 ⊢
 obtain ⟨W4,hW4⟩:∃ W4,W4=cK W3 (x.2.2.2.2.2.1.flatMap jL):=⟨_,rfl⟩
 rw[← hW4] at y5 ⊢
 have h7:=fX ⟨#[]⟩ _ (kV x.2.2.2.2.2.2.1)
 have h8:=fX ⟨#[]⟩ _ (kV x.2.2.2.2.2.2.2.2.2.2.2.1)
 rw[jC,show (⟨#[]⟩:ByteArray).size=0 from rfl] at h7 h8
 have v1:=aW x.2.2.2.2.2.2.2.1
 have v2:=aW x.2.2.2.2.2.2.2.2.1
 have v3:=aW x.2.2.2.2.2.2.2.2.2.1
 have v4:=aW x.2.2.2.2.2.2.2.2.2.2.1
 (repeat' first|intro _|(with_reducible apply And.intro))
 all_goals first|omega|(unfold maxLen;(try simp only[cA]);omega)|skip
 unfold dB uR
 simp only[jZ]
 show _=cK (cK (cK (cK (cK (cK (⟨#[]⟩++cC (kM x)) _) _) _) _) _) _
 rw[show (⟨#[]⟩:ByteArray)++cC (kM x)=W1 from by rw[hW1];exact fF _,← hW2,← hW3,← hW4,mN (cK (cK W4 _) _),mN W4]
 rfl
theorem vO:Con.Holds Tryz.prog fH:=aX bI (aR aAR (aR aAL (aR aJH (aR mT (aR aJN aY))))) aEG aEM
end
end Go.Proofs.YtlabadaccldkaaaGreat
