/- Show3: lemmas. No conditions. -/
import Derived.Test.YtdeobhdbmehpgaaGreatStage3
import Derived.Test.YtdeobhdbmehpgaaGreatVec2
namespace Go.Proofs.YtdeobhdbmehpgaaGreat
noncomputable section
set_option maxRecDepth 100000
open Go.ChangeShapes Go.WideShapes Go.ChangeAt Go.RowKit Go.Deep
set_option linter.unusedVariables false
set_option linter.unusedSimpArgs false
def mN (v:List Int):Bool:=decide (v.length≤200)&&v.all iE
theorem aOK (n:Int):1≤(eQ n).size:=by
 unfold eQ
 split <;> rw[dE] <;> (show 1≤1+_) <;> omega
theorem aOJ (s:ByteArray):(l:List Int)→s.size≤(sI s l).size
 | []=>Nat.le_refl _
 | x :: l=>by
  have h:=aOJ (s++eQ x) l
  rw[dE] at h
  show s.size≤(sI (s++eQ x) l).size
  omega
def isE (p:ByteArray):Bool:=decide (p=⟨#[]⟩)
theorem bBC (n:Int):isE (eQ n)=false:=by
 unfold isE;rw[decide_eq_false_iff_not];intro h
 have:=aOK n;rw[h] at this;exact absurd this (by decide)
theorem aAR (v:List Int):isE (cP v) = !mN v:=by
 unfold isE cP mN
 by_cases h:v.length≤200∧v.all iE=true
 ·rw[if_pos h,decide_eq_true h.1,h.2]
  rw[decide_eq_false_iff_not.2 (fun e=>?_)];· rfl
  have h1:=aOJ (eQ v.length) v
  have h2:=aOK v.length
  rw[e] at h1;exact absurd (Nat.le_trans h2 h1) (by decide)
 ·rw[if_neg h,decide_eq_true rfl]
  cases ha:v.all iE
  ·simp
  ·rw[decide_eq_false (fun h2=>h ⟨h2,ha⟩)];rfl
def gS (s:ByteArray) (l:List ByteArray):ByteArray:=l.foldl (fun a b=>a++b) s
theorem xZ (s:ByteArray) (a b:List ByteArray):gS s (a++b)=gS (gS s a) b:=List.foldl_append
theorem aY2 (a b c:ByteArray):a++b++c=a++(b++c):=by apply ByteArray.ext;simp[ByteArray.data_append,Array.append_assoc]
theorem tQ (a:ByteArray):(⟨#[]⟩:ByteArray)++a=a:=by apply ByteArray.ext;simp[ByteArray.data_append]
theorem qJ (s:ByteArray):(l:List ByteArray)→gS s l=s++gS ⟨#[]⟩ l
 | []=>(bAS s).symm
 | x :: l=>by
  show gS (s++x) l=s++gS (⟨#[]⟩++x) l
  rw[qJ (s++x) l,qJ (⟨#[]⟩++x) l,tQ,aY2]
theorem aAX (s p:ByteArray):gS s [p]=s++p:=rfl
def szP (l:List ByteArray):Prop:=∀ p∈l,p.size≤1608
theorem kM (s:ByteArray):(l:List ByteArray)→szP l→(gS s l).size≤s.size+1608 * l.length
 | [],_=>Nat.le_refl _
 | x :: l,h=>by
  have h1:=kM (s++x) l (fun p hp=>h p (List.mem_cons_of_mem _ hp))
  have h2:=h x List.mem_cons_self
  rw[dE] at h1
  show (gS (s++x) l).size≤_
  rw[List.length_cons];omega
theorem aT3 (a b:ByteArray):dA (a++b)=dA a++dA b:=by unfold dA;rw[ByteArray.data_append,Array.toList_append,List.map_append]
theorem aSG (a:ByteArray):(dA a).length=a.size:=by unfold dA;rw[List.length_map];rfl
theorem aV6 (a:ByteArray):cN (dA a)=a:=by
 unfold cN dA
 apply ByteArray.ext
 rw[List.map_map]
 have:∀ l:List UInt8,l.map ((fun n:Int=>UInt8.ofNat n.toNat) ∘ fun b=>(b.toNat:Int))=l:=fun l=>by
  rw[List.map_congr_left (g:=id) fun b _=>?_,List.map_id]
  show UInt8.ofNat ((b.toNat:Int).toNat)=b
  rw[Int.toNat_natCast];simp
 rw[this]
abbrev WrD:=List Int × Bool
def sN (w:WrD) (s:ByteArray):WrD:=(w.1++dA s,w.2 || isE s)
def cR (w:WrD) (l:List ByteArray):WrD:=l.foldl sN w
theorem oM (w:WrD) (a b:List ByteArray):cR w (a++b)=cR (cR w a) b:=List.foldl_append
theorem aOM:(l:List ByteArray)→(s:ByteArray)→(b:Bool)→cR (dA s,b) l=(dA (gS s l),b || l.any isE)
 | [],s,b=>by simp[cR,gS]
 | x :: l,s,b=>by
  have h:=aOM l (s++x) (b || isE x)
  rw[aT3] at h
  show cR (dA s++dA x,b || isE x) l=_
  rw[h,List.any_cons,Bool.or_assoc];rfl
theorem gN (w:WrD):(l:List ByteArray)→szP l→(cR w l).1.length≤w.1.length+1608 * l.length
 | [],_=>Nat.le_refl _
 | x :: l,h=>by
  have h1:=gN (sN w x) l (fun p hp=>h p (List.mem_cons_of_mem _ hp))
  have h2:=h x List.mem_cons_self
  have h3:(sN w x).1.length=w.1.length+x.size:=by unfold sN;rw[List.length_append,aSG]
  show (cR (sN w x) l).1.length≤_
  rw[List.length_cons];omega
theorem xG {a b:List ByteArray} (h1:szP a) (h2:szP b):szP (a++b):=fun p hp=>by
 rw[List.mem_append] at hp;exact hp.elim (h1 p) (h2 p)
theorem fD {a:ByteArray} {b:List ByteArray} (h1:a.size≤1608) (h2:szP b):szP (a :: b):=fun p hp=>by
 rw[List.mem_cons] at hp;rcases hp with rfl|hp;exact h1;exact h2 p hp
theorem oE:szP []:=fun p hp=>by cases hp
theorem rJ {α:Type} {g:α→List ByteArray} (l:List α) (h:∀ a,szP (g a)):szP (l.flatMap g):=fun p hp=>by
 rw[List.mem_flatMap] at hp;obtain ⟨a,_,hp⟩:=hp;exact h a p hp
theorem aRS (n:Int):(eQ n).size≤1608:=Nat.le_trans (lY n) (by decide)
def dN (l:bX):List ByteArray:=eQ l.length :: l.map cP
theorem kJ (l:bX):szP (dN l):=fD (aRS _) fun p hp=>by
 rw[List.mem_map] at hp;obtain ⟨a,_,rfl⟩:=hp;exact bI a
theorem jF (l:bX):(dN l).length=l.length+1:=by unfold dN;rw[List.length_cons,List.length_map]
theorem aG8 (l:bX) {k:Nat} (h:k<l.length):(dN l).take (k+1)++[cP l[k]]=(dN l).take (k+2):=by
 have h':k+1<(dN l).length:=by rw[jF];omega
 have e:(dN l)[k+1]'h'=cP l[k]:=by simp[dN]
 rw[List.take_succ_eq_append_getElem h',e]
theorem aJU (l:bX):(dN l).take (l.length+1)=dN l:=List.take_of_length_le (by rw[jF];exact Nat.le_refl _)
theorem aUQ (l:bX):(dN l).take 1=[eQ l.length]:=rfl
theorem mK {α β:Type} (g:α→List β) (l:List α) {k:Nat} (h:k<l.length):(l.take (k+1)).flatMap g=(l.take k).flatMap g++g l[k]:=by
 rw[List.take_succ_eq_append_getElem h,List.flatMap_append,List.flatMap_singleton]
theorem kT {α β:Type} (g:α→List β) (B:Nat):(l:List α)→(∀ a∈l,(g a).length≤B)→(l.flatMap g).length≤B * l.length
 | [],_=>Nat.le_refl _
 | x :: l,h=>by
  have h1:=kT g B l (fun a ha=>h a (List.mem_cons_of_mem _ ha))
  have h2:=h x List.mem_cons_self
  rw[List.flatMap_cons,List.length_append,List.length_cons,Nat.mul_succ];omega
def pE (i:eY):List ByteArray:=[cP [i.1,i.2]]
def opP (o:dR):List ByteArray:=[cP [o.1,o.2.1,o.2.2.1],cP o.2.2.2]
def lH (x:dQ):List ByteArray:=cP [x.1] :: dN x.2
theorem aL3 (i:eY):szP (pE i):=fD (bI _) oE
theorem aSQ (o:dR):szP (opP o):=fD (bI _) (fD (bI _) oE)
theorem aKI (x:dQ):szP (lH x):=fD (bI _) (kJ _)
def b01 (b:Bool):Int:=if b=true then 1 else 0
def nU (s:aM):List Int:=[s.1,b01 s.2.2.2.1,b01 s.2.2.2.2.1,s.2.2.2.2.2.2.2.2.2.2.2.2.1,b01 s.2.2.2.2.2.2.2.2.2.2.2.2.2,s.2.1.length,s.2.2.1.length,s.2.2.2.2.2.1.length]
def zY (s:aM):List ByteArray:=dN s.2.2.2.2.2.2.1++([cP s.2.2.2.2.2.2.2.1,cP s.2.2.2.2.2.2.2.2.1,cP s.2.2.2.2.2.2.2.2.2.1,cP s.2.2.2.2.2.2.2.2.2.2.1]++dN s.2.2.2.2.2.2.2.2.2.2.2.1)
def fW (s:aM):List ByteArray:=[cP (nU s)]++(s.2.1.flatMap pE++(s.2.2.1.flatMap opP++(s.2.2.2.2.2.1.flatMap lH++zY s)))
def kZ (s:aM):bX:=[[s.1,s.2.2.2.2.2.2.2.2.2.2.2.2.1],s.2.2.2.2.2.2.2.1,s.2.2.2.2.2.2.2.2.1,s.2.2.2.2.2.2.2.2.2.1,s.2.2.2.2.2.2.2.2.2.2.1]++(s.2.1.flatMap (fun i=>[[i.1,i.2]])++(s.2.2.1.flatMap (fun o=>[o.2.2.2])++(s.2.2.2.2.2.1.flatMap (fun x=>[x.1] :: x.2)++(s.2.2.2.2.2.2.1++s.2.2.2.2.2.2.2.2.2.2.2.1))))
def aAI (s:aM):Prop:=eT s=true∧s.2.1.length≤100∧s.2.2.2.2.2.1.length≤5∧s.2.2.2.2.2.2.1.length≤20
instance (s:aM):Decidable (aAI s):=by unfold aAI;infer_instance
def gF (s:aM):ByteArray:=if aAI s∧(kZ s).all mN=true then gS ⟨#[]⟩ (fW s) else ⟨#[]⟩
theorem aW1 (b:Bool):iE (b01 b)=true:=by cases b <;> decide
theorem aCL {n:Nat} (h:n≤1000):iE (n:Int)=true:=by unfold iE;rw[decide_eq_true_eq];omega
theorem aMY {s:aM} (h:aAI s):mN (nU s)=mN [s.1,s.2.2.2.2.2.2.2.2.2.2.2.2.1]:=by
 obtain ⟨h1,h2,h3,_⟩:=h
 have h5:=(bA _).1 ((bV s).1 h1).1
 unfold mN nU
 simp only[List.all_cons,List.all_nil,aW1,aCL (show s.2.1.length≤1000 by omega),aCL (show s.2.2.1.length≤1000 by omega),aCL (show s.2.2.2.2.2.1.length≤1000 by omega),Bool.true_and,Bool.and_true,List.length_cons,List.length_nil]
 rfl
theorem aZQ {m:List dR} (h:cX m=true):∀ o∈m,mN [o.1,o.2.1,o.2.2.1]=true:=fun o ho=>by
 obtain ⟨i,hi,rfl⟩:=List.getElem_of_mem ho
 have h1:=((sB m hi).1 (((bA m).1 h).2.2 i hi)).1
 have h2:=((gA _).1 h1).1
 unfold mN
 simp only[List.all_cons,List.all_nil,iE,List.length_cons,List.length_nil,Bool.and_true]
 simp only[Bool.and_eq_true,decide_eq_true_eq]
 exact ⟨by omega,by omega,by omega,by omega⟩
theorem aYI {α β:Type} (g:α→List β) (q:β→Bool):(l:List α)→(l.flatMap g).any q=l.any fun a=>(g a).any q
 | []=>rfl
 | x :: l=>by rw[List.flatMap_cons,List.any_append,List.any_cons,aYI g q l]
theorem aT4 {α:Type} {f g:α→Bool}:(l:List α)→(∀ a∈l,f a=g a)→l.any f=l.any g
 | [],_=>rfl
 | x :: l,h=>by rw[List.any_cons,List.any_cons,h x List.mem_cons_self,aT4 l fun a ha=>h a (List.mem_cons_of_mem _ ha)]
theorem aWO (l:bX):(dN l).any isE=l.any fun v=>!mN v:=by
 unfold dN
 rw[List.any_cons,bBC,Bool.false_or,List.any_map]
 exact aT4 l fun a _=>aAR a
theorem aX0 {s:aM} (h:aAI s):(fW s).any isE = !(kZ s).all mN:=by
 have hm:=((bV s).1 h.1).1
 unfold fW zY kZ
 rw[List.not_all_eq_any_not]
 simp only[List.any_append,aYI,aWO,List.any_cons,List.any_nil,aAR,aMY h,Bool.or_false,pE,lH]
 have e1:s.2.2.1.any (fun a=>(opP a).any isE)=s.2.2.1.any fun o=>!mN o.2.2.2:=aT4 _ fun o ho=>by
  unfold opP;rw[List.any_cons,List.any_cons,List.any_nil,aAR,aAR,aZQ hm o ho,Bool.or_false];rfl
 rw[e1]
 ac_rfl
theorem aWL {s:aM} (h:aAI s):cR ([],false) (fW s)=(dA (gS ⟨#[]⟩ (fW s)),!(kZ s).all mN):=by
 have:=aOM (fW s) ⟨#[]⟩ false
 rw[Bool.false_or,aX0 h] at this
 exact this
theorem aB3 {s:aM} (h:eT s=true):∀ x∈s.2.2.2.2.2.1,x.2.length≤9:=fun x hx=>by
 have h1:=(bV s).1 h
 have h2:=(bA _).1 h1.1
 have h3:=List.all_eq_true.1 h1.2.2.2.1 x hx
 have h4:=((aA0 _ _ _).1 h3).1
 unfold uL at h4
 split at h4 <;> omega
def eN:Con:=⟨34,(.bEL (.bEL (.slice 5 (.int .u8)) .bool) .str),(.bEL (.slice 5 (.int .u8)) .bool),[.box 72 ⟨true,(.bEL (.slice 5 (.int .u8)) .bool),[2,0]⟩,.val ⟨false,.str,[]⟩],[],false,none,
 ((fun x=>x.1.1.length≤1000000000000∧x.2.size≤1000000000000):((aW × Bool) × (ByteArray))→Prop),
 ((fun x=>sN x.1 x.2):((aW × Bool) × (ByteArray))→(aW × Bool))⟩
def pR:T:=.ite (aN (.bEL (.slice 5 (.int .u8)) .bool) 1 (.p1 (.bEL (.slice 5 (.int .u8)) .bool) .str (.Z 0))) (
 .bEM (.lapps 5) (.bEN (.slice 5 (.int .u8)) .str (.p1 (.slice 5 (.int .u8)) .bool (.p1 (.bEL (.slice 5 (.int .u8)) .bool) .str (.Z 0))) (aN (.bEL (.bEL (.slice 5 (.int .u8)) .bool) .str) 1 (.Z 0))) <|
 .ret (.bEN (.slice 5 (.int .u8)) .bool (.Z 1) (.cb true))) (
 .bEM (.seq false) (.bEN .str .str (aN (.bEL (.bEL (.slice 5 (.int .u8)) .bool) .str) 1 (.Z 0)) (.cs ⟨#[]⟩)) <|
 .bEM (.lapps 5) (.bEN (.slice 5 (.int .u8)) .str (.p1 (.slice 5 (.int .u8)) .bool (.p1 (.bEL (.slice 5 (.int .u8)) .bool) .str (.Z 0))) (aN (.bEL (.bEL (.slice 5 (.int .u8)) .bool) .str) 1 (.Z 0))) <|
 .ret (.bEN (.slice 5 (.int .u8)) .bool (.Z 2) (.Z 1)))
theorem aHD:bJ Tryz.prog [] eN false 3000 ⟨[],[]⟩ = .ok pR:=by kernel_rfl
theorem aHL (x:(aW × Bool) × (ByteArray)) (hx:okD (.bEL (.bEL (.slice 5 (.int .u8)) .bool) .str) x) (hp:(fun x=>x.1.1.length≤1000000000000∧x.2.size≤1000000000000) x):pR.wp [] [⟨(.bEL (.bEL (.slice 5 (.int .u8)) .bool) .str),x⟩] [] (fun v=>v.as (.bEL (.slice 5 (.int .u8)) .bool)=(fun x=>sN x.1 x.2) x):=by
 obtain ⟨⟨p,b⟩,s⟩:=x
 obtain ⟨h1,h2⟩:p.length≤1000000000000∧s.size≤1000000000000:=hp
 delta pR;refine eE ?_
 refine ⟨fun hb=>⟨by omega,fun _=>?_⟩,fun hb=>⟨by omega,fun _=>?_⟩⟩
 ·unfold sN;dsimp only at hb ⊢;rw[hb];rfl
 ·unfold sN isE;dsimp only at hb ⊢;rw[hb];simp
theorem xC:Con.Holds Tryz.prog eN:=aQ aR aO aHD aHL
def gW:Con:=⟨36,(.bEL (.bEL (.slice 5 (.int .u8)) .bool) aE),(.bEL (.slice 5 (.int .u8)) .bool),[.box 72 ⟨true,(.bEL (.slice 5 (.int .u8)) .bool),[2,0]⟩,.val ⟨false,aE,[]⟩],[],false,none,
 ((fun x=>x.1.1.length≤100000000000∧x.2.length≤10000000):((aW × Bool) × bX)→Prop),
 ((fun x=>cR x.1 (dN x.2)):((aW × Bool) × bX)→(aW × Bool))⟩
def nK:T :=
 .bEM (.bEP 112 aA) (aN (.bEL (.bEL (.slice 5 (.int .u8)) .bool) aE) 1 (.Z 0)) <|
 .call 0 (.Z 1) <|
 .call 1 (.bEN (.bEL (.slice 5 (.int .u8)) .bool) .str (.p1 (.bEL (.slice 5 (.int .u8)) .bool) aE (.Z 0)) (.Z 2)) <|
 .bEM (.bEP 112 aA) (aN (.bEL (.bEL (.slice 5 (.int .u8)) .bool) aE) 1 (.Z 0)) <|
 .loop (.bEL tI (.bEL .bool (.slice 5 (.int .u8)))) (aY (.bEL tI (.bEL .bool (.slice 5 (.int .u8)))) [(.ci .i64 0),(aN (.bEL (.slice 5 (.int .u8)) .bool) 1 (.Z 3)),(.p1 (.slice 5 (.int .u8)) .bool (.Z 3))]) <|
  .bEM (.cmp .lss .i64) (.bEN tI tI (.p1 tI (.bEL .bool (.slice 5 (.int .u8))) (.Z 5)) (.Z 4)) <|
  .ite (.Z 6) (
   .bEM (.bEQ 112 aA) (.bEN aE tI (aN (.bEL (.bEL (.slice 5 (.int .u8)) .bool) aE) 1 (.Z 0)) (.p1 tI (.bEL .bool (.slice 5 (.int .u8))) (.Z 5))) <|
   .call 2 (.Z 7) <|
   .call 1 (.bEN (.bEL (.slice 5 (.int .u8)) .bool) .str (.bEN (.slice 5 (.int .u8)) .bool (aN (.bEL tI (.bEL .bool (.slice 5 (.int .u8)))) 2 (.Z 5)) (aI (.bEL tI (.bEL .bool (.slice 5 (.int .u8)))) 1 (.Z 5))) (.Z 8)) <|
   .bEM (.ar .add .i64) (.bEN tI tI (.p1 tI (.bEL .bool (.slice 5 (.int .u8))) (.Z 5)) (.ci .i64 1)) <|
   .bEO 0 (aY (.bEL tI (.bEL .bool (.slice 5 (.int .u8)))) [(.Z 10),(aN (.bEL (.slice 5 (.int .u8)) .bool) 1 (.Z 9)),(.p1 (.slice 5 (.int .u8)) .bool (.Z 9))])) (
   .ret (.bEN (.slice 5 (.int .u8)) .bool (aN (.bEL tI (.bEL .bool (.slice 5 (.int .u8)))) 2 (.Z 5)) (aI (.bEL tI (.bEL .bool (.slice 5 (.int .u8)))) 1 (.Z 5))))
theorem aER:bJ Tryz.prog [eL,eN,eI] gW false 3000 ⟨[(2994,1005,jT 10 6++[.dr 1,.tm 13 0,.bx 1 1,.sl 3])],[]⟩ = .ok nK:=by kernel_rfl
theorem aED (x:(aW × Bool) × bX) (hx:okD (.bEL (.bEL (.slice 5 (.int .u8)) .bool) aE) x) (hp:(fun x=>x.1.1.length≤100000000000∧x.2.length≤10000000) x):nK.wp [eL,eN,eI] [⟨(.bEL (.bEL (.slice 5 (.int .u8)) .bool) aE),x⟩] [] (fun v=>v.as (.bEL (.slice 5 (.int .u8)) .bool)=(fun x=>cR x.1 (dN x.2)) x):=by
 obtain ⟨w,l⟩:=x
 obtain ⟨h1,h2⟩:w.1.length≤100000000000∧l.length≤10000000:=hp
 delta nK eL eN eI;refine eE ?_
 have h3:=aRS l.length
 have h4:(sN w (eQ l.length)).1.length≤w.1.length+1608:=gN w [eQ l.length] (fD h3 oE)
 refine fun _=>⟨by omega,fun _=>⟨by omega,fun _ _=>?_⟩⟩
 refine ⟨fun s=>∃ k:Nat,k≤l.length∧s=((k:Int),(cR w ((dN l).take (k+1))).2,(cR w ((dN l).take (k+1))).1),fun s=>l.length - (s.1:Int).toNat,⟨0,by omega,rfl⟩,fun s _ hI=>?_⟩
 obtain ⟨k,hk,rfl⟩:=hI
 dsimp only
 refine fJ ?_
 constructor
 ·intro hlt
  have hk':k<l.length:=by omega
  rw[bE hk']
  have h5:=gN w ((dN l).take (k+1)) (fun p hp=>kJ l p (List.mem_of_mem_take hp))
  have h6:=bI (l[k]'hk')
  rw[List.length_take] at h5
  have e:sN (cR w ((dN l).take (k+1))) (cP (l[k]'hk'))=cR w ((dN l).take (k+2)):=by rw[← aG8 l hk',oM];rfl
  (repeat' first|intro _|(with_reducible apply And.intro))
  all_goals first|omega|skip
  exact ⟨k+1,by omega,by rw[← e];rfl⟩
 ·intro hge
  have:k=l.length:=by omega
  subst this
  rw[aJU]
theorem aEO:Con.Holds Tryz.prog gW:=aQ aR (aG wI (aG xC (aG xE aO))) aER aED
def gV:Con:=⟨37,(.bEL (.slice 5 (.int .u8)) .bool),(.bEL .str (.bEL (.slice 5 (.int .u8)) .bool)),[.box 72 ⟨true,(.bEL (.slice 5 (.int .u8)) .bool),[2,0]⟩],[⟨false,.str,[0]⟩],false,none,
 ((fun _=>True):(aW × Bool)→Prop),
 ((fun x=>(if x.2=true then ⟨#[]⟩ else cN x.1,x)):(aW × Bool)→((ByteArray) × (aW × Bool)))⟩
def nJ:T:=.ite (aN (.bEL (.slice 5 (.int .u8)) .bool) 1 (.Z 0)) (.ret (.bEN .str (.bEL (.slice 5 (.int .u8)) .bool) (.cs ⟨#[]⟩) (.Z 0))) (
 .bEM (.b2s 5) (.p1 (.slice 5 (.int .u8)) .bool (.Z 0)) <|
 .ret (.bEN .str (.bEL (.slice 5 (.int .u8)) .bool) (.Z 1) (.Z 0)))
theorem aEC:bJ Tryz.prog [] gV false 3000 ⟨[],[]⟩ = .ok nJ:=by kernel_rfl
theorem aEK (x:aW × Bool) (hx:okD (.bEL (.slice 5 (.int .u8)) .bool) x) (hp:(fun _=>True) x):nJ.wp [] [⟨(.bEL (.slice 5 (.int .u8)) .bool),x⟩] [] (fun v=>v.as (.bEL .str (.bEL (.slice 5 (.int .u8)) .bool))=(fun x=>(if x.2=true then ⟨#[]⟩ else cN x.1,x)) x):=by
 delta nJ;refine eE ?_
 refine ⟨fun h=>?_,fun h _=>?_⟩
 ·rw[if_pos h]
 ·rw[if_neg (by rw[h];decide)]
theorem aEP:Con.Holds Tryz.prog gV:=aQ aR aO aEC aEK
def aBN:Con:=⟨35,.bool,tI,[.val ⟨false,.bool,[]⟩],[⟨false,tI,[0]⟩],false,none,
 ((fun _=>True):(Bool)→Prop),
 ((fun x=>b01 x):(Bool)→(Int))⟩
def aL0:T:=.ite (.Z 0) (.ret (.ci .i64 1)) (.ret (.ci .i64 0))
theorem bAX:bJ Tryz.prog [] aBN false 3000 ⟨[],[]⟩ = .ok aL0:=by kernel_rfl
theorem bCH (x:Bool) (hx:okD .bool x) (hp:(fun _=>True) x):aL0.wp [] [⟨.bool,x⟩] [] (fun v=>v.as tI=(fun x=>b01 x) x):=by
 delta aL0;refine eE ?_
 refine ⟨fun h=>?_,fun h=>?_⟩ <;> unfold b01 <;> rw[h] <;> rfl
theorem bC6:Con.Holds Tryz.prog aBN:=aQ aR aO bAX bCH
def mU:Con:=⟨41,.bool,tI,[.val ⟨false,.bool,[]⟩],[⟨false,tI,[0]⟩],false,none,
 ((fun _=>True):(Bool)→Prop),
 ((fun x=>b01 x):(Bool)→(Int))⟩
def xD:T:=.ite (.Z 0) (.ret (.ci .i64 1)) (.ret (.ci .i64 0))
theorem aP3:bJ Tryz.prog [] mU false 3000 ⟨[],[]⟩ = .ok xD:=by kernel_rfl
theorem aOQ (x:Bool) (hx:okD .bool x) (hp:(fun _=>True) x):xD.wp [] [⟨.bool,x⟩] [] (fun v=>v.as tI=(fun x=>b01 x) x):=by
 delta xD;refine eE ?_
 refine ⟨fun h=>?_,fun h=>?_⟩ <;> unfold b01 <;> rw[h] <;> rfl
theorem aPV:Con.Holds Tryz.prog mU:=aQ aR aO aP3 aOQ
def mV:Con:=⟨42,aE,.str,[.val ⟨false,aE,[]⟩],[⟨false,.str,[0]⟩],false,none,
 ((fun x=>x.length≤10000000):(bX)→Prop),
 ((fun x=>gS ⟨#[]⟩ (dN x)):(bX)→(ByteArray))⟩
def wN:T :=
 .bEM (.bEP 112 aA) (.Z 0) <|
 .call 0 (.Z 1) <|
 .loop (.bEL tI .str) (.bEN tI .str (.ci .i64 0) (.Z 2)) <|
  .bEM (.bEP 112 aA) (.Z 0) <|
  .bEM (.cmp .lss .i64) (.bEN tI tI (.p1 tI .str (.Z 3)) (.Z 4)) <|
  .ite (.Z 5) (
   .bEM (.bEQ 112 aA) (.bEN aE tI (.Z 0) (.p1 tI .str (.Z 3))) <|
   .call 1 (.Z 6) <|
   .bEM .sadd (.bEN .str .str (aN (.bEL tI .str) 1 (.Z 3)) (.Z 7)) <|
   .bEM (.ar .add .i64) (.bEN tI tI (.p1 tI .str (.Z 3)) (.ci .i64 1)) <|
   .bEO 0 (.bEN tI .str (.Z 9) (.Z 8))) (
   .ret (aN (.bEL tI .str) 1 (.Z 3)))
theorem aPP:bJ Tryz.prog [iP,cG] mV false 3000 ⟨[(2991,1003,jT 7 5++[.tm 4 0,.tm 3 0])],[]⟩ = .ok wN:=by kernel_rfl
theorem aMN (x:bX) (hx:okD aE x) (hp:(fun x=>x.length≤10000000) x):wN.wp [iP,cG] [⟨aE,x⟩] [] (fun v=>v.as .str=(fun x=>gS ⟨#[]⟩ (dN x)) x):=by
 have h2:List.length x≤10000000:=hp
 delta wN iP cG;refine eE ?_
 have h3:=aRS (List.length x)
 refine fun _=>⟨by omega,fun _=>?_⟩
 refine ⟨fun s=>∃ k:Nat,k≤x.length∧s=((k:Int),gS ⟨#[]⟩ ((dN x).take (k+1))),fun s=>x.length - (s.1:Int).toNat,⟨0,by omega,?_⟩,fun s _ hI=>?_⟩
 ·rw[aUQ,aAX];exact Prod.ext rfl (by apply ByteArray.ext;simp[ByteArray.data_append])
 obtain ⟨k,hk,rfl⟩:=hI
 dsimp only
 refine fJ ?_
 intro _
 constructor
 ·intro hlt
  have hk':k<x.length:=by omega
  rw[bE hk']
  have h5:=kM ⟨#[]⟩ ((dN x).take (k+1)) (fun p hp=>kJ x p (List.mem_of_mem_take hp))
  have h6:=bI (x[k]'hk')
  rw[List.length_take,show (⟨#[]⟩:ByteArray).size=0 from rfl] at h5
  have e:gS ⟨#[]⟩ ((dN x).take (k+1))++cP (x[k]'hk')=gS ⟨#[]⟩ ((dN x).take (k+2)):=by rw[← aG8 x hk',xZ];rfl
  (repeat' first|intro _|(with_reducible apply And.intro))
  all_goals first|omega|(unfold maxLen;omega)|skip
  exact ⟨k+1,by omega,by rw[← e];rfl⟩
 ·intro hge
  have:k=x.length:=by omega
  subst this
  rw[aJU]
theorem aN7:Con.Holds Tryz.prog mV:=aQ aR (aG aGY (aG mT aO)) aPP aMN
def nB:Con:=⟨72,aE,.bool,[.val ⟨false,aE,[]⟩],[⟨false,.bool,[0]⟩],false,none,
 ((fun _=>True):(bX)→Prop),
 ((fun x=>x.all mN):(bX)→(Bool))⟩
def wX:T:=.loop tI (.ci .i64 0) <|
 .bEM (.bEP 112 aA) (.Z 0) <|
 .bEM (.cmp .lss .i64) (.bEN tI tI (.Z 1) (.Z 2)) <|
 .ite (.Z 3) (
  .bEM (.bEQ 112 aA) (.bEN aE tI (.Z 0) (.Z 1)) <|
  .call 0 (.Z 4) <|
  .bEM (.seq false) (.bEN .str .str (.Z 5) (.cs ⟨#[]⟩)) <|
  .ite (.Z 6) (
   .ret (.cb false)) (
   .bEM (.ar .add .i64) (.bEN tI tI (.Z 1) (.ci .i64 1)) <|
   .bEO 0 (.Z 7))) (
  .ret (.cb true))
theorem aNY:bJ Tryz.prog [cG] nB false 3000 ⟨[(2993,1001,[.tm 3 0])],[]⟩ = .ok wX:=by kernel_rfl
theorem aNN (x:bX) (hx:okD aE x) (hp:(fun _=>True) x):wX.wp [cG] [⟨aE,x⟩] [] (fun v=>v.as .bool=(fun x=>x.all mN) x):=by
 have h2:List.length x≤9223372036854775807:=hx.1
 delta wX cG;refine eE ?_
 refine ⟨fun s=>∃ k:Nat,k≤x.length∧s=(k:Int)∧(x.take k).all mN=true,fun s=>x.length - (s:Int).toNat,⟨0,by omega,rfl,rfl⟩,fun s _ hI=>?_⟩
 obtain ⟨k,hk,rfl,ha⟩:=hI
 refine fJ ?_
 intro _
 constructor
 ·intro hlt
  have hk':k<x.length:=by omega
  rw[bE hk']
  have e:=pJ mN x hk'
  have e2:=aAR (x[k]'hk')
  unfold isE at e2
  (repeat' first|intro _|(with_reducible apply And.intro))
  all_goals first|omega|skip
  ·refine (aAQ hk' ?_).symm;rw[decide_eq_true (Classical.not_not.1 (by assumption))] at e2;simpa using e2.symm
  ·refine ⟨k+1,by omega,rfl,?_⟩;rw[decide_eq_false (by assumption)] at e2;rw[e,ha];simpa using e2.symm
 ·intro hge
  have:k=x.length:=by omega
  subst this
  rw[List.take_length] at ha
  exact ha.symm
theorem aMJ:Con.Holds Tryz.prog nB:=aQ aR (aG mT aO) aNY aNN
theorem kC {x:aM} (h:¬ aAI x):(⟨#[]⟩:ByteArray)=gF x:=by unfold gF;rw[if_neg (fun hh=>h hh.1)]
theorem aBY {x:aM} (h:aAI x):gF x=if (kZ x).all mN=true then gS ⟨#[]⟩ (fW x) else ⟨#[]⟩:=by
 unfold gF
 cases (kZ x).all mN
 ·rw[if_neg (fun hh=>by cases hh.2),if_neg (by decide)]
 ·rw[if_pos ⟨h,rfl⟩,if_pos rfl]
def aND (v:List Int):List ByteArray:=[cP v]
theorem bBL (v:List Int):szP (aND v):=fD (bI _) oE
theorem aXZ (W:WrD) {x:aM} (h:aAI x) (hW:W=cR ([],false) (fW x)):(if W.2=true then (⟨#[]⟩:ByteArray) else cN W.1)=gF x:=by
 rw[hW,aWL h,aBY h]
 dsimp only
 rw[aV6]
 cases (kZ x).all mN <;> rfl
def fC:Con:=⟨13,aB,.str,[.val ⟨true,aB,[]⟩],[⟨false,.str,[0]⟩],false,none,
 ((fun _=>True):(aM)→Prop),
 ((fun x=>gF x):(aM)→(ByteArray))⟩
def rE:T:=.call 0 (.Z 0) <|
 .bEM .not (.Z 1) <|
 .ite (.Z 2) (
  .ret (.cs ⟨#[]⟩)) (
  .bEM (.bEP 76 aD) (aI aB 1 (.Z 0)) <|
  .bEM (.cmp .gtr .i64) (.bEN tI tI (.Z 3) (.ci .i64 100)) <|
  .ite (.Z 4) (
   .ret (.cs ⟨#[]⟩)) (
   .bEM (.bEP 80 aC) (aI aB 5 (.Z 0)) <|
   .bEM (.cmp .gtr .i64) (.bEN tI tI (.Z 5) (.ci .i64 5)) <|
   .ite (.Z 6) (
    .ret (.cs ⟨#[]⟩)) (
    .bEM (.bEP 112 aA) (aI aB 6 (.Z 0)) <|
    .bEM (.cmp .gtr .i64) (.bEN tI tI (.Z 7) (.ci .i64 20)) <|
    .ite (.Z 8) (
     .ret (.cs ⟨#[]⟩)) (
     .bEM (.bEP 76 aD) (aI aB 1 (.Z 0)) <|
     .bEM (.bEP 78 bC) (aI aB 2 (.Z 0)) <|
     .bEM (.bEP 80 aC) (aI aB 5 (.Z 0)) <|
     .call 1 (aI aB 3 (.Z 0)) <|
     .call 1 (aI aB 4 (.Z 0)) <|
     .call 1 (aN aB 13 (.Z 0)) <|
     .bEM (.lit 3 tI 8) (aY (.bEL tI (.bEL tI (.bEL tI (.bEL tI (.bEL tI (.bEL tI aD)))))) [(.p1 tI iT (.Z 0)),(.Z 12),(.Z 13),(aI aB 12 (.Z 0)),(.Z 14),(.Z 9),(.Z 10),(.Z 11)]) <|
     .call 2 (.Z 15) <|
     .call 3 (.bEN (.bEL (.slice 5 (.int .u8)) .bool) .str (.bEN (.slice 5 (.int .u8)) .bool (.nl 5 (.int .u8)) (.cb false)) (.Z 16)) <|
     .bEM (.bEP 76 aD) (aI aB 1 (.Z 0)) <|
     .loop (.bEL tI (.bEL .bool (.slice 5 (.int .u8)))) (aY (.bEL tI (.bEL .bool (.slice 5 (.int .u8)))) [(.ci .i64 0),(aN (.bEL (.slice 5 (.int .u8)) .bool) 1 (.Z 17)),(.p1 (.slice 5 (.int .u8)) .bool (.Z 17))]) <|
      .bEM (.cmp .lss .i64) (.bEN tI tI (.p1 tI (.bEL .bool (.slice 5 (.int .u8))) (.Z 19)) (.Z 18)) <|
      .ite (.Z 20) (
       .bEM (.bEQ 76 aD) (.bEN aL tI (aI aB 1 (.Z 0)) (.p1 tI (.bEL .bool (.slice 5 (.int .u8))) (.Z 19))) <|
       .bEM (.lit 3 tI 2) (.Z 21) <|
       .call 2 (.Z 22) <|
       .call 3 (.bEN (.bEL (.slice 5 (.int .u8)) .bool) .str (.bEN (.slice 5 (.int .u8)) .bool (aN (.bEL tI (.bEL .bool (.slice 5 (.int .u8)))) 2 (.Z 19)) (aI (.bEL tI (.bEL .bool (.slice 5 (.int .u8)))) 1 (.Z 19))) (.Z 23)) <|
       .bEM (.ar .add .i64) (.bEN tI tI (.p1 tI (.bEL .bool (.slice 5 (.int .u8))) (.Z 19)) (.ci .i64 1)) <|
       .bEO 0 (aY (.bEL tI (.bEL .bool (.slice 5 (.int .u8)))) [(.Z 25),(aN (.bEL (.slice 5 (.int .u8)) .bool) 1 (.Z 24)),(.p1 (.slice 5 (.int .u8)) .bool (.Z 24))])) (
       .bEM (.bEP 78 bC) (aI aB 2 (.Z 0)) <|
       .loop (.bEL tI (.bEL .bool (.slice 5 (.int .u8)))) (.bEN tI (.bEL .bool (.slice 5 (.int .u8))) (.ci .i64 0) (aN (.bEL tI (.bEL .bool (.slice 5 (.int .u8)))) 1 (.Z 19))) <|
        .bEM (.cmp .lss .i64) (.bEN tI tI (.p1 tI (.bEL .bool (.slice 5 (.int .u8))) (.Z 22)) (.Z 21)) <|
        .ite (.Z 23) (
         .bEM (.bEQ 78 bC) (.bEN aF tI (aI aB 2 (.Z 0)) (.p1 tI (.bEL .bool (.slice 5 (.int .u8))) (.Z 22))) <|
         .bEM (.lit 3 tI 3) (aY (.bEL tI aD) [(.p1 tI (.bEL tI aK) (.Z 24)),(aI bC 1 (.Z 24)),(aI bC 2 (.Z 24))]) <|
         .call 2 (.Z 25) <|
         .call 3 (.bEN (.bEL (.slice 5 (.int .u8)) .bool) .str (.bEN (.slice 5 (.int .u8)) .bool (aN (.bEL tI (.bEL .bool (.slice 5 (.int .u8)))) 2 (.Z 22)) (aI (.bEL tI (.bEL .bool (.slice 5 (.int .u8)))) 1 (.Z 22))) (.Z 26)) <|
         .call 2 (aN bC 3 (.Z 24)) <|
         .call 3 (.bEN (.bEL (.slice 5 (.int .u8)) .bool) .str (.Z 27) (.Z 28)) <|
         .bEM (.ar .add .i64) (.bEN tI tI (.p1 tI (.bEL .bool (.slice 5 (.int .u8))) (.Z 22)) (.ci .i64 1)) <|
         .bEO 0 (aY (.bEL tI (.bEL .bool (.slice 5 (.int .u8)))) [(.Z 30),(aN (.bEL (.slice 5 (.int .u8)) .bool) 1 (.Z 29)),(.p1 (.slice 5 (.int .u8)) .bool (.Z 29))])) (
         .bEM (.bEP 80 aC) (aI aB 5 (.Z 0)) <|
         .loop (.bEL tI (.bEL .bool (.slice 5 (.int .u8)))) (.bEN tI (.bEL .bool (.slice 5 (.int .u8))) (.ci .i64 0) (aN (.bEL tI (.bEL .bool (.slice 5 (.int .u8)))) 1 (.Z 22))) <|
          .bEM (.cmp .lss .i64) (.bEN tI tI (.p1 tI (.bEL .bool (.slice 5 (.int .u8))) (.Z 25)) (.Z 24)) <|
          .ite (.Z 26) (
           .bEM (.bEQ 80 aC) (.bEN (.slice 80 aC) tI (aI aB 5 (.Z 0)) (.p1 tI (.bEL .bool (.slice 5 (.int .u8))) (.Z 25))) <|
           .bEM (.lit 3 tI 1) (.p1 tI aE (.Z 27)) <|
           .call 2 (.Z 28) <|
           .call 3 (.bEN (.bEL (.slice 5 (.int .u8)) .bool) .str (.bEN (.slice 5 (.int .u8)) .bool (aN (.bEL tI (.bEL .bool (.slice 5 (.int .u8)))) 2 (.Z 25)) (aI (.bEL tI (.bEL .bool (.slice 5 (.int .u8)))) 1 (.Z 25))) (.Z 29)) <|
           .call 4 (.bEN (.bEL (.slice 5 (.int .u8)) .bool) aE (.Z 30) (aN aC 1 (.Z 27))) <|
           .bEM (.ar .add .i64) (.bEN tI tI (.p1 tI (.bEL .bool (.slice 5 (.int .u8))) (.Z 25)) (.ci .i64 1)) <|
           .bEO 0 (aY (.bEL tI (.bEL .bool (.slice 5 (.int .u8)))) [(.Z 32),(aN (.bEL (.slice 5 (.int .u8)) .bool) 1 (.Z 31)),(.p1 (.slice 5 (.int .u8)) .bool (.Z 31))])) (
           .call 4 (.bEN (.bEL (.slice 5 (.int .u8)) .bool) aE (.bEN (.slice 5 (.int .u8)) .bool (aN (.bEL tI (.bEL .bool (.slice 5 (.int .u8)))) 2 (.Z 25)) (aI (.bEL tI (.bEL .bool (.slice 5 (.int .u8)))) 1 (.Z 25))) (aI aB 6 (.Z 0))) <|
           .bEM (.lit 24 aA 4) (aY (.bEL aA (.bEL aA aU)) [(aI aB 7 (.Z 0)),(aI aB 8 (.Z 0)),(aI aB 9 (.Z 0)),(aI aB 10 (.Z 0))]) <|
           .bEM (.bEP 24 aA) (.Z 28) <|
           .loop (.bEL tI (.bEL .bool (.slice 5 (.int .u8)))) (aY (.bEL tI (.bEL .bool (.slice 5 (.int .u8)))) [(.ci .i64 0),(aN (.bEL (.slice 5 (.int .u8)) .bool) 1 (.Z 27)),(.p1 (.slice 5 (.int .u8)) .bool (.Z 27))]) <|
            .bEM (.cmp .lss .i64) (.bEN tI tI (.p1 tI (.bEL .bool (.slice 5 (.int .u8))) (.Z 30)) (.Z 29)) <|
            .ite (.Z 31) (
             .bEM (.bEQ 24 aA) (.bEN (.slice 24 aA) tI (.Z 28) (.p1 tI (.bEL .bool (.slice 5 (.int .u8))) (.Z 30))) <|
             .bEM (.bEQ 24 aA) (.bEN (.slice 24 aA) tI (.Z 28) (.p1 tI (.bEL .bool (.slice 5 (.int .u8))) (.Z 30))) <|
             .call 2 (.Z 33) <|
             .call 3 (.bEN (.bEL (.slice 5 (.int .u8)) .bool) .str (.bEN (.slice 5 (.int .u8)) .bool (aN (.bEL tI (.bEL .bool (.slice 5 (.int .u8)))) 2 (.Z 30)) (aI (.bEL tI (.bEL .bool (.slice 5 (.int .u8)))) 1 (.Z 30))) (.Z 34)) <|
             .bEM (.ar .add .i64) (.bEN tI tI (.p1 tI (.bEL .bool (.slice 5 (.int .u8))) (.Z 30)) (.ci .i64 1)) <|
             .bEO 0 (aY (.bEL tI (.bEL .bool (.slice 5 (.int .u8)))) [(.Z 36),(aN (.bEL (.slice 5 (.int .u8)) .bool) 1 (.Z 35)),(.p1 (.slice 5 (.int .u8)) .bool (.Z 35))])) (
             .call 4 (.bEN (.bEL (.slice 5 (.int .u8)) .bool) aE (.bEN (.slice 5 (.int .u8)) .bool (aN (.bEL tI (.bEL .bool (.slice 5 (.int .u8)))) 2 (.Z 30)) (aI (.bEL tI (.bEL .bool (.slice 5 (.int .u8)))) 1 (.Z 30))) (aI aB 11 (.Z 0))) <|
             .call 5 (.Z 32) <|
             .ret (.p1 .str (.bEL (.slice 5 (.int .u8)) .bool) (.Z 33))))))))))
theorem aIF:bJ Tryz.prog [mY,aBN,eI,eN,gW,gV] fC false 3000 ⟨[(2984,16019,jT 63 60++[.dr 50,.dr 43,.dr 40,.dr 59,.dr 58,.dr 56,.dr 55,.dr 53,.dr 52,.dr 49,.dr 46,.dr 42,.dr 39,.dr 37,.dr 57,.dr 54,.dr 51,.dr 48,.dr 47,.dr 45,.dr 44,.dr 41,.dr 38]++jT 36 12++[.dr 0,.tm 66 0,.bx 2 1,.sl 5]),(2974,32022,[.dr 79]++jT 67 64++[.tm 82 0,.bx 2 1,.sl 5]),(2964,64025,[.dr 102]++jT 83 80++[.tm 105 0,.bx 2 1,.sl 5]),(2952,128030,jT 131 120++jT 106 103++[.tm 134 0,.bx 2 1,.sl 6])],[]⟩ = .ok rE:=by kernel_rfl
theorem aIN (x:aM) (hx:okD aB x) (hp:(fun _=>True) x):rE.wp [mY,aBN,eI,eN,gW,gV] [⟨aB,x⟩] [] (fun v=>v.as .str=(fun x=>gF x) x):=by
 delta rE mY aBN eI eN gW gV;refine eE ?_
 refine fJ ?_
 refine ⟨fun h=>kC fun hl=>(by have:=hl.1;rw[h] at this;cases this),fun h1 _=>⟨fun h=>kC fun hl=>by have:=hl.2.1;omega,fun h2 _=>⟨fun h=>kC fun hl=>by have:=hl.2.2.1;omega,fun h3 _=>⟨fun h=>kC fun hl=>by have:=hl.2.2.2;omega,fun h4=>?_⟩⟩⟩⟩
 have hl:aAI x:=⟨h1,by omega,by omega,by omega⟩
 have hm:=(bA _).1 ((bV x).1 h1).1
 have hg:=((iS _ _).1 ((bV x).1 h1).2.2.1).1
 have hkp:=aB3 h1
 have hv:=bI (nU x)
 obtain ⟨W1,hW1⟩:∃ W1,W1=sN ([],false) (cP (nU x)):=⟨_,rfl⟩
 have z1:W1.1.length≤1608:=by rw[hW1];exact gN ([],false) [cP (nU x)] (fD hv oE)
 (repeat' first|intro _|(with_reducible apply And.intro))
 all_goals first|omega|(exact Nat.le_trans (bI _) (by decide))|skip
 refine ⟨fun s=>∃ k:Nat,k≤x.2.1.length∧s=((k:Int),(cR W1 ((x.2.1.take k).flatMap pE)).2,(cR W1 ((x.2.1.take k).flatMap pE)).1),fun s=>x.2.1.length - (s.1:Int).toNat,⟨0,by omega,by rw[hW1];rfl⟩,fun s _ hI=>?_⟩
 obtain ⟨k,hk,rfl⟩:=hI
 have y1:=gN W1 ((x.2.1.take k).flatMap pE) (rJ _ aL3)
 have y2:=kT pE 1 (x.2.1.take k) (fun _ _=>Nat.le_refl _)
 rw[List.length_take] at y2
 dsimp only
 refine fJ ?_
 constructor
 ·intro hlt
  have hk':k<x.2.1.length:=by omega
  rw[bE hk']
  have e:sN (cR W1 ((x.2.1.take k).flatMap pE)) (cP [(x.2.1[k]'hk').1,(x.2.1[k]'hk').2])=cR W1 ((x.2.1.take (k+1)).flatMap pE):=by rw[mK pE x.2.1 hk',oM];rfl
  (repeat' first|intro _|(with_reducible apply And.intro))
  all_goals first|omega|(exact Nat.le_trans (bI _) (by decide))|(exact Nat.le_trans e1 (by omega))|skip
  exact ⟨k+1,by omega,by rw[← e];rfl⟩
 intro hge
 obtain rfl:k=x.2.1.length:=by omega
 rw[List.take_length] at y1 y2 ⊢
 obtain ⟨W2,hW2⟩:∃ W2,W2=cR W1 (x.2.1.flatMap pE):=⟨_,rfl⟩
 rw[← hW2] at y1 ⊢
 intro _
 refine ⟨fun s=>∃ k:Nat,k≤x.2.2.1.length∧s=((k:Int),(cR W2 ((x.2.2.1.take k).flatMap opP)).2,(cR W2 ((x.2.2.1.take k).flatMap opP)).1),fun s=>x.2.2.1.length - (s.1:Int).toNat,⟨0,by omega,rfl⟩,fun s _ hI=>?_⟩
 obtain ⟨k,hk,rfl⟩:=hI
 have y3:=gN W2 ((x.2.2.1.take k).flatMap opP) (rJ _ aSQ)
 have y4:=kT opP 2 (x.2.2.1.take k) (fun _ _=>Nat.le_refl _)
 rw[List.length_take] at y4
 dsimp only
 refine fJ ?_
 constructor
 ·intro hlt
  have hk':k<x.2.2.1.length:=by omega
  rw[bE hk']
  have e:sN (sN (cR W2 ((x.2.2.1.take k).flatMap opP)) (cP [(x.2.2.1[k]'hk').1,(x.2.2.1[k]'hk').2.1,(x.2.2.1[k]'hk').2.2.1])) (cP (x.2.2.1[k]'hk').2.2.2)=cR W2 ((x.2.2.1.take (k+1)).flatMap opP):=by rw[mK opP x.2.2.1 hk',oM];rfl
  have e1:(sN (cR W2 ((x.2.2.1.take k).flatMap opP)) (cP [(x.2.2.1[k]'hk').1,(x.2.2.1[k]'hk').2.1,(x.2.2.1[k]'hk').2.2.1])).1.length≤(cR W2 ((x.2.2.1.take k).flatMap opP)).1.length+1608:=gN _ [_] (fD (bI _) oE)
  (repeat' first|intro _|(with_reducible apply And.intro))
  all_goals first|omega|(exact Nat.le_trans (bI _) (by decide))|(exact Nat.le_trans e1 (by omega))|skip
  exact ⟨k+1,by omega,by rw[← e];rfl⟩
 intro hge
 obtain rfl:k=x.2.2.1.length:=by omega
 rw[List.take_length] at y3 y4 ⊢
 obtain ⟨W3,hW3⟩:∃ W3,W3=cR W2 (x.2.2.1.flatMap opP):=⟨_,rfl⟩
 rw[← hW3] at y3 ⊢
 intro _
 refine ⟨fun s=>∃ k:Nat,k≤x.2.2.2.2.2.1.length∧s=((k:Int),(cR W3 ((x.2.2.2.2.2.1.take k).flatMap lH)).2,(cR W3 ((x.2.2.2.2.2.1.take k).flatMap lH)).1),fun s=>x.2.2.2.2.2.1.length - (s.1:Int).toNat,⟨0,by omega,rfl⟩,fun s _ hI=>?_⟩
 obtain ⟨k,hk,rfl⟩:=hI
 have y5:=gN W3 ((x.2.2.2.2.2.1.take k).flatMap lH) (rJ _ aKI)
 have y6:=kT lH 11 (x.2.2.2.2.2.1.take k) (fun a ha=>by have:=hkp a (List.mem_of_mem_take ha);unfold lH;rw[List.length_cons,jF];omega)
 rw[List.length_take] at y6
 dsimp only
 refine fJ ?_
 constructor
 ·intro hlt
  have hk':k<x.2.2.2.2.2.1.length:=by omega
  rw[bE hk']
  have hkk:=hkp _ (List.getElem_mem hk')
  have e:cR (sN (cR W3 ((x.2.2.2.2.2.1.take k).flatMap lH)) (cP [(x.2.2.2.2.2.1[k]'hk').1])) (dN (x.2.2.2.2.2.1[k]'hk').2)=cR W3 ((x.2.2.2.2.2.1.take (k+1)).flatMap lH):=by rw[mK lH x.2.2.2.2.2.1 hk',oM];rfl
  have e1:(sN (cR W3 ((x.2.2.2.2.2.1.take k).flatMap lH)) (cP [(x.2.2.2.2.2.1[k]'hk').1])).1.length≤(cR W3 ((x.2.2.2.2.2.1.take k).flatMap lH)).1.length+1608:=gN _ [_] (fD (bI _) oE)
  (repeat' first|intro _|(with_reducible apply And.intro))
  all_goals first|omega|(exact Nat.le_trans (bI _) (by decide))|(exact Nat.le_trans e1 (by omega))|skip
  exact ⟨k+1,by omega,by rw[← e];rfl⟩
 intro hge
 obtain rfl:k=x.2.2.2.2.2.1.length:=by omega
 rw[List.take_length] at y5 y6 ⊢
 obtain ⟨W4,hW4⟩:∃ W4,W4=cR W3 (x.2.2.2.2.2.1.flatMap lH):=⟨_,rfl⟩
 rw[← hW4] at y5 ⊢
 obtain ⟨W5,hW5⟩:∃ W5,W5=cR W4 (dN x.2.2.2.2.2.2.1):=⟨_,rfl⟩
 have y7:=gN W4 _ (kJ x.2.2.2.2.2.2.1)
 rw[jF,← hW5] at y7
 refine ⟨⟨by omega,by omega⟩,?_⟩
 rw[← hW5]
 intro _ _ _
 obtain ⟨L,hL⟩:∃ L:bX,L=[x.2.2.2.2.2.2.2.1,x.2.2.2.2.2.2.2.2.1,x.2.2.2.2.2.2.2.2.2.1,x.2.2.2.2.2.2.2.2.2.2.1]:=⟨_,rfl⟩
 rw[← hL]
 have hL4:L.length=4:=by rw[hL];rfl
 refine ⟨fun s=>∃ k:Nat,k≤L.length∧s=((k:Int),(cR W5 ((L.take k).flatMap aND)).2,(cR W5 ((L.take k).flatMap aND)).1),fun s=>L.length - (s.1:Int).toNat,⟨0,by omega,rfl⟩,fun s _ hI=>?_⟩
 obtain ⟨k,hk,rfl⟩:=hI
 have y8:=gN W5 ((L.take k).flatMap aND) (rJ _ bBL)
 have y9:=kT aND 1 (L.take k) (fun _ _=>Nat.le_refl _)
 rw[List.length_take] at y9
 dsimp only
 refine fJ ?_
 constructor
 ·intro hlt
  have hk':k<L.length:=by omega
  rw[bE hk']
  have e:sN (cR W5 ((L.take k).flatMap aND)) (cP (L[k]'hk'))=cR W5 ((L.take (k+1)).flatMap aND):=by rw[mK aND L hk',oM];rfl
  (repeat' first|intro _|(with_reducible apply And.intro))
  all_goals first|omega|(exact Nat.le_trans (bI _) (by decide))|(exact Nat.le_trans e1 (by omega))|skip
  exact ⟨k+1,by omega,by rw[← e];rfl⟩
 intro hge
 obtain rfl:k=L.length:=by omega
 rw[List.take_length] at y8 y9 ⊢
 refine ⟨⟨by omega,by omega⟩,fun _=>fun _=>?_⟩
 refine aXZ _ hl ?_
 unfold fW zY
 simp only[oM]
 show _=cR (cR (cR (cR (cR (cR (sN ([],false) (cP (nU x))) _) _) _) _) _) _
 rw[← hW1,← hW2,← hW3,← hW4,← hW5,hL]
 rfl
theorem yV:Con.Holds Tryz.prog fC:=aQ aR (aG aMM (aG bC6 (aG xE (aG xC (aG aEO (aG aEP aO)))))) aIF aIN
def gD:Con:=⟨40,aB,.bool,[.val ⟨true,aB,[]⟩],[⟨false,.bool,[0]⟩],false,none,
 ((fun x=>aAI x):(aM)→Prop),
 ((fun x=>(kZ x).all mN):(aM)→(Bool))⟩
def mD:T :=
 .bEM (.lit 3 tI 2) (.bEN tI tI (.p1 tI iT (.Z 0)) (aI aB 12 (.Z 0))) <|
 .bEM (.lit 112 aA 5) (aY (.bEL aA (.bEL aA (.bEL aA aU))) [(.Z 1),(aI aB 7 (.Z 0)),(aI aB 8 (.Z 0)),(aI aB 9 (.Z 0)),(aI aB 10 (.Z 0))]) <|
 .loop aC (.bEN tI aE (.ci .i64 0) (.Z 2)) <|
  .bEM (.bEP 76 aD) (aI aB 1 (.Z 0)) <|
  .bEM (.cmp .lss .i64) (.bEN tI tI (.p1 tI aE (.Z 3)) (.Z 4)) <|
  .ite (.Z 5) (
   .bEM (.bEQ 76 aD) (.bEN aL tI (aI aB 1 (.Z 0)) (.p1 tI aE (.Z 3))) <|
   .bEM (.bEQ 76 aD) (.bEN aL tI (aI aB 1 (.Z 0)) (.p1 tI aE (.Z 3))) <|
   .bEM (.lit 3 tI 2) (.bEN tI tI (.p1 tI tI (.Z 6)) (aN aD 1 (.Z 7))) <|
   .bEM (.lit 112 aA 1) (.Z 8) <|
   .bEM (.bES 112 aA 24) (.bEN aE aE (aN aC 1 (.Z 3)) (.Z 9)) <|
   .bEM (.ar .add .i64) (.bEN tI tI (.p1 tI aE (.Z 3)) (.ci .i64 1)) <|
   .bEO 0 (.bEN tI aE (.Z 11) (.Z 10))) (
   .loop aC (.bEN tI aE (.ci .i64 0) (aN aC 1 (.Z 3))) <|
    .bEM (.bEP 78 bC) (aI aB 2 (.Z 0)) <|
    .bEM (.cmp .lss .i64) (.bEN tI tI (.p1 tI aE (.Z 6)) (.Z 7)) <|
    .ite (.Z 8) (
     .bEM (.bEQ 78 bC) (.bEN aF tI (aI aB 2 (.Z 0)) (.p1 tI aE (.Z 6))) <|
     .bEM (.lit 112 aA 1) (aN bC 3 (.Z 9)) <|
     .bEM (.bES 112 aA 24) (.bEN aE aE (aN aC 1 (.Z 6)) (.Z 10)) <|
     .bEM (.ar .add .i64) (.bEN tI tI (.p1 tI aE (.Z 6)) (.ci .i64 1)) <|
     .bEO 0 (.bEN tI aE (.Z 12) (.Z 11))) (
     .loop aC (.bEN tI aE (.ci .i64 0) (aN aC 1 (.Z 6))) <|
      .bEM (.bEP 80 aC) (aI aB 5 (.Z 0)) <|
      .bEM (.cmp .lss .i64) (.bEN tI tI (.p1 tI aE (.Z 9)) (.Z 10)) <|
      .ite (.Z 11) (
       .bEM (.bEQ 80 aC) (.bEN (.slice 80 aC) tI (aI aB 5 (.Z 0)) (.p1 tI aE (.Z 9))) <|
       .bEM (.lit 3 tI 1) (.p1 tI aE (.Z 12)) <|
       .bEM (.lit 112 aA 1) (.Z 13) <|
       .bEM (.bES 112 aA 24) (.bEN aE aE (aN aC 1 (.Z 9)) (.Z 14)) <|
       .bEM (.bEQ 80 aC) (.bEN (.slice 80 aC) tI (aI aB 5 (.Z 0)) (.p1 tI aE (.Z 9))) <|
       .bEM (.bES 112 aA 24) (.bEN aE aE (.Z 15) (aN aC 1 (.Z 16))) <|
       .bEM (.ar .add .i64) (.bEN tI tI (.p1 tI aE (.Z 9)) (.ci .i64 1)) <|
       .bEO 0 (.bEN tI aE (.Z 18) (.Z 17))) (
       .bEM (.bES 112 aA 24) (.bEN aE aE (aN aC 1 (.Z 9)) (aI aB 6 (.Z 0))) <|
       .bEM (.bES 112 aA 24) (.bEN aE aE (.Z 12) (aI aB 11 (.Z 0))) <|
       .call 0 (.Z 13) <|
       .ret (.Z 14))))
theorem aDE:bJ Tryz.prog [nB] gD false 3000 ⟨[(2991,1003,jT 26 7++[.dr 0,.tm 4 0,.sl 3]),(2981,2006,jT 31 27++[.dr 4,.tm 5 0,.sl 3]),(2971,4009,jT 55 51++[.dr 5,.tm 6 0,.sl 3])],[(2996,1001,[12],[]),(2983,3006,[47],[]),(2962,12012,[82],[])]⟩ = .ok mD:=by kernel_rfl
theorem aC8 (x:aM) (hx:okD aB x) (hp:(fun x=>aAI x) x):mD.wp [nB] [⟨aB,x⟩] [] (fun v=>v.as .bool=(fun x=>(kZ x).all mN) x):=by
 have hl:aAI x:=hp
 have hm:=(bA _).1 ((bV x).1 hl.1).1
 have hg:=((iS _ _).1 ((bV x).1 hl.1).2.2.1).1
 have hkp:=aB3 hl.1
 obtain ⟨hl0,hl1,hl2,hl3⟩:=hl
 delta mD nB;refine eE ?_
 intro _ _
 obtain ⟨A,hA⟩:∃ A:bX,A=[[x.1,x.2.2.2.2.2.2.2.2.2.2.2.2.1],x.2.2.2.2.2.2.2.1,x.2.2.2.2.2.2.2.2.1,x.2.2.2.2.2.2.2.2.2.1,x.2.2.2.2.2.2.2.2.2.2.1]:=⟨_,rfl⟩
 have hA5:A.length=5:=by rw[hA];rfl
 rw[← hA]
 refine ⟨fun s=>∃ k:Nat,k≤x.2.1.length∧s=((k:Int),A++(x.2.1.take k).flatMap (fun i=>[[i.1,i.2]])),fun s=>x.2.1.length - (s.1:Int).toNat,⟨0,by omega,by simp⟩,fun s _ hI=>?_⟩
 obtain ⟨k,hk,rfl⟩:=hI
 have y2:=kT (fun i:eY=>[[i.1,i.2]]) 1 (x.2.1.take k) (fun _ _=>Nat.le_refl _)
 rw[List.length_take] at y2
 dsimp only
 refine fJ ?_
 intro _
 constructor
 ·intro hlt
  have hk':k<x.2.1.length:=by omega
  rw[bE hk']
  have e:=mK (fun i:eY=>[[i.1,i.2]]) x.2.1 hk'
  (repeat' first|intro _|(with_reducible apply And.intro))
  all_goals first|omega|(unfold maxLen;omega)|skip
  exact ⟨k+1,by omega,by rw[e,← List.append_assoc];rfl⟩
 intro hge
 obtain rfl:k=x.2.1.length:=by omega
 rw[List.take_length] at y2 ⊢
 obtain ⟨B,hB⟩:∃ B,B=A++x.2.1.flatMap (fun i=>[[i.1,i.2]]):=⟨_,rfl⟩
 have zB:B.length≤105:=by rw[hB,List.length_append];omega
 rw[← hB]
 refine ⟨fun s=>∃ k:Nat,k≤x.2.2.1.length∧s=((k:Int),B++(x.2.2.1.take k).flatMap (fun o=>[o.2.2.2])),fun s=>x.2.2.1.length - (s.1:Int).toNat,⟨0,by omega,by simp⟩,fun s _ hI=>?_⟩
 obtain ⟨k,hk,rfl⟩:=hI
 have y3:=kT (fun o:dR=>[o.2.2.2]) 1 (x.2.2.1.take k) (fun _ _=>Nat.le_refl _)
 rw[List.length_take] at y3
 dsimp only
 refine fJ ?_
 intro _
 constructor
 ·intro hlt
  have hk':k<x.2.2.1.length:=by omega
  rw[bE hk']
  have e:=mK (fun o:dR=>[o.2.2.2]) x.2.2.1 hk'
  (repeat' first|intro _|(with_reducible apply And.intro))
  all_goals first|omega|(unfold maxLen;omega)|skip
  exact ⟨k+1,by omega,by rw[e,← List.append_assoc];rfl⟩
 intro hge
 obtain rfl:k=x.2.2.1.length:=by omega
 rw[List.take_length] at y3 ⊢
 obtain ⟨C,hC⟩:∃ C,C=B++x.2.2.1.flatMap (fun o=>[o.2.2.2]):=⟨_,rfl⟩
 have zC:C.length≤113:=by rw[hC,List.length_append];omega
 rw[← hC]
 refine ⟨fun s=>∃ k:Nat,k≤x.2.2.2.2.2.1.length∧s=((k:Int),C++(x.2.2.2.2.2.1.take k).flatMap (fun x=>[x.1] :: x.2)),fun s=>x.2.2.2.2.2.1.length - (s.1:Int).toNat,⟨0,by omega,by simp⟩,fun s _ hI=>?_⟩
 obtain ⟨k,hk,rfl⟩:=hI
 have y4:=kT (fun x:dQ=>[x.1] :: x.2) 10 (x.2.2.2.2.2.1.take k) (fun a ha=>by have:=hkp a (List.mem_of_mem_take ha);rw[List.length_cons];omega)
 rw[List.length_take] at y4
 dsimp only
 refine fJ ?_
 intro _
 constructor
 ·intro hlt
  have hk':k<x.2.2.2.2.2.1.length:=by omega
  rw[bE hk']
  have hkk:=hkp _ (List.getElem_mem hk')
  have e:=mK (fun x:dQ=>[x.1] :: x.2) x.2.2.2.2.2.1 hk'
  (repeat' first|intro _|(with_reducible apply And.intro))
  all_goals first|omega|(unfold maxLen;omega)|skip
  exact ⟨k+1,by omega,Prod.ext (by show (k:Int)+1=((k+1:Nat):Int);omega) (by rw[e];simp[List.append_assoc])⟩
 intro hge
 obtain rfl:k=x.2.2.2.2.2.1.length:=by omega
 rw[List.take_length] at y4 ⊢
 obtain ⟨D,hD⟩:∃ D,D=C++x.2.2.2.2.2.1.flatMap (fun x=>[x.1] :: x.2):=⟨_,rfl⟩
 have zD:D.length≤163:=by rw[hD,List.length_append];omega
 rw[← hD]
 have fin:(D++x.2.2.2.2.2.2.1)++x.2.2.2.2.2.2.2.2.2.2.2.1=kZ x:=by rw[hD,hC,hB,hA];unfold kZ;simp only[List.append_assoc]
 (repeat' first|intro _|(with_reducible apply And.intro))
 all_goals first|omega|(unfold maxLen;omega)|skip
 rw[← fin]
theorem aCH:Con.Holds Tryz.prog gD:=aQ aR (aG aMJ aO) aDE aC8
def jN:Con:=⟨15,aB,.str,[.val ⟨true,aB,[]⟩],[⟨false,.str,[0]⟩],false,none,
 ((fun _=>True):(aM)→Prop),
 ((fun x=>gF x):(aM)→(ByteArray))⟩
def rO:T:=.call 0 (.Z 0) <|
 .bEM .not (.Z 1) <|
 .ite (.Z 2) (
  .ret (.cs ⟨#[]⟩)) (
  .bEM (.bEP 76 aD) (aI aB 1 (.Z 0)) <|
  .bEM (.cmp .gtr .i64) (.bEN tI tI (.Z 3) (.ci .i64 100)) <|
  .ite (.Z 4) (
   .ret (.cs ⟨#[]⟩)) (
   .bEM (.bEP 80 aC) (aI aB 5 (.Z 0)) <|
   .bEM (.cmp .gtr .i64) (.bEN tI tI (.Z 5) (.ci .i64 5)) <|
   .ite (.Z 6) (
    .ret (.cs ⟨#[]⟩)) (
    .bEM (.bEP 112 aA) (aI aB 6 (.Z 0)) <|
    .bEM (.cmp .gtr .i64) (.bEN tI tI (.Z 7) (.ci .i64 20)) <|
    .ite (.Z 8) (
     .ret (.cs ⟨#[]⟩)) (
     .call 1 (.Z 0) <|
     .bEM .not (.Z 9) <|
     .ite (.Z 10) (
      .ret (.cs ⟨#[]⟩)) (
      .bEM (.bEP 76 aD) (aI aB 1 (.Z 0)) <|
      .bEM (.bEP 78 bC) (aI aB 2 (.Z 0)) <|
      .bEM (.bEP 80 aC) (aI aB 5 (.Z 0)) <|
      .call 2 (aI aB 3 (.Z 0)) <|
      .call 2 (aI aB 4 (.Z 0)) <|
      .call 2 (aN aB 13 (.Z 0)) <|
      .bEM (.lit 3 tI 8) (aY (.bEL tI (.bEL tI (.bEL tI (.bEL tI (.bEL tI (.bEL tI aD)))))) [(.p1 tI iT (.Z 0)),(.Z 14),(.Z 15),(aI aB 12 (.Z 0)),(.Z 16),(.Z 11),(.Z 12),(.Z 13)]) <|
      .call 3 (.Z 17) <|
      .loop (.bEL tI .str) (.bEN tI .str (.ci .i64 0) (.Z 18)) <|
       .bEM (.bEP 76 aD) (aI aB 1 (.Z 0)) <|
       .bEM (.cmp .lss .i64) (.bEN tI tI (.p1 tI .str (.Z 19)) (.Z 20)) <|
       .ite (.Z 21) (
        .bEM (.bEQ 76 aD) (.bEN aL tI (aI aB 1 (.Z 0)) (.p1 tI .str (.Z 19))) <|
        .bEM (.bEQ 76 aD) (.bEN aL tI (aI aB 1 (.Z 0)) (.p1 tI .str (.Z 19))) <|
        .bEM (.lit 3 tI 2) (.bEN tI tI (.p1 tI tI (.Z 22)) (aN aD 1 (.Z 23))) <|
        .call 3 (.Z 24) <|
        .bEM .sadd (.bEN .str .str (aN (.bEL tI .str) 1 (.Z 19)) (.Z 25)) <|
        .bEM (.ar .add .i64) (.bEN tI tI (.p1 tI .str (.Z 19)) (.ci .i64 1)) <|
        .bEO 0 (.bEN tI .str (.Z 27) (.Z 26))) (
        .loop (.bEL tI .str) (.bEN tI .str (.ci .i64 0) (aN (.bEL tI .str) 1 (.Z 19))) <|
         .bEM (.bEP 78 bC) (aI aB 2 (.Z 0)) <|
         .bEM (.cmp .lss .i64) (.bEN tI tI (.p1 tI .str (.Z 22)) (.Z 23)) <|
         .ite (.Z 24) (
          .bEM (.bEQ 78 bC) (.bEN aF tI (aI aB 2 (.Z 0)) (.p1 tI .str (.Z 22))) <|
          .bEM (.bEQ 78 bC) (.bEN aF tI (aI aB 2 (.Z 0)) (.p1 tI .str (.Z 22))) <|
          .bEM (.bEQ 78 bC) (.bEN aF tI (aI aB 2 (.Z 0)) (.p1 tI .str (.Z 22))) <|
          .bEM (.bEQ 78 bC) (.bEN aF tI (aI aB 2 (.Z 0)) (.p1 tI .str (.Z 22))) <|
          .bEM (.lit 3 tI 3) (aY (.bEL tI aD) [(.p1 tI (.bEL tI aK) (.Z 25)),(aI bC 1 (.Z 26)),(aI bC 2 (.Z 27))]) <|
          .call 3 (.Z 29) <|
          .bEM .sadd (.bEN .str .str (aN (.bEL tI .str) 1 (.Z 22)) (.Z 30)) <|
          .call 3 (aN bC 3 (.Z 28)) <|
          .bEM .sadd (.bEN .str .str (.Z 31) (.Z 32)) <|
          .bEM (.ar .add .i64) (.bEN tI tI (.p1 tI .str (.Z 22)) (.ci .i64 1)) <|
          .bEO 0 (.bEN tI .str (.Z 34) (.Z 33))) (
          .loop (.bEL tI .str) (.bEN tI .str (.ci .i64 0) (aN (.bEL tI .str) 1 (.Z 22))) <|
           .bEM (.bEP 80 aC) (aI aB 5 (.Z 0)) <|
           .bEM (.cmp .lss .i64) (.bEN tI tI (.p1 tI .str (.Z 25)) (.Z 26)) <|
           .ite (.Z 27) (
            .bEM (.bEQ 80 aC) (.bEN (.slice 80 aC) tI (aI aB 5 (.Z 0)) (.p1 tI .str (.Z 25))) <|
            .bEM (.bEQ 80 aC) (.bEN (.slice 80 aC) tI (aI aB 5 (.Z 0)) (.p1 tI .str (.Z 25))) <|
            .bEM (.lit 3 tI 1) (.p1 tI aE (.Z 28)) <|
            .call 3 (.Z 30) <|
            .bEM .sadd (.bEN .str .str (aN (.bEL tI .str) 1 (.Z 25)) (.Z 31)) <|
            .call 4 (aN aC 1 (.Z 29)) <|
            .bEM .sadd (.bEN .str .str (.Z 32) (.Z 33)) <|
            .bEM (.ar .add .i64) (.bEN tI tI (.p1 tI .str (.Z 25)) (.ci .i64 1)) <|
            .bEO 0 (.bEN tI .str (.Z 35) (.Z 34))) (
            .call 4 (aI aB 6 (.Z 0)) <|
            .bEM .sadd (.bEN .str .str (aN (.bEL tI .str) 1 (.Z 25)) (.Z 28)) <|
            .call 3 (aI aB 7 (.Z 0)) <|
            .bEM .sadd (.bEN .str .str (.Z 29) (.Z 30)) <|
            .call 3 (aI aB 8 (.Z 0)) <|
            .bEM .sadd (.bEN .str .str (.Z 31) (.Z 32)) <|
            .call 3 (aI aB 9 (.Z 0)) <|
            .bEM .sadd (.bEN .str .str (.Z 33) (.Z 34)) <|
            .call 3 (aI aB 10 (.Z 0)) <|
            .bEM .sadd (.bEN .str .str (.Z 35) (.Z 36)) <|
            .call 4 (aI aB 11 (.Z 0)) <|
            .bEM .sadd (.bEN .str .str (.Z 37) (.Z 38)) <|
            .ret (.Z 39)))))))))
theorem aI5:bJ Tryz.prog [cV,gD,mU,cG,mV] jN false 3000 ⟨[(2986,32019,[.dr 58,.dr 57,.dr 47,.dr 40,.dr 37,.dr 56,.dr 55,.dr 53,.dr 52,.dr 50,.dr 49,.dr 46,.dr 43,.dr 39,.dr 36,.dr 34,.dr 54,.dr 51,.dr 48,.dr 45,.dr 44,.dr 42,.dr 41,.dr 38,.dr 35]++jT 33 7++[.dr 0,.tm 4 0,.tm 3 0]),(2976,64022,jT 63 59++[.dr 4,.tm 5 0,.tm 3 0]),(2966,128025,jT 86 82++[.dr 5,.tm 6 0,.tm 3 0])],[]⟩ = .ok rO:=by kernel_rfl
theorem aHW (x:aM) (hx:okD aB x) (hp:(fun _=>True) x):rO.wp [cV,gD,mU,cG,mV] [⟨aB,x⟩] [] (fun v=>v.as .str=(fun x=>gF x) x):=by
 delta rO cV gD mU cG mV;refine eE ?_
 refine fJ ?_
 refine ⟨fun h=>kC fun hl=>(by have:=hl.1;rw[h] at this;cases this),fun h1 _=>⟨fun h=>kC fun hl=>by have:=hl.2.1;omega,fun h2 _=>⟨fun h=>kC fun hl=>by have:=hl.2.2.1;omega,fun h3 _=>⟨fun h=>kC fun hl=>by have:=hl.2.2.2;omega,fun h4=>?_⟩⟩⟩⟩
 have hl:aAI x:=⟨h1,by omega,by omega,by omega⟩
 have hm:=(bA _).1 ((bV x).1 h1).1
 have hg:=((iS _ _).1 ((bV x).1 h1).2.2.1).1
 have hkp:=aB3 h1
 have hv:=bI (nU x)
 refine ⟨hl,fun h=>?_,fun h5=>?_⟩
 ·rw[aBY hl,if_neg (by rw[h];decide)]
 rw[aBY hl,if_pos h5]
 obtain ⟨W1,hW1⟩:∃ W1,W1=cP (nU x):=⟨_,rfl⟩
 rw[← hW1] at hv
 (repeat' first|intro _|(with_reducible apply And.intro))
 all_goals first|omega|(exact Nat.le_trans (bI _) (by decide))|skip
 refine ⟨fun s=>∃ k:Nat,k≤x.2.1.length∧s=((k:Int),gS W1 ((x.2.1.take k).flatMap pE)),fun s=>x.2.1.length - (s.1:Int).toNat,⟨0,by omega,by rw[hW1];rfl⟩,fun s _ hI=>?_⟩
 obtain ⟨k,hk,rfl⟩:=hI
 have y1:=kM W1 ((x.2.1.take k).flatMap pE) (rJ _ aL3)
 have y2:=kT pE 1 (x.2.1.take k) (fun _ _=>Nat.le_refl _)
 rw[List.length_take] at y2
 dsimp only
 refine fJ ?_
 intro _
 constructor
 ·intro hlt
  have hk':k<x.2.1.length:=by omega
  rw[bE hk']
  have e:gS W1 ((x.2.1.take k).flatMap pE)++(cP [(x.2.1[k]'hk').1,(x.2.1[k]'hk').2])=gS W1 ((x.2.1.take (k+1)).flatMap pE):=by rw[mK pE x.2.1 hk',xZ];rfl
  have h6:=bI [(x.2.1[k]'hk').1,(x.2.1[k]'hk').2]
  (repeat' first|intro _|(with_reducible apply And.intro))
  all_goals first|omega|(unfold maxLen;omega)|skip
  exact ⟨k+1,by omega,by rw[← e];rfl⟩
 intro hge
 obtain rfl:k=x.2.1.length:=by omega
 rw[List.take_length] at y1 y2 ⊢
 obtain ⟨W2,hW2⟩:∃ W2,W2=gS W1 (x.2.1.flatMap pE):=⟨_,rfl⟩
 rw[← hW2] at y1 ⊢
 refine ⟨fun s=>∃ k:Nat,k≤x.2.2.1.length∧s=((k:Int),gS W2 ((x.2.2.1.take k).flatMap opP)),fun s=>x.2.2.1.length - (s.1:Int).toNat,⟨0,by omega,rfl⟩,fun s _ hI=>?_⟩
 obtain ⟨k,hk,rfl⟩:=hI
 have y3:=kM W2 ((x.2.2.1.take k).flatMap opP) (rJ _ aSQ)
 have y4:=kT opP 2 (x.2.2.1.take k) (fun _ _=>Nat.le_refl _)
 rw[List.length_take] at y4
 dsimp only
 refine fJ ?_
 intro _
 constructor
 ·intro hlt
  have hk':k<x.2.2.1.length:=by omega
  rw[bE hk']
  have e:gS W2 ((x.2.2.1.take k).flatMap opP)++(cP [(x.2.2.1[k]'hk').1,(x.2.2.1[k]'hk').2.1,(x.2.2.1[k]'hk').2.2.1])++(cP (x.2.2.1[k]'hk').2.2.2)=gS W2 ((x.2.2.1.take (k+1)).flatMap opP):=by rw[mK opP x.2.2.1 hk',xZ];rfl
  have h6:=bI [(x.2.2.1[k]'hk').1,(x.2.2.1[k]'hk').2.1,(x.2.2.1[k]'hk').2.2.1]
  have h7:=bI (x.2.2.1[k]'hk').2.2.2
  (repeat' first|intro _|(with_reducible apply And.intro))
  all_goals first|omega|(unfold maxLen;rw[dE];omega)|(unfold maxLen;omega)|skip
  exact ⟨k+1,by omega,by rw[← e];rfl⟩
 intro hge
 obtain rfl:k=x.2.2.1.length:=by omega
 rw[List.take_length] at y3 y4 ⊢
 obtain ⟨W3,hW3⟩:∃ W3,W3=gS W2 (x.2.2.1.flatMap opP):=⟨_,rfl⟩
 rw[← hW3] at y3 ⊢
 refine ⟨fun s=>∃ k:Nat,k≤x.2.2.2.2.2.1.length∧s=((k:Int),gS W3 ((x.2.2.2.2.2.1.take k).flatMap lH)),fun s=>x.2.2.2.2.2.1.length - (s.1:Int).toNat,⟨0,by omega,rfl⟩,fun s _ hI=>?_⟩
 obtain ⟨k,hk,rfl⟩:=hI
 have y5:=kM W3 ((x.2.2.2.2.2.1.take k).flatMap lH) (rJ _ aKI)
 have y6:=kT lH 11 (x.2.2.2.2.2.1.take k) (fun a ha=>by have:=hkp a (List.mem_of_mem_take ha);unfold lH;rw[List.length_cons,jF];omega)
 rw[List.length_take] at y6
 dsimp only
 refine fJ ?_
 intro _
 constructor
 ·intro hlt
  have hk':k<x.2.2.2.2.2.1.length:=by omega
  rw[bE hk']
  have hkk:=hkp _ (List.getElem_mem hk')
  have e:gS W3 ((x.2.2.2.2.2.1.take k).flatMap lH)++(cP [(x.2.2.2.2.2.1[k]'hk').1])++gS ⟨#[]⟩ (dN (x.2.2.2.2.2.1[k]'hk').2)=gS W3 ((x.2.2.2.2.2.1.take (k+1)).flatMap lH):=by rw[mK lH x.2.2.2.2.2.1 hk',xZ];exact (qJ (gS W3 ((x.2.2.2.2.2.1.take k).flatMap lH)++cP [(x.2.2.2.2.2.1[k]'hk').1]) (dN (x.2.2.2.2.2.1[k]'hk').2)).symm
  have h6:=bI [(x.2.2.2.2.2.1[k]'hk').1]
  have h7:=kM ⟨#[]⟩ _ (kJ (x.2.2.2.2.2.1[k]'hk').2)
  rw[jF,show (⟨#[]⟩:ByteArray).size=0 from rfl] at h7
  (repeat' first|intro _|(with_reducible apply And.intro))
  all_goals first|omega|(unfold maxLen;rw[dE];omega)|(unfold maxLen;omega)|skip
  exact ⟨k+1,by omega,by rw[← e];rfl⟩
 intro hge
 obtain rfl:k=x.2.2.2.2.2.1.length:=by omega
 rw[List.take_length] at y5 y6 ⊢
 obtain ⟨W4,hW4⟩:∃ W4,W4=gS W3 (x.2.2.2.2.2.1.flatMap lH):=⟨_,rfl⟩
 rw[← hW4] at y5 ⊢
 have h7:=kM ⟨#[]⟩ _ (kJ x.2.2.2.2.2.2.1)
 have h8:=kM ⟨#[]⟩ _ (kJ x.2.2.2.2.2.2.2.2.2.2.2.1)
 rw[jF,show (⟨#[]⟩:ByteArray).size=0 from rfl] at h7 h8
 have v1:=bI x.2.2.2.2.2.2.2.1
 have v2:=bI x.2.2.2.2.2.2.2.2.1
 have v3:=bI x.2.2.2.2.2.2.2.2.2.1
 have v4:=bI x.2.2.2.2.2.2.2.2.2.2.1
 (repeat' first|intro _|(with_reducible apply And.intro))
 all_goals first|omega|(unfold maxLen;(try simp only[dE]);omega)|skip
 unfold fW zY
 simp only[xZ]
 show _=gS (gS (gS (gS (gS (gS (⟨#[]⟩++cP (nU x)) _) _) _) _) _) _
 rw[show (⟨#[]⟩:ByteArray)++cP (nU x)=W1 from by rw[hW1];exact tQ _,← hW2,← hW3,← hW4,qJ (gS (gS W4 _) _),qJ W4]
 rfl
theorem aHR:Con.Holds Tryz.prog jN:=aQ aR (aG qT (aG aCH (aG aPV (aG mT (aG aN7 aO))))) aI5 aHW
end
end Go.Proofs.YtdeobhdbmehpgaaGreat
