/- Read11: lemmas. No conditions. -/
import Derived.Test.YtlabadaccldkaaaGreatRead10
namespace Go.Proofs.YtlabadaccldkaaaGreat
open Go.ChangeShapes Go.WideShapes Go.ChangeAt Go.RowKit Go.Deep
set_option linter.unusedVariables false
set_option linter.unusedSimpArgs false
def tE (r:fA):lA × fA:=(((eB r).1,(eB (eB r).2).1),(eB (eB r).2).2)
def qqF (r:fA):(bK × bK) × fA:=(((mE r).1,(mE (mE r).2).1),(mE (mE r).2).2)
def P3 (a:List lA) (b:List bA) (ca cb:List bK) (q:List (bK × bK) × fA):dH × fA:=((a,b,ca++q.1.map Prod.fst,cb++q.1.map Prod.snd),q.2)
def P2 (h:List Int) (a:List lA) (acc:List bA) (q:List bA × fA):dH × fA:=P3 a (acc++q.1) [] [] (dG qqF (h.getD 1 0 - 1).toNat q.2)
def P1 (h:List Int) (acc:List lA) (q:List lA × fA):dH × fA:=P2 h (acc++q.1) [] (dG eH (h.getD 1 0).toNat q.2)
def xN (r:fA):dH × fA:=P1 (bP r 2).1 [] (dG tE ((bP r 2).1.getD 0 0).toNat (bP r 2).2)
def xJ (s:ByteArray) (p:Int):lA × Int:=(((fI s p).1,(fI s (fI s p).2).1),(fI s (fI s p).2).2)
def qqQ (s:ByteArray) (p:Int):(bK × bK) × Int:=(((mD s p).1,(mD s (mD s p).2).1),(mD s (mD s p).2).2)
def P3Q (a:List lA) (b:List bA) (ca cb:List bK) (q:List (bK × bK) × Int):dH × Int:=((a,b,ca++q.1.map Prod.fst,cb++q.1.map Prod.snd),q.2)
def P2Q (s:ByteArray) (a:List lA) (acc:List bA) (q:List bA × Int):dH × Int:=P3Q a (acc++q.1) [] [] (cU (qqQ s) ((acc++q.1).length - 1) q.2)
def P1Q (s:ByteArray) (h:List Int) (acc:List lA) (q:List lA × Int):dH × Int:=P2Q s (acc++q.1) [] (cU (kI s) (min (h.getD 1 0).toNat 4) q.2)
def aAW (s:ByteArray):dH × Int:=P1Q s (jP s 2 0).1 [] (cU (xJ s) (min ((jP s 2 0).1.getD 0 0).toNat 5) (jP s 2 0).2)
def aFW:dH:=aV aH
noncomputable def xG (s:ByteArray):dH × Bool:=if (xN (lW s 0)).2.2.2=true∨s=⟨#[]⟩∨¬ jQ (xN (lW s 0)).1=s then (aFW,false) else ((xN (lW s 0)).1,true)
noncomputable def aLC (s:ByteArray):dH × Bool:=if ¬ (aAW s).2=(s.size:Int)∨s=⟨#[]⟩∨¬ jQ (aAW s).1=s then (aFW,false) else ((aAW s).1,true)
def qqP (q:bK × bK):List ByteArray:=eX q.1++eX q.2
def tB (a b:List bK):List (bK × bK):=(List.range a.length).map fun i=>(a.getD i (aV aE),b.getD i (aV aE))
theorem aKD {α:Type} (z:α) (a:List α):(List.range a.length).map (fun i=>a.getD i z)=a:=by
 apply List.ext_getElem
 ·rw[List.length_map,List.length_range]
 ·intro i h1 h2
  rw[List.getElem_map,List.getElem_range,bG h2]
theorem aV2 (a b:List bK):(tB a b).map Prod.fst=a:=by
 unfold tB;rw[List.map_map];exact aKD _ a
theorem aVB {a b:List bK} (h:a.length=b.length):(tB a b).map Prod.snd=b:=by
 unfold tB;rw[List.map_map,h];exact aKD _ b
theorem aVR (a b:List bK):(List.range a.length).flatMap (qsP a b)=(tB a b).flatMap qqP:=by
 unfold tB;rw[List.flatMap_map];rfl
theorem aRG:(l:List bA)→(∀ a∈l,dF a=cK ⟨#[]⟩ (dB a))→cK ⟨#[]⟩ (l.flatMap stP)=cK ⟨#[]⟩ (l.flatMap dB)
 | [],_=>rfl
 | x :: l,h=>by
  rw[List.flatMap_cons,List.flatMap_cons,iW,iW,aRG l fun a ha=>h a (List.mem_cons_of_mem _ ha)]
  congr 1
  show cK ⟨#[]⟩ [dF x]=_
  rw[gC,fF,h x List.mem_cons_self]
theorem aI7 {q:bK} (h:gM q=true):aI3 q:=by
 have h1:=hY.1 h
 refine ⟨aOH (by omega) (by omega),by omega,fun a ha=>?_⟩
 obtain ⟨i,hi,rfl⟩:=List.getElem_of_mem ha
 have h2:=(lT _).1 (h1.2 i hi)
 rw[bG hi] at h2
 exact ⟨aV3 (by omega),oC h2.1⟩
theorem aN0 {s:ByteArray} (a:lA) (p:Nat) (ha:gV a.1=true∧gV a.2=true) (h:gW s p (cK ⟨#[]⟩ (gK a))):tE (lW s p)=(a,lW s (p+(cK ⟨#[]⟩ (gK a)).size)):=by
 unfold gK at h ⊢
 rw[eD,gC,fF] at h ⊢
 obtain ⟨h1,h2⟩:=bJ.1 h
 unfold tE
 rw[iK ha.1 h1]
 dsimp only
 rw[iK ha.2 h2,cA,Nat.add_assoc]
theorem aMO {s:ByteArray} (a:lA) (p:Nat) (ha:gV a.1=true∧gV a.2=true) (h:gW s p (cK ⟨#[]⟩ (gK a))):xJ s p=(a,((p+(cK ⟨#[]⟩ (gK a)).size:Nat):Int)):=by
 unfold gK at h ⊢
 rw[eD,gC,fF] at h ⊢
 obtain ⟨h1,h2⟩:=bJ.1 h
 unfold xJ
 rw[iL ha.1 h1]
 dsimp only
 rw[iL ha.2 h2,cA,Nat.add_assoc]
theorem aSH {s:ByteArray} (a:bK × bK) (p:Nat) (ha:aI3 a.1∧aI3 a.2) (h:gW s p (cK ⟨#[]⟩ (qqP a))):qqF (lW s p)=(a,lW s (p+(cK ⟨#[]⟩ (qqP a)).size)):=by
 unfold qqP at h ⊢
 rw[iW] at h ⊢
 obtain ⟨h1,h2⟩:=bJ.1 h
 unfold qqF
 rw[aB3 ha.1 h1]
 dsimp only
 rw[aB3 ha.2 h2,cA,Nat.add_assoc]
theorem aRP {s:ByteArray} (a:bK × bK) (p:Nat) (ha:aI3 a.1∧aI3 a.2) (h:gW s p (cK ⟨#[]⟩ (qqP a))):qqQ s p=(a,((p+(cK ⟨#[]⟩ (qqP a)).size:Nat):Int)):=by
 unfold qqP at h ⊢
 rw[iW] at h ⊢
 obtain ⟨h1,h2⟩:=bJ.1 h
 unfold qqQ
 rw[aAY ha.1 h1]
 dsimp only
 rw[aAY ha.2 h2,cA,Nat.add_assoc]
theorem aFG {x:dH} (hs:∀ a∈x.2.1,dF a=cK ⟨#[]⟩ (dB a)):cK ⟨#[]⟩ (lO x)=cC [(x.1.length:Int),(x.2.1.length:Int)]++(cK ⟨#[]⟩ (x.1.flatMap gK)++(cK ⟨#[]⟩ (x.2.1.flatMap dB)++cK ⟨#[]⟩ ((tB x.2.2.1 x.2.2.2).flatMap qqP))):=by
 unfold lO
 rw[aVR,iW,iW,iW,aRG _ hs,gC,fF]
theorem aAK {x:dH} (h:nB x=true):(∀ a∈x.1,gV a.1=true∧gV a.2=true)∧(∀ a∈tB x.2.2.1 x.2.2.2,aI3 a.1∧aI3 a.2)∧gV [(x.1.length:Int),(x.2.1.length:Int)]=true∧(tB x.2.2.1 x.2.2.2).length+1=x.2.1.length∧x.2.2.1.length=x.2.2.2.length∧x.1.length≤5∧x.2.1.length≤4:=by
 obtain ⟨q1,q2,q3,q4⟩:=hY.1 h
 refine ⟨fun a ha=>?_,fun a ha=>?_,aOH (by omega) (by omega),?_,by omega,by omega,by omega⟩
 ·obtain ⟨i,hi,rfl⟩:=List.getElem_of_mem ha
  have h2:=q2 i hi
  rw[bG hi] at h2
  exact ⟨oC h2.1,oC h2.2⟩
 ·unfold tB at ha
  obtain ⟨i,hi,rfl⟩:=List.mem_map.1 ha
  have h2:=q3 i (List.mem_range.1 hi)
  exact ⟨aI7 h2.1,aI7 h2.2⟩
 ·unfold tB;rw[List.length_map,List.length_range];omega
theorem aMD {s:ByteArray} {x:dH} (hb:nB x=true) (hs:∀ a∈x.2.1,yD a∧dF a=cK ⟨#[]⟩ (dB a)) (h:gW s 0 (cK ⟨#[]⟩ (lO x))):xN (lW s 0)=(x,lW s (0+(cK ⟨#[]⟩ (lO x)).size)):=by
 obtain ⟨f1,f3,f0,fz,fe,_,_⟩:=aAK hb
 rw[aFG fun a ha=>(hs a ha).2] at h ⊢
 obtain ⟨h0,h⟩:=bJ.1 h
 obtain ⟨h1,h⟩:=bJ.1 h
 obtain ⟨h2,h3⟩:=bJ.1 h
 unfold xN
 rw[kE (n:=2) f0 h0 rfl]
 dsimp only
 rw[show ([(x.1.length:Int),(x.2.1.length:Int)].getD 0 0).toNat=x.1.length from Int.toNat_natCast _,hN aN0 x.1 _ f1 h1]
 unfold P1
 dsimp only
 rw[show ([(x.1.length:Int),(x.2.1.length:Int)].getD 1 0).toNat=x.2.1.length from Int.toNat_natCast _,hN (P:=yD) (fun a p ha h=>aL5 ha h) x.2.1 _ (fun a ha=>(hs a ha).1) h2]
 unfold P2
 dsimp only
 rw[show ([(x.1.length:Int),(x.2.1.length:Int)].getD 1 0 - 1).toNat=(tB x.2.2.1 x.2.2.2).length from by show ((x.2.1.length:Int) - 1).toNat=_;omega,hN aSH (tB x.2.2.1 x.2.2.2) _ f3 h3]
 unfold P3
 dsimp only
 rw[aV2,aVB fe]
 simp only[List.nil_append,cA,Nat.add_assoc]
theorem aNA {s:ByteArray} {x:dH} (hb:nB x=true) (hs:∀ a∈x.2.1,yD a∧dF a=cK ⟨#[]⟩ (dB a)) (h:gW s 0 (cK ⟨#[]⟩ (lO x))):aAW s=(x,((0+(cK ⟨#[]⟩ (lO x)).size:Nat):Int)):=by
 obtain ⟨f1,f3,f0,fz,fe,g1,g2⟩:=aAK hb
 rw[aFG fun a ha=>(hs a ha).2] at h ⊢
 obtain ⟨h0,h⟩:=bJ.1 h
 obtain ⟨h1,h⟩:=bJ.1 h
 obtain ⟨h2,h3⟩:=bJ.1 h
 unfold aAW
 rw[show jP s 2 0=_ from pI (n:=2) f0 h0 rfl]
 dsimp only
 rw[show min ([(x.1.length:Int),(x.2.1.length:Int)].getD 0 0).toNat 5=x.1.length from by show min ((x.1.length:Int)).toNat 5=_;omega,iA aMO x.1 _ f1 h1]
 unfold P1Q
 dsimp only
 rw[show min ([(x.1.length:Int),(x.2.1.length:Int)].getD 1 0).toNat 4=x.2.1.length from by show min ((x.2.1.length:Int)).toNat 4=_;omega,iA (P:=yD) (fun a p ha h=>aJC ha h) x.2.1 _ (fun a ha=>(hs a ha).1) h2]
 unfold P2Q
 dsimp only
 rw[List.nil_append,List.nil_append,show x.2.1.length - 1=(tB x.2.2.1 x.2.2.2).length by omega,iA aRP (tB x.2.2.1 x.2.2.2) _ f3 h3]
 unfold P3Q
 dsimp only
 rw[aV2,aVB fe]
 simp only[List.nil_append,cA,Nat.add_assoc]
theorem aF5 {s:ByteArray} {x:dH} (h:jQ x=s) (hs:¬ s=⟨#[]⟩):nB x=true∧(∀ a∈x.2.1,yD a∧dF a=cK ⟨#[]⟩ (dB a))∧cK ⟨#[]⟩ (lO x)=s:=by
 unfold jQ at h
 split at h
 ·rename_i h1
  refine ⟨h1.1,fun a ha=>aLU fun he=>?_,h⟩
  have h2:=List.all_eq_true.1 h1.2.1 a ha
  unfold isE at h2
  rw[he] at h2
  exact absurd h2 (by decide)
 ·exact absurd h.symm hs
theorem aJ1 (s:ByteArray):gW s 0 s:=⟨by omega,fun i _=>by rw[Nat.zero_add]⟩
theorem aVJ (s:ByteArray):xG s=aLC s:=by
 by_cases he:s=⟨#[]⟩
 ·unfold xG aLC;rw[if_pos (.inr (.inl he)),if_pos (.inr (.inl he))]
 by_cases hE:∃ x,jQ x=s
 ·obtain ⟨x,hx⟩:=hE
  obtain ⟨f1,f2,f3⟩:=aF5 hx he
  have h1:=aMD f1 f2 (f3 ▸ aJ1 s)
  have h2:=aNA f1 f2 (f3 ▸ aJ1 s)
  rw[f3] at h1 h2
  unfold xG aLC
  rw[h1,h2,if_neg,if_neg]
  ·rintro (h|h|h)
   ·exact h (by show ((0+s.size:Nat):Int)=_;omega)
   ·exact he h
   ·exact h hx
  ·rintro (h|h|h)
   ·cases h
   ·exact he h
   ·exact h hx
 ·unfold xG aLC
  rw[if_pos (.inr (.inr fun h=>hE ⟨_,h⟩)),if_pos (.inr (.inr fun h=>hE ⟨_,h⟩))]
theorem aUG {r:fA} (h:lM r):lM (tE r).2∧(tE r).2.1=r.1:=by
 have h1:=jJ h
 have h2:=jJ h1.1
 exact ⟨h2.1,h2.2.trans h1.2⟩
theorem aWJ {r:fA} (h:lM r):lM (qqF r).2∧(qqF r).2.1=r.1:=by
 have h1:=aDD h
 have h2:=aDD h1.1
 exact ⟨h2.1,h2.2.trans h1.2⟩
theorem aUN (s:ByteArray):GdQ s (xJ s):=fun p hp=>tS (jH s) (jH s) hp
theorem aWO (s:ByteArray):GdQ s (qqQ s):=fun p hp=>tS (aC9 s) (aC9 s) hp
end Go.Proofs.YtlabadaccldkaaaGreat
