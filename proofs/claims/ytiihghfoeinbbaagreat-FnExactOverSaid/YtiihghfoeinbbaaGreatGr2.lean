/- Gr2: lemmas. No conditions. -/
import Derived.Test.YtiihghfoeinbbaaGreatFix2
namespace Go.Proofs.YtiihghfoeinbbaaGreat
noncomputable section
set_option maxRecDepth 100000
open Go.ChangeShapes Go.WideShapes Go.ChangeAt Go.RowKit Go.Deep
set_option linter.unusedVariables false
set_option linter.unusedSimpArgs false
def qJ (a b:List Int):List Int:=List.zipWith (fun x y=>(dI x y).1) a b
def aQI (a b:List Int):Bool:=(a.zip b).any fun p=>(dI p.1 p.2).2
def dZ (a b:List (List Int)):List (List Int):=List.zipWith qJ a b
def aLA (a b:List (List Int)):Bool:=(a.zip b).any fun p=>aQI p.1 p.2
def iA (a b:eY):eY:=(dZ a.1 b.1,((dI a.2.1 b.2.1).1,a.2.2 || b.2.2 || aLA a.1 b.1 || (dI a.2.1 b.2.1).2))
theorem bL9 {α β γ:Type} (f:α→β→γ) (a:List α) (b:List β):(List.zipWith f a b).length=min a.length b.length:=List.length_zipWith
theorem bBJ {α β γ:Type} (f:α→β→γ) (a:List α) (b:List β) {k:Nat} (h1:k<a.length) (h2:k<b.length):(List.zipWith f a b).take k++[f a[k] b[k]]=(List.zipWith f a b).take (k+1):=by
 have h:k<(List.zipWith f a b).length:=by rw[bL9];omega
 rw[List.take_succ_eq_append_getElem h,List.getElem_zipWith]
theorem bBF {α β:Type} (F:α × β→Bool) (a:List α) (b:List β) {k:Nat} (h1:k<a.length) (h2:k<b.length):((a.zip b).take (k+1)).any F=(((a.zip b).take k).any F || F (a[k],b[k])):=by
 have h:k<(a.zip b).length:=by rw[List.length_zip];omega
 rw[List.take_succ_eq_append_getElem h,List.any_append]
 simp
theorem bFT {α β:Type} (a:List α) (b:List β) {k:Nat} (h:min a.length b.length≤k):(a.zip b).take k=a.zip b:=List.take_of_length_le (by rw[List.length_zip];exact h)
def jQ (g:eY):Prop:=g.1.length≤1000000000∧∀ r∈g.1,r.length≤1000000000
theorem qY {α:Type} {l:List α} {k:Nat} (h:l.length≤k):l.take k=l:=List.take_of_length_le h
theorem jU (a b:List (List Int)):(dZ a b).length=min a.length b.length:=List.length_zipWith
theorem sY (a b:List Int):(qJ a b).length=min a.length b.length:=List.length_zipWith
theorem aGW (a b:List Int) {k:Nat} (h1:k<a.length) (h2:k<b.length):(qJ a b).take k++[(dI a[k] b[k]).1]=(qJ a b).take (k+1):=bBJ _ a b h1 h2
theorem qT (a b:List (List Int)) {k:Nat} (h1:k<a.length) (h2:k<b.length):(dZ a b).take k++[qJ a[k] b[k]]=(dZ a b).take (k+1):=bBJ _ a b h1 h2
def tV (a b:List Int) (k:Nat):Bool:=((a.zip b).take k).any fun p=>(dI p.1 p.2).2
def lV (a b:List (List Int)) (k:Nat):Bool:=((a.zip b).take k).any fun p=>aQI p.1 p.2
theorem aKB (a b:List Int) {k:Nat} (h1:k<a.length) (h2:k<b.length):tV a b (k+1)=(tV a b k || (dI a[k] b[k]).2):=bBF _ a b h1 h2
theorem aLB (a b:List (List Int)) {k:Nat} (h1:k<a.length) (h2:k<b.length):lV a b (k+1)=(lV a b k || aQI a[k] b[k]):=bBF _ a b h1 h2
theorem aN5 (a b:List Int) {k:Nat} (h:min a.length b.length≤k):tV a b k=aQI a b:=by unfold tV aQI;rw[bFT a b h]
theorem aNR (a b:List (List Int)) {k:Nat} (h:min a.length b.length≤k):lV a b k=aLA a b:=by unfold lV aLA;rw[bFT a b h]
def mG:Con:=⟨258,aU,aU,[.val ⟨true,aU,[]⟩],[⟨true,aU,[2,0,0]⟩],false,none,
 ((fun x=>jQ x):(eY)→Prop),
 ((fun x=>x):(eY)→(eY))⟩
def uV:T:=.call 0 (.p1 aH (.bMC tI .bool) (.Z 0)) <|.ret (.bME aH (.bMC tI .bool) (.Z 1) (aQ aU 1 (.Z 0)))
theorem aM0:bL Tryz.prog [eW] mG false 3000 ⟨[],[]⟩ = .ok uV:=by kernel_rfl
theorem aMM (x:eY) (hx:okD aU x) (hp:(fun x=>jQ x) x):uV.wp [eW] [⟨aU,x⟩] [] (fun v=>v.as aU=(fun x=>x) x):=by
 have hp:jQ x:=hp
 delta uV eW;refine dD ?_
 exact ⟨hp,fun _=>by first|rfl|trivial⟩
theorem aMI:Con.Holds Tryz.prog mG:=aR aW (aG xM aS) aM0 aMM
def nP:Con:=⟨125,(.bMC aU aU),aU,[.val ⟨true,aU,[]⟩,.val ⟨true,aU,[]⟩],[⟨true,aU,[2,0,0]⟩],false,none,
 ((fun x=>jQ x.1∧jQ x.2):(eY × eY)→Prop),
 ((fun x=>iA x.1 x.2):(eY × eY)→(eY))⟩
def xS:T:=.ite (aQ aU 2 (.p1 aU aU (.Z 0))) (.loop aD (.bME tI aH (.ci .i64 0) (.nl 156 aB)) <|
  .bMD (.bMG 156 aB) (.p1 aH (.bMC tI .bool) (.p1 aU aU (.Z 0))) <|
  .bMD (.cmp .lss .i64) (.bME tI tI (.p1 tI aH (.Z 1)) (.Z 2)) <|
  .ite (.Z 3) (
   .bMD (.bMG 156 aB) (aJ (.bMC aU aU) 1 (.Z 0)) <|
   .bMD (.cmp .lss .i64) (.bME tI tI (.p1 tI aH (.Z 1)) (.Z 4)) <|
   .ite (.Z 5) (
    .loop aF (.bME tI aB (.ci .i64 0) (.nl 3 tI)) <|
     .bMD (.bMH 156 aB) (.bME aH tI (.p1 aH (.bMC tI .bool) (.p1 aU aU (.Z 0))) (.p1 tI aH (.Z 1))) <|
     .bMD (.bMG 3 tI) (.Z 7) <|
     .bMD (.cmp .lss .i64) (.bME tI tI (.p1 tI aB (.Z 6)) (.Z 8)) <|
     .ite (.Z 9) (
      .bMD (.bMH 156 aB) (.bME aH tI (aJ (.bMC aU aU) 1 (.Z 0)) (.p1 tI aH (.Z 1))) <|
      .bMD (.bMG 3 tI) (.Z 10) <|
      .bMD (.cmp .lss .i64) (.bME tI tI (.p1 tI aB (.Z 6)) (.Z 11)) <|
      .ite (.Z 12) (
       .bMD (.bMH 156 aB) (.bME aH tI (.p1 aH (.bMC tI .bool) (.p1 aU aU (.Z 0))) (.p1 tI aH (.Z 1))) <|
       .bMD (.bMH 3 tI) (.bME aB tI (.Z 13) (.p1 tI aB (.Z 6))) <|
       .bMD (.bMH 156 aB) (.bME aH tI (aJ (.bMC aU aU) 1 (.Z 0)) (.p1 tI aH (.Z 1))) <|
       .bMD (.bMH 3 tI) (.bME aB tI (.Z 15) (.p1 tI aB (.Z 6))) <|
       .call 0 (.bME tI tI (.Z 14) (.Z 16)) <|
       .bMD (.lit 3 tI 1) (.p1 tI .bool (.Z 17)) <|
       .bMD (.bMJ 3 tI 8) (.bME aB aB (aQ aF 1 (.Z 6)) (.Z 18)) <|
       .bMD (.ar .add .i64) (.bME tI tI (.p1 tI aB (.Z 6)) (.ci .i64 1)) <|
       .bMF 0 (.bME tI aB (.Z 20) (.Z 19))) (
       .bMD (.lit 156 aB 1) (aQ aF 1 (.Z 6)) <|
       .bMD (.bMJ 156 aB 24) (.bME aH aH (aQ aD 1 (.Z 1)) (.Z 13)) <|
       .bMD (.ar .add .i64) (.bME tI tI (.p1 tI aH (.Z 1)) (.ci .i64 1)) <|
       .bMF 1 (.bME tI aH (.Z 15) (.Z 14)))) (
      .bMD (.lit 156 aB 1) (aQ aF 1 (.Z 6)) <|
      .bMD (.bMJ 156 aB 24) (.bME aH aH (aQ aD 1 (.Z 1)) (.Z 10)) <|
      .bMD (.ar .add .i64) (.bME tI tI (.p1 tI aH (.Z 1)) (.ci .i64 1)) <|
      .bMF 1 (.bME tI aH (.Z 12) (.Z 11)))) (
    .call 0 (.bME tI tI (aJ aU 1 (.p1 aU aU (.Z 0))) (aJ (.bMC aU aU) 2 (.Z 0))) <|
    .ret (bE aU [(aQ aD 1 (.Z 1)),(.p1 tI .bool (.Z 6)),(.cb true)]))) (
   .call 0 (.bME tI tI (aJ aU 1 (.p1 aU aU (.Z 0))) (aJ (.bMC aU aU) 2 (.Z 0))) <|
   .ret (bE aU [(aQ aD 1 (.Z 1)),(.p1 tI .bool (.Z 4)),(.cb true)]))) (
 .loop (.bMC tI (.bMC aH .bool)) (bE (.bMC tI (.bMC aH .bool)) [(.ci .i64 0),(.nl 156 aB),(aQ (.bMC aU aU) 3 (.Z 0))]) <|
  .bMD (.bMG 156 aB) (.p1 aH (.bMC tI .bool) (.p1 aU aU (.Z 0))) <|
  .bMD (.cmp .lss .i64) (.bME tI tI (.p1 tI (.bMC aH .bool) (.Z 1)) (.Z 2)) <|
  .ite (.Z 3) (
   .bMD (.bMG 156 aB) (aJ (.bMC aU aU) 1 (.Z 0)) <|
   .bMD (.cmp .lss .i64) (.bME tI tI (.p1 tI (.bMC aH .bool) (.Z 1)) (.Z 4)) <|
   .ite (.Z 5) (
    .loop (.bMC tI (.bMC aB .bool)) (bE (.bMC tI (.bMC aB .bool)) [(.ci .i64 0),(.nl 3 tI),(aQ (.bMC tI (.bMC aH .bool)) 2 (.Z 1))]) <|
     .bMD (.bMH 156 aB) (.bME aH tI (.p1 aH (.bMC tI .bool) (.p1 aU aU (.Z 0))) (.p1 tI (.bMC aH .bool) (.Z 1))) <|
     .bMD (.bMG 3 tI) (.Z 7) <|
     .bMD (.cmp .lss .i64) (.bME tI tI (.p1 tI (.bMC aB .bool) (.Z 6)) (.Z 8)) <|
     .ite (.Z 9) (
      .bMD (.bMH 156 aB) (.bME aH tI (aJ (.bMC aU aU) 1 (.Z 0)) (.p1 tI (.bMC aH .bool) (.Z 1))) <|
      .bMD (.bMG 3 tI) (.Z 10) <|
      .bMD (.cmp .lss .i64) (.bME tI tI (.p1 tI (.bMC aB .bool) (.Z 6)) (.Z 11)) <|
      .ite (.Z 12) (
       .bMD (.bMH 156 aB) (.bME aH tI (.p1 aH (.bMC tI .bool) (.p1 aU aU (.Z 0))) (.p1 tI (.bMC aH .bool) (.Z 1))) <|
       .bMD (.bMH 3 tI) (.bME aB tI (.Z 13) (.p1 tI (.bMC aB .bool) (.Z 6))) <|
       .bMD (.bMH 156 aB) (.bME aH tI (aJ (.bMC aU aU) 1 (.Z 0)) (.p1 tI (.bMC aH .bool) (.Z 1))) <|
       .bMD (.bMH 3 tI) (.bME aB tI (.Z 15) (.p1 tI (.bMC aB .bool) (.Z 6))) <|
       .call 0 (.bME tI tI (.Z 14) (.Z 16)) <|
       .bMD (.lit 3 tI 1) (.p1 tI .bool (.Z 17)) <|
       .bMD (.bMJ 3 tI 8) (.bME aB aB (aJ (.bMC tI (.bMC aB .bool)) 1 (.Z 6)) (.Z 18)) <|
       .ite (aQ (.bMC tI (.bMC aB .bool)) 2 (.Z 6)) (
        .bMD (.ar .add .i64) (.bME tI tI (.p1 tI (.bMC aB .bool) (.Z 6)) (.ci .i64 1)) <|
        .bMF 0 (bE (.bMC tI (.bMC aB .bool)) [(.Z 20),(.Z 19),(.cb true)])) (
        .bMD (.ar .add .i64) (.bME tI tI (.p1 tI (.bMC aB .bool) (.Z 6)) (.ci .i64 1)) <|
        .bMF 0 (bE (.bMC tI (.bMC aB .bool)) [(.Z 20),(.Z 19),(aQ (.bMC tI .bool) 1 (.Z 17))]))) (
       .bMD (.lit 156 aB 1) (aJ (.bMC tI (.bMC aB .bool)) 1 (.Z 6)) <|
       .bMD (.bMJ 156 aB 24) (.bME aH aH (aJ (.bMC tI (.bMC aH .bool)) 1 (.Z 1)) (.Z 13)) <|
       .bMD (.ar .add .i64) (.bME tI tI (.p1 tI (.bMC aH .bool) (.Z 1)) (.ci .i64 1)) <|
       .bMF 1 (bE (.bMC tI (.bMC aH .bool)) [(.Z 15),(.Z 14),(aQ (.bMC tI (.bMC aB .bool)) 2 (.Z 6))]))) (
      .bMD (.lit 156 aB 1) (aJ (.bMC tI (.bMC aB .bool)) 1 (.Z 6)) <|
      .bMD (.bMJ 156 aB 24) (.bME aH aH (aJ (.bMC tI (.bMC aH .bool)) 1 (.Z 1)) (.Z 10)) <|
      .bMD (.ar .add .i64) (.bME tI tI (.p1 tI (.bMC aH .bool) (.Z 1)) (.ci .i64 1)) <|
      .bMF 1 (bE (.bMC tI (.bMC aH .bool)) [(.Z 12),(.Z 11),(aQ (.bMC tI (.bMC aB .bool)) 2 (.Z 6))]))) (
    .call 0 (.bME tI tI (aJ aU 1 (.p1 aU aU (.Z 0))) (aJ (.bMC aU aU) 2 (.Z 0))) <|
    .ite (aQ (.bMC tI (.bMC aH .bool)) 2 (.Z 1)) (
     .ret (bE aU [(aJ (.bMC tI (.bMC aH .bool)) 1 (.Z 1)),(.p1 tI .bool (.Z 6)),(.cb true)])) (
     .ret (.bME aH (.bMC tI .bool) (aJ (.bMC tI (.bMC aH .bool)) 1 (.Z 1)) (.Z 6))))) (
   .call 0 (.bME tI tI (aJ aU 1 (.p1 aU aU (.Z 0))) (aJ (.bMC aU aU) 2 (.Z 0))) <|
   .ite (aQ (.bMC tI (.bMC aH .bool)) 2 (.Z 1)) (
    .ret (bE aU [(aJ (.bMC tI (.bMC aH .bool)) 1 (.Z 1)),(.p1 tI .bool (.Z 4)),(.cb true)])) (
    .ret (.bME aH (.bMC tI .bool) (aJ (.bMC tI (.bMC aH .bool)) 1 (.Z 1)) (.Z 4)))))
theorem aQW:bL Tryz.prog [fB] nP false 3000 ⟨[(2991,3001,iQ 19 13++[.dr 0,.dr 1,.tm 6 0,.sl 7]),(2977,15006,[.tm 8 0,.sl 10]),(2991,2001,iQ 19 13++[.dr 0,.dr 1,.tm 6 0,.sl 7,.bx 5 2]),(2977,14006,[.tm 8 0,.sl 10,.bx 5 2])],[(2971,47013,[],[10]),(2971,23010,[],[10]),(2971,46013,[],[10]),(2971,22010,[],[10])]⟩ = .ok xS:=by kernel_rfl
theorem aOX (x:eY × eY) (hx:okD (.bMC aU aU) x) (hp:(fun x=>jQ x.1∧jQ x.2) x):xS.wp [fB] [⟨(.bMC aU aU),x⟩] [] (fun v=>v.as aU=(fun x=>iA x.1 x.2) x):=by
 obtain ⟨⟨a,la,sa⟩,⟨b,lb,sb⟩⟩:=x
 obtain ⟨⟨ha,ha'⟩,⟨hb,hb'⟩⟩:jQ (a,la,sa)∧jQ (b,lb,sb):=hp
 dsimp only at ha ha' hb hb'
 delta xS fB;refine dD ?_
 constructor
 ·intro hsat
  refine ⟨fun s=>∃ k:Nat,k≤a.length∧k≤b.length∧s=((k:Int),(dZ a b).take k),fun s=>a.length - (s.1:Int).toNat,⟨0,by omega,by omega,by simp⟩,fun s _ hI=>?_⟩
  obtain ⟨k,hk1,hk2,rfl⟩:=hI
  dsimp only
  refine eE ?_
  have fin:a.length≤k∨b.length≤k→∀ r:Int × Bool,r=dI la lb→((dZ a b).take k,(r.1,true))=iA (a,la,sa) (b,lb,sb):=fun h r hr=>by
   rw[hr,qY (by rw[jU];omega)]
   unfold iA
   dsimp only at hsat ⊢
   rw[hsat]
   simp
  (repeat' first|intro _|(with_reducible apply And.intro))
  rotate_left
  ·exact fin (by omega) _ rfl
  ·exact fin (by omega) _ rfl
  have h1:k<a.length:=by omega
  have h2:k<b.length:=by omega
  simp only[aZ h1,aZ h2]
  have mA:=ha' _ (List.getElem_mem h1)
  have mB:=hb' _ (List.getElem_mem h2)
  have e0:=qT a b h1 h2
  generalize a[k]=A at *
  generalize b[k]=B at *
  refine ⟨fun s=>∃ j:Nat,j≤A.length∧j≤B.length∧s=((j:Int),(qJ A B).take j),fun s=>A.length - (s.1:Int).toNat,⟨0,by omega,by omega,by simp⟩,fun s _ hI=>?_⟩
  obtain ⟨j,hj1,hj2,rfl⟩:=hI
  dsimp only
  refine eE ?_
  have hl:List.length ((qJ A B).take j)=j:=by rw[List.length_take,sY];omega
  have hl2:List.length ((dZ a b).take k)=k:=by rw[List.length_take,jU];omega
  have out:A.length≤j∨B.length≤j→(dZ a b).take k++[(qJ A B).take j]=(dZ a b).take (k+1):=fun h=>by
   rw[qY (l:=qJ A B) (by rw[sY];omega)];exact e0
  (repeat' first|intro _|(with_reducible apply And.intro))
  all_goals first|omega|(unfold maxLen;omega)|(exact ⟨j+1,by omega,by omega,by rw[aZ (show j<A.length by omega),aZ (show j<B.length by omega),aGW A B (by omega) (by omega)];rfl⟩)|(exact ⟨k+1,by omega,by omega,by rw[out (by omega)];rfl⟩)
 ·intro hsat
  refine ⟨fun s=>∃ k:Nat,k≤a.length∧k≤b.length∧s=((k:Int),(dZ a b).take k,sb || lV a b k),fun s=>a.length - (s.1:Int).toNat,⟨0,by omega,by omega,by simp[lV]⟩,fun s _ hI=>?_⟩
  obtain ⟨k,hk1,hk2,rfl⟩:=hI
  dsimp only
  refine eE ?_
  have fin:a.length≤k∨b.length≤k→∀ r:Int × Bool,r=dI la lb→((dZ a b).take k,(r.1,(sb || lV a b k) || r.2))=iA (a,la,sa) (b,lb,sb):=fun h r hr=>by
   rw[hr,qY (by rw[jU];omega),aNR a b (by omega)]
   unfold iA
   dsimp only at hsat ⊢
   rw[hsat]
   simp
  (repeat' first|intro _|(with_reducible apply And.intro))
  rotate_left
  ·rw[show (sb || lV a b k)=true by assumption] at fin;exact fin (by omega) _ rfl
  ·rw[show (sb || lV a b k)=false by assumption] at fin;exact fin (by omega) _ rfl
  ·rw[show (sb || lV a b k)=true by assumption] at fin;exact fin (by omega) _ rfl
  ·rw[show (sb || lV a b k)=false by assumption] at fin;exact fin (by omega) _ rfl
  have h1:k<a.length:=by omega
  have h2:k<b.length:=by omega
  simp only[aZ h1,aZ h2]
  have mA:=ha' _ (List.getElem_mem h1)
  have mB:=hb' _ (List.getElem_mem h2)
  have e0:=qT a b h1 h2
  have e1:(sb || lV a b (k+1))=((sb || lV a b k) || aQI a[k] b[k]):=by rw[aLB a b h1 h2,Bool.or_assoc]
  clear fin
  generalize (sb || lV a b k)=f0 at *
  generalize a[k]=A at *
  generalize b[k]=B at *
  refine ⟨fun s=>∃ j:Nat,j≤A.length∧j≤B.length∧s=((j:Int),(qJ A B).take j,f0 || tV A B j),fun s=>A.length - (s.1:Int).toNat,⟨0,by omega,by omega,by simp[tV]⟩,fun s _ hI=>?_⟩
  obtain ⟨j,hj1,hj2,rfl⟩:=hI
  dsimp only
  refine eE ?_
  have hl:List.length ((qJ A B).take j)=j:=by rw[List.length_take,sY];omega
  have hl2:List.length ((dZ a b).take k)=k:=by rw[List.length_take,jU];omega
  have out:A.length≤j∨B.length≤j→((dZ a b).take k++[(qJ A B).take j],f0 || tV A B j)=((dZ a b).take (k+1),sb || lV a b (k+1)):=fun h=>by
   rw[qY (l:=qJ A B) (by rw[sY];omega),e0,e1,aN5 A B (by omega)]
  (repeat' first|intro _|(with_reducible apply And.intro))
  all_goals first|omega|(unfold maxLen;omega)|skip
  all_goals first|(exact ⟨k+1,by omega,by omega,by rw[← out (by omega)];rfl⟩)|(refine ⟨j+1,by omega,by omega,?_⟩)
  all_goals rw[aZ (show j<A.length by omega),aZ (show j<B.length by omega),aGW A B (by omega) (by omega),aKB A B (by omega) (by omega),← Bool.or_assoc]
  ·rw[show (f0 || tV A B j)=true by assumption];rfl
  ·rw[show (f0 || tV A B j)=false by assumption];rfl
theorem aPW:Con.Holds Tryz.prog nP:=aR aW (aG xR aS) aQW aOX
def gH:Con:=⟨204,tI,(.bMC tI .bool),[.val ⟨false,tI,[]⟩],[⟨false,tI,[0]⟩,⟨false,.bool,[0]⟩],false,none,
 ((fun _=>True):(Int)→Prop),
 ((fun x=>aLE x):(Int)→(Int × Bool))⟩
def aGC:T :=
 .bMD (.cmp .gtr .i64) (.bME tI tI (.Z 0) (.ci .i64 2147483647)) <|
 .ite (.Z 1) (
  .ret (.bME tI .bool (.ci .i64 2147483647) (.cb true))) (
  .bMD (.cmp .lss .i64) (.bME tI tI (.Z 0) (.ci .i64 (-2147483647))) <|
  .ite (.Z 2) (
   .ret (.bME tI .bool (.ci .i64 (-2147483647)) (.cb true))) (
   .ret (.bME tI .bool (.Z 0) (.cb false))))
theorem bDG:bL Tryz.prog [] gH false 3000 ⟨[],[]⟩ = .ok aGC:=by kernel_rfl
theorem bCV (x:Int) (hx:okD tI x) (hp:(fun _=>True) x):aGC.wp [] [⟨tI,x⟩] [] (fun v=>v.as (.bMC tI .bool)=(fun x=>aLE x) x):=by
 delta aGC;refine dD ?_
 unfold aLE eI
 refine eE ?_
 refine ⟨fun h=>?_,fun h=>⟨fun h2=>?_,fun h2=>?_⟩⟩
 ·have:min (max x (-2147483647)) 2147483647=2147483647:=by omega
  rw[this];simp;omega
 ·have:min (max x (-2147483647)) 2147483647 = -2147483647:=by omega
  rw[this];simp;omega
 ·have:min (max x (-2147483647)) 2147483647=x:=by omega
  rw[this];simp
theorem aC6:Con.Holds Tryz.prog gH:=aR aW aS bDG bCV
def iX:Con:=⟨206,tI,tI,[.val ⟨false,tI,[]⟩],[⟨false,tI,[0]⟩],false,none,
 ((fun _=>True):(Int)→Prop),
 ((fun x=>eI x):(Int)→(Int))⟩
def aJQ:T:=.call 0 (.Z 0) <|.ret (.p1 tI .bool (.Z 1))
theorem bEU:bL Tryz.prog [gH] iX false 3000 ⟨[],[]⟩ = .ok aJQ:=by kernel_rfl
theorem bG9 (x:Int) (hx:okD tI x) (hp:(fun _=>True) x):aJQ.wp [gH] [⟨tI,x⟩] [] (fun v=>v.as tI=(fun x=>eI x) x):=by
 delta aJQ gH;refine dD ?_
 exact fun _=>rfl
theorem aET:Con.Holds Tryz.prog iX:=aR aW (aG aC6 aS) bEU bG9
def dO:Con:=⟨199,aO,(.bMC tI .bool),[.val ⟨false,tI,[]⟩,.val ⟨false,tI,[]⟩],[⟨false,tI,[0]⟩,⟨false,.bool,[0]⟩],false,none,
 ((fun _=>True):(Int × Int)→Prop),
 ((fun x=>dI x.1 x.2):(Int × Int)→(Int × Bool))⟩
def aDC:T:=.call 0 (.p1 tI tI (.Z 0)) <|.call 0 (aQ aO 1 (.Z 0)) <|
 .bMD (.ar .add .i64) (.bME tI tI (.Z 1) (.Z 2)) <|
 .call 1 (.Z 3) <|
 .ret (.Z 4)
theorem aWL:bL Tryz.prog [iX,gH] dO false 3000 ⟨[],[]⟩ = .ok aDC:=by kernel_rfl
theorem aX9 (x:Int × Int) (hx:okD aO x) (hp:(fun _=>True) x):aDC.wp [iX,gH] [⟨aO,x⟩] [] (fun v=>v.as (.bMC tI .bool)=(fun x=>dI x.1 x.2) x):=by
 delta aDC iX gH;refine dD ?_
 intro _ _
 have h1:=kD x.1
 have h2:=kD x.2
 exact ⟨by omega,fun _ _=>rfl⟩
theorem rH:Con.Holds Tryz.prog dO:=aR aW (aG aET (aG aC6 aS)) aWL aX9
def pX:Con:=⟨252,aH,aH,[.val ⟨false,aH,[]⟩],[⟨false,aH,[2]⟩],false,none,
 ((fun x=>List.length x≤1000000000∧∀ y∈x,List.length y≤1000000000):(cV)→Prop),
 ((fun x=>x):(cV)→(cV))⟩
def aAO:T:=.loop aD (.bME tI aH (.ci .i64 0) (.nl 156 aB)) <|
 .bMD (.bMG 156 aB) (.Z 0) <|
 .bMD (.cmp .lss .i64) (.bME tI tI (.p1 tI aH (.Z 1)) (.Z 2)) <|
 .ite (.Z 3) (
  .bMD (.bMH 156 aB) (.bME aH tI (.Z 0) (.p1 tI aH (.Z 1))) <|
  .bMD (.bMJ 3 tI 8) (.bME aB aB (.nl 3 tI) (.Z 4)) <|
  .bMD (.lit 156 aB 1) (.Z 5) <|
  .bMD (.bMJ 156 aB 24) (.bME aH aH (aQ aD 1 (.Z 1)) (.Z 6)) <|
  .bMD (.ar .add .i64) (.bME tI tI (.p1 tI aH (.Z 1)) (.ci .i64 1)) <|
  .bMF 0 (.bME tI aH (.Z 8) (.Z 7))) (
  .ret (aQ aD 1 (.Z 1)))
theorem aTU:bL Tryz.prog [] pX false 3000 ⟨[(2991,1001,[.dr 5,.tm 4 0,.on 3,.sl 1])],[(2983,3004,[19],[])]⟩ = .ok aAO:=by kernel_rfl
theorem aS4 (x:cV) (hx:okD aH x) (hp:(fun x=>List.length x≤1000000000∧∀ y∈x,List.length y≤1000000000) x):aAO.wp [] [⟨aH,x⟩] [] (fun v=>v.as aH=(fun x=>x) x):=by
 obtain ⟨hp1,hp2⟩:List.length x≤1000000000∧∀ y∈x,List.length y≤1000000000:=hp
 delta aAO;refine dD ?_
 refine ⟨fun s=>∃ k:Nat,k≤x.length∧s=((k:Int),x.take k),fun s=>x.length - (s.1:Int).toNat,⟨0,Nat.zero_le _,by simp⟩,fun s hs hI=>?_⟩
 obtain ⟨k,hk,rfl⟩:=hI
 dsimp only
 refine eE ?_
 intro _
 constructor
 ·intro hlt
  have hk':k<x.length:=by omega
  rw[aZ hk']
  have hm:=hp2 _ (List.getElem_mem hk')
  have hl:(x.take k).length=k:=List.length_take_of_le hk
  (repeat' first|intro _|(with_reducible apply And.intro))
  all_goals first|omega|(unfold maxLen;omega)|(exact ⟨k+1,by omega,by rw[iU hk'];rfl⟩)
 ·intro hge
  have:k=x.length:=by omega
  subst this
  show x.take x.length=x
  simp
theorem aTZ:Con.Holds Tryz.prog pX:=aR aW aS aTU aS4
def wI:Con:=⟨198,aI,(.bMC aB .bool),[.val ⟨false,aB,[]⟩,.val ⟨false,aB,[]⟩],[⟨false,aB,[2]⟩,⟨false,.bool,[0]⟩],false,none,
 ((fun x=>List.length x.1≤1000000000∧List.length x.2≤1000000000):(bW)→Prop),
 ((fun x=>(qJ x.1 x.2,aQI x.1 x.2)):(bW)→(cD × Bool))⟩
def aG4:T:=.loop (.bMC tI (.bMC .bool aB)) (bE (.bMC tI (.bMC .bool aB)) [(.ci .i64 0),(.cb false),(.nl 3 tI)]) <|
 .bMD (.bMG 3 tI) (.p1 aB aB (.Z 0)) <|
 .bMD (.cmp .lss .i64) (.bME tI tI (.p1 tI (.bMC .bool aB) (.Z 1)) (.Z 2)) <|
 .ite (.Z 3) (
  .bMD (.bMG 3 tI) (aQ aI 1 (.Z 0)) <|
  .bMD (.cmp .lss .i64) (.bME tI tI (.p1 tI (.bMC .bool aB) (.Z 1)) (.Z 4)) <|
  .ite (.Z 5) (
   .bMD (.bMH 3 tI) (.bME aB tI (.p1 aB aB (.Z 0)) (.p1 tI (.bMC .bool aB) (.Z 1))) <|
   .bMD (.bMH 3 tI) (.bME aB tI (aQ aI 1 (.Z 0)) (.p1 tI (.bMC .bool aB) (.Z 1))) <|
   .call 0 (.bME tI tI (.Z 6) (.Z 7)) <|
   .bMD (.lit 3 tI 1) (.p1 tI .bool (.Z 8)) <|
   .bMD (.bMJ 3 tI 8) (.bME aB aB (aQ (.bMC tI (.bMC .bool aB)) 2 (.Z 1)) (.Z 9)) <|
   .ite (aJ (.bMC tI (.bMC .bool aB)) 1 (.Z 1)) (
    .bMD (.ar .add .i64) (.bME tI tI (.p1 tI (.bMC .bool aB) (.Z 1)) (.ci .i64 1)) <|
    .bMF 0 (bE (.bMC tI (.bMC .bool aB)) [(.Z 11),(.cb true),(.Z 10)])) (
    .bMD (.ar .add .i64) (.bME tI tI (.p1 tI (.bMC .bool aB) (.Z 1)) (.ci .i64 1)) <|
    .bMF 0 (bE (.bMC tI (.bMC .bool aB)) [(.Z 11),(aQ (.bMC tI .bool) 1 (.Z 8)),(.Z 10)]))) (
   .ret (.bME aB .bool (aQ (.bMC tI (.bMC .bool aB)) 2 (.Z 1)) (aJ (.bMC tI (.bMC .bool aB)) 1 (.Z 1))))) (
  .ret (.bME aB .bool (aQ (.bMC tI (.bMC .bool aB)) 2 (.Z 1)) (aJ (.bMC tI (.bMC .bool aB)) 1 (.Z 1))))
theorem bCO:bL Tryz.prog [dO] wI false 3000 ⟨[(2989,1001,[.dr 11,.tm 8 0,.tm 7 0,.on 6,.sl 1])],[]⟩ = .ok aG4:=by kernel_rfl
theorem bCQ (x:bW) (hx:okD aI x) (hp:(fun x=>List.length x.1≤1000000000∧List.length x.2≤1000000000) x):aG4.wp [dO] [⟨aI,x⟩] [] (fun v=>v.as (.bMC aB .bool)=(fun x=>(qJ x.1 x.2,aQI x.1 x.2)) x):=by
 obtain ⟨A,B⟩:=x
 obtain ⟨mA,mB⟩:List.length A≤1000000000∧List.length B≤1000000000:=hp
 delta aG4 dO;refine dD ?_
 refine ⟨fun s=>∃ j:Nat,j≤A.length∧j≤B.length∧s=((j:Int),tV A B j,(qJ A B).take j),fun s=>A.length - (s.1:Int).toNat,⟨0,by omega,by omega,by simp[tV]⟩,fun s _ hI=>?_⟩
 obtain ⟨j,hj1,hj2,rfl⟩:=hI
 dsimp only
 refine eE ?_
 have hl:List.length ((qJ A B).take j)=j:=by rw[List.length_take,sY];omega
 have out:A.length≤j∨B.length≤j→((qJ A B).take j,tV A B j)=(qJ A B,aQI A B):=fun h=>by
  rw[qY (l:=qJ A B) (by rw[sY];omega),aN5 A B (by omega)]
 (repeat' first|intro _|(with_reducible apply And.intro))
 all_goals first|omega|(unfold maxLen;omega)|(exact out (by omega))|(refine ⟨j+1,by omega,by omega,?_⟩)
 all_goals rw[aZ (show j<A.length by omega),aZ (show j<B.length by omega),aGW A B (by omega) (by omega),aKB A B (by omega) (by omega)]
 ·rw[show tV A B j=true by assumption];rfl
 ·rw[show tV A B j=false by assumption];rfl
theorem bDV:Con.Holds Tryz.prog wI:=aR aW (aG rH aS) bCO bCQ
def bH:Con:=⟨110,(.bMC tI aO),.bool,[.val ⟨false,tI,[]⟩,.val ⟨false,tI,[]⟩,.val ⟨false,tI,[]⟩],[⟨false,.bool,[0]⟩],false,none,
 ((fun _=>True):(Int × fI)→Prop),
 ((fun x=>decide (x.2.1≤x.1)&&decide (x.1≤x.2.2)):(Int × fI)→(Bool))⟩
def aJU:T :=
 .bMD (.cmp .geq .i64) (.bME tI tI (.p1 tI aO (.Z 0)) (aJ (.bMC tI aO) 1 (.Z 0))) <|
 .ite (.Z 1) (
  .bMD (.cmp .leq .i64) (.bME tI tI (.p1 tI aO (.Z 0)) (aQ (.bMC tI aO) 2 (.Z 0))) <|
  .ret (.Z 2)) (
  .ret (.cb false))
theorem bGP:bL Tryz.prog [] bH false 3000 ⟨[],[]⟩ = .ok aJU:=by kernel_rfl
theorem bHQ (x:Int × fI) (hx:okD (.bMC tI aO) x) (hp:(fun _=>True) x):aJU.wp [] [⟨(.bMC tI aO),x⟩] [] (fun v=>v.as .bool=(fun x=>decide (x.2.1≤x.1)&&decide (x.1≤x.2.2)) x):=by
 delta aJU;refine dD ?_
 refine eE ?_
 constructor
 ·intro h;simp[h]
 ·intro h
  have:¬ x.2.1≤x.1:=by omega
  simp[this]
theorem eS:Con.Holds Tryz.prog bH:=aR aW aS bGP bHQ
def nJ:Con:=⟨115,(.bMC aU aU),aU,[.val ⟨true,aU,[]⟩,.val ⟨true,aU,[]⟩],[⟨true,aU,[2,0,0]⟩],false,none,
 ((fun x=>jQ x.1∧jQ x.2):(eY × eY)→Prop),
 ((fun x=>iA x.1 x.2):(eY × eY)→(eY))⟩
def yV:T:=.ite (aQ aU 2 (.p1 aU aU (.Z 0))) (.loop aD (.bME tI aH (.ci .i64 0) (.nl 156 aB)) <|
  .bMD (.bMG 156 aB) (.p1 aH (.bMC tI .bool) (.p1 aU aU (.Z 0))) <|
  .bMD (.cmp .lss .i64) (.bME tI tI (.p1 tI aH (.Z 1)) (.Z 2)) <|
  .ite (.Z 3) (
   .bMD (.bMG 156 aB) (aJ (.bMC aU aU) 1 (.Z 0)) <|
   .bMD (.cmp .lss .i64) (.bME tI tI (.p1 tI aH (.Z 1)) (.Z 4)) <|
   .ite (.Z 5) (
    .bMD (.bMH 156 aB) (.bME aH tI (.p1 aH (.bMC tI .bool) (.p1 aU aU (.Z 0))) (.p1 tI aH (.Z 1))) <|
    .bMD (.bMH 156 aB) (.bME aH tI (aJ (.bMC aU aU) 1 (.Z 0)) (.p1 tI aH (.Z 1))) <|
    .call 0 (.bME aB aB (.Z 6) (.Z 7)) <|
    .bMD (.lit 156 aB 1) (.p1 aB .bool (.Z 8)) <|
    .bMD (.bMJ 156 aB 24) (.bME aH aH (aQ aD 1 (.Z 1)) (.Z 9)) <|
    .bMD (.ar .add .i64) (.bME tI tI (.p1 tI aH (.Z 1)) (.ci .i64 1)) <|
    .bMF 0 (.bME tI aH (.Z 11) (.Z 10))) (
    .call 1 (.bME tI tI (aJ aU 1 (.p1 aU aU (.Z 0))) (aJ (.bMC aU aU) 2 (.Z 0))) <|
    .ret (bE aU [(aQ aD 1 (.Z 1)),(.p1 tI .bool (.Z 6)),(.cb true)]))) (
   .call 1 (.bME tI tI (aJ aU 1 (.p1 aU aU (.Z 0))) (aJ (.bMC aU aU) 2 (.Z 0))) <|
   .ret (bE aU [(aQ aD 1 (.Z 1)),(.p1 tI .bool (.Z 4)),(.cb true)]))) (
 .loop (.bMC tI (.bMC aH .bool)) (bE (.bMC tI (.bMC aH .bool)) [(.ci .i64 0),(.nl 156 aB),(aQ (.bMC aU aU) 3 (.Z 0))]) <|
  .bMD (.bMG 156 aB) (.p1 aH (.bMC tI .bool) (.p1 aU aU (.Z 0))) <|
  .bMD (.cmp .lss .i64) (.bME tI tI (.p1 tI (.bMC aH .bool) (.Z 1)) (.Z 2)) <|
  .ite (.Z 3) (
   .bMD (.bMG 156 aB) (aJ (.bMC aU aU) 1 (.Z 0)) <|
   .bMD (.cmp .lss .i64) (.bME tI tI (.p1 tI (.bMC aH .bool) (.Z 1)) (.Z 4)) <|
   .ite (.Z 5) (
    .bMD (.bMH 156 aB) (.bME aH tI (.p1 aH (.bMC tI .bool) (.p1 aU aU (.Z 0))) (.p1 tI (.bMC aH .bool) (.Z 1))) <|
    .bMD (.bMH 156 aB) (.bME aH tI (aJ (.bMC aU aU) 1 (.Z 0)) (.p1 tI (.bMC aH .bool) (.Z 1))) <|
    .call 0 (.bME aB aB (.Z 6) (.Z 7)) <|
    .bMD (.lit 156 aB 1) (.p1 aB .bool (.Z 8)) <|
    .bMD (.bMJ 156 aB 24) (.bME aH aH (aJ (.bMC tI (.bMC aH .bool)) 1 (.Z 1)) (.Z 9)) <|
    .ite (aQ (.bMC tI (.bMC aH .bool)) 2 (.Z 1)) (
     .bMD (.ar .add .i64) (.bME tI tI (.p1 tI (.bMC aH .bool) (.Z 1)) (.ci .i64 1)) <|
     .bMF 0 (bE (.bMC tI (.bMC aH .bool)) [(.Z 11),(.Z 10),(.cb true)])) (
     .bMD (.ar .add .i64) (.bME tI tI (.p1 tI (.bMC aH .bool) (.Z 1)) (.ci .i64 1)) <|
     .bMF 0 (bE (.bMC tI (.bMC aH .bool)) [(.Z 11),(.Z 10),(aQ (.bMC aB .bool) 1 (.Z 8))]))) (
    .call 1 (.bME tI tI (aJ aU 1 (.p1 aU aU (.Z 0))) (aJ (.bMC aU aU) 2 (.Z 0))) <|
    .ite (aQ (.bMC tI (.bMC aH .bool)) 2 (.Z 1)) (
     .ret (bE aU [(aJ (.bMC tI (.bMC aH .bool)) 1 (.Z 1)),(.p1 tI .bool (.Z 6)),(.cb true)])) (
     .ret (.bME aH (.bMC tI .bool) (aJ (.bMC tI (.bMC aH .bool)) 1 (.Z 1)) (.Z 6))))) (
   .call 1 (.bME tI tI (aJ aU 1 (.p1 aU aU (.Z 0))) (aJ (.bMC aU aU) 2 (.Z 0))) <|
   .ite (aQ (.bMC tI (.bMC aH .bool)) 2 (.Z 1)) (
    .ret (bE aU [(aJ (.bMC tI (.bMC aH .bool)) 1 (.Z 1)),(.p1 tI .bool (.Z 4)),(.cb true)])) (
    .ret (.bME aH (.bMC tI .bool) (aJ (.bMC tI (.bMC aH .bool)) 1 (.Z 1)) (.Z 4)))))
theorem aQK:bL Tryz.prog [wI,dO] nJ false 3000 ⟨[(2991,3001,iQ 17 11++[.dr 0,.dr 1,.tm 6 0,.sl 7]),(2991,2001,iQ 17 11++[.dr 0,.dr 1,.tm 6 0,.sl 7,.bx 5 2])],[(2980,15009,[],[8]),(2980,14009,[],[8])]⟩ = .ok yV:=by kernel_rfl
theorem aPK (x:eY × eY) (hx:okD (.bMC aU aU) x) (hp:(fun x=>jQ x.1∧jQ x.2) x):yV.wp [wI,dO] [⟨(.bMC aU aU),x⟩] [] (fun v=>v.as aU=(fun x=>iA x.1 x.2) x):=by
 obtain ⟨⟨a,la,sa⟩,⟨b,lb,sb⟩⟩:=x
 obtain ⟨⟨ha,ha'⟩,⟨hb,hb'⟩⟩:jQ (a,la,sa)∧jQ (b,lb,sb):=hp
 dsimp only at ha ha' hb hb'
 delta yV wI dO;refine dD ?_
 constructor
 ·intro hsat
  refine ⟨fun s=>∃ k:Nat,k≤a.length∧k≤b.length∧s=((k:Int),(dZ a b).take k),fun s=>a.length - (s.1:Int).toNat,⟨0,by omega,by omega,by simp⟩,fun s _ hI=>?_⟩
  obtain ⟨k,hk1,hk2,rfl⟩:=hI
  dsimp only
  refine eE ?_
  have fin:a.length≤k∨b.length≤k→∀ r:Int × Bool,r=dI la lb→((dZ a b).take k,(r.1,true))=iA (a,la,sa) (b,lb,sb):=fun h r hr=>by
   rw[hr,qY (by rw[jU];omega)]
   unfold iA
   dsimp only at hsat ⊢
   rw[hsat]
   simp
  have hl2:List.length ((dZ a b).take k)=k:=by rw[List.length_take,jU];omega
  (repeat' first|intro _|(with_reducible apply And.intro))
  all_goals first|omega|(unfold maxLen;omega)|(exact fin (by omega) _ rfl)|skip
  all_goals have h1:k<a.length:=by omega
  all_goals have h2:k<b.length:=by omega
  all_goals simp only[aZ h1,aZ h2]
  all_goals first|(exact ha' _ (List.getElem_mem h1))|(exact hb' _ (List.getElem_mem h2))|(exact ⟨k+1,by omega,by omega,by rw[qT a b h1 h2];rfl⟩)
 ·intro hsat
  refine ⟨fun s=>∃ k:Nat,k≤a.length∧k≤b.length∧s=((k:Int),(dZ a b).take k,sb || lV a b k),fun s=>a.length - (s.1:Int).toNat,⟨0,by omega,by omega,by simp[lV]⟩,fun s _ hI=>?_⟩
  obtain ⟨k,hk1,hk2,rfl⟩:=hI
  dsimp only
  refine eE ?_
  have fin:a.length≤k∨b.length≤k→∀ r:Int × Bool,r=dI la lb→((dZ a b).take k,(r.1,(sb || lV a b k) || r.2))=iA (a,la,sa) (b,lb,sb):=fun h r hr=>by
   rw[hr,qY (by rw[jU];omega),aNR a b (by omega)]
   unfold iA
   dsimp only at hsat ⊢
   rw[hsat]
   simp
  have hl2:List.length ((dZ a b).take k)=k:=by rw[List.length_take,jU];omega
  (repeat' first|intro _|(with_reducible apply And.intro))
  all_goals first|omega|(unfold maxLen;omega)|skip
  all_goals first|(rw[show (sb || lV a b k)=true by assumption] at fin;exact fin (by omega) _ rfl)|(rw[show (sb || lV a b k)=false by assumption] at fin;exact fin (by omega) _ rfl)|skip
  all_goals have h1:k<a.length:=by omega
  all_goals have h2:k<b.length:=by omega
  all_goals simp only[aZ h1,aZ h2]
  all_goals first|(exact ha' _ (List.getElem_mem h1))|(exact hb' _ (List.getElem_mem h2))|(refine ⟨k+1,by omega,by omega,?_⟩)
  all_goals rw[qT a b h1 h2,aLB a b h1 h2,← Bool.or_assoc]
  ·rw[show (sb || lV a b k)=true by assumption];rfl
  ·rw[show (sb || lV a b k)=false by assumption];rfl
theorem aPO:Con.Holds Tryz.prog nJ:=aR aW (aG bDV (aG rH aS)) aQK aPK
end
end Go.Proofs.YtiihghfoeinbbaaGreat
