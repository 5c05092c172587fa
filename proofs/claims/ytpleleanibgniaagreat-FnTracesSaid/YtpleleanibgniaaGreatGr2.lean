/- Gr2: lemmas. No conditions. -/
import Derived.Test.YtpleleanibgniaaGreatFix2
namespace Go.Proofs.YtpleleanibgniaaGreat
set_option maxRecDepth 100000
open Go.ChangeShapes Go.WideShapes Go.ChangeAt Go.RowKit Go.Deep
set_option linter.unusedVariables false
set_option linter.unusedSimpArgs false
def vP (a b:List Int):List Int:=List.zipWith (fun x y=>(eI x y).1) a b
def aZI (a b:List Int):Bool:=(a.zip b).any fun p=>(eI p.1 p.2).2
def fB (a b:List (List Int)):List (List Int):=List.zipWith vP a b
def aIT (a b:List (List Int)):Bool:=(a.zip b).any fun p=>aZI p.1 p.2
def lI (a b:gK):gK:=(fB a.1 b.1,((eI a.2.1 b.2.1).1,a.2.2 || b.2.2 || aIT a.1 b.1 || (eI a.2.1 b.2.1).2))
theorem bH9 {α β γ:Type} (f:α→β→γ) (a:List α) (b:List β):(List.zipWith f a b).length=min a.length b.length:=List.length_zipWith
theorem aWI {α β γ:Type} (f:α→β→γ) (a:List α) (b:List β) {k:Nat} (h1:k<a.length) (h2:k<b.length):(List.zipWith f a b).take k++[f a[k] b[k]]=(List.zipWith f a b).take (k+1):=by
 have h:k<(List.zipWith f a b).length:=by rw[bH9];omega
 rw[List.take_succ_eq_append_getElem h,List.getElem_zipWith]
theorem aVP {α β:Type} (F:α × β→Bool) (a:List α) (b:List β) {k:Nat} (h1:k<a.length) (h2:k<b.length):((a.zip b).take (k+1)).any F=(((a.zip b).take k).any F || F (a[k],b[k])):=by
 have h:k<(a.zip b).length:=by rw[List.length_zip];omega
 rw[List.take_succ_eq_append_getElem h,List.any_append]
 simp
theorem aZV {α β:Type} (a:List α) (b:List β) {k:Nat} (h:min a.length b.length≤k):(a.zip b).take k=a.zip b:=List.take_of_length_le (by rw[List.length_zip];exact h)
def mD (g:gK):Prop:=g.1.length≤1000000000∧∀ r∈g.1,r.length≤1000000000
theorem aBY {α:Type} {l:List α} {k:Nat} (h:l.length≤k):l.take k=l:=List.take_of_length_le h
theorem qY (a b:List (List Int)):(fB a b).length=min a.length b.length:=List.length_zipWith
theorem wU (a b:List Int):(vP a b).length=min a.length b.length:=List.length_zipWith
theorem aLI (a b:List Int) {k:Nat} (h1:k<a.length) (h2:k<b.length):(vP a b).take k++[(eI a[k] b[k]).1]=(vP a b).take (k+1):=aWI _ a b h1 h2
theorem aCH (a b:List (List Int)) {k:Nat} (h1:k<a.length) (h2:k<b.length):(fB a b).take k++[vP a[k] b[k]]=(fB a b).take (k+1):=aWI _ a b h1 h2
def aBV (a b:List Int) (k:Nat):Bool:=((a.zip b).take k).any fun p=>(eI p.1 p.2).2
def pD (a b:List (List Int)) (k:Nat):Bool:=((a.zip b).take k).any fun p=>aZI p.1 p.2
theorem aV7 (a b:List Int) {k:Nat} (h1:k<a.length) (h2:k<b.length):aBV a b (k+1)=(aBV a b k || (eI a[k] b[k]).2):=aVP _ a b h1 h2
theorem aUL (a b:List (List Int)) {k:Nat} (h1:k<a.length) (h2:k<b.length):pD a b (k+1)=(pD a b k || aZI a[k] b[k]):=aVP _ a b h1 h2
theorem aYS (a b:List Int) {k:Nat} (h:min a.length b.length≤k):aBV a b k=aZI a b:=by unfold aBV aZI;rw[aZV a b h]
theorem aXE (a b:List (List Int)) {k:Nat} (h:min a.length b.length≤k):pD a b k=aIT a b:=by unfold pD aIT;rw[aZV a b h]
noncomputable def kD:Con:=⟨91,bF,bF,[.val ⟨true,bF,[]⟩],[⟨true,bF,[2,0,0]⟩],false,none,
 ((fun x=>mD x):(gK)→Prop),
 ((fun x=>x):(gK)→(gK))⟩
def sI:T:=.call 0 (.p1 aP (.bJ2 tI .bool) (.Z 0)) <|.ret (.bJ4 aP (.bJ2 tI .bool) (.Z 1) (aR bF 1 (.Z 0)))
theorem aJD:bV Tryz.prog [eB] kD false 3000 ⟨[],[]⟩ = .ok sI:=by kernel_rfl
theorem aJJ (x:gK) (hx:okD bF x) (hp:(fun x=>mD x) x):sI.wp [eB] [⟨bF,x⟩] [] (fun v=>v.as bF=(fun x=>x) x):=by
 have hp:mD x:=hp
 delta sI eB;refine eE ?_
 exact ⟨hp,fun _=>by first|rfl|trivial⟩
theorem aK8:Con.Holds Tryz.prog kD:=aV aX (aG tS aT) aJD aJJ
noncomputable def lN:Con:=⟨89,(.bJ2 bF bF),bF,[.val ⟨true,bF,[]⟩,.val ⟨true,bF,[]⟩],[⟨true,bF,[2,0,0]⟩],false,none,
 ((fun x=>mD x.1∧mD x.2):(gK × gK)→Prop),
 ((fun x=>lI x.1 x.2):(gK × gK)→(gK))⟩
def tR:T:=.ite (aR bF 2 (.p1 bF bF (.Z 0))) (.loop aM (.bJ4 tI aP (.ci .i64 0) (.nl 124 aB)) <|
  .bJ3 (.bJ6 124 aB) (.p1 aP (.bJ2 tI .bool) (.p1 bF bF (.Z 0))) <|
  .bJ3 (.cmp .lss .i64) (.bJ4 tI tI (.p1 tI aP (.Z 1)) (.Z 2)) <|
  .ite (.Z 3) (
   .bJ3 (.bJ6 124 aB) (aJ (.bJ2 bF bF) 1 (.Z 0)) <|
   .bJ3 (.cmp .lss .i64) (.bJ4 tI tI (.p1 tI aP (.Z 1)) (.Z 4)) <|
   .ite (.Z 5) (
    .loop aI (.bJ4 tI aB (.ci .i64 0) (.nl 3 tI)) <|
     .bJ3 (.bJ7 124 aB) (.bJ4 aP tI (.p1 aP (.bJ2 tI .bool) (.p1 bF bF (.Z 0))) (.p1 tI aP (.Z 1))) <|
     .bJ3 (.bJ6 3 tI) (.Z 7) <|
     .bJ3 (.cmp .lss .i64) (.bJ4 tI tI (.p1 tI aB (.Z 6)) (.Z 8)) <|
     .ite (.Z 9) (
      .bJ3 (.bJ7 124 aB) (.bJ4 aP tI (aJ (.bJ2 bF bF) 1 (.Z 0)) (.p1 tI aP (.Z 1))) <|
      .bJ3 (.bJ6 3 tI) (.Z 10) <|
      .bJ3 (.cmp .lss .i64) (.bJ4 tI tI (.p1 tI aB (.Z 6)) (.Z 11)) <|
      .ite (.Z 12) (
       .bJ3 (.bJ7 124 aB) (.bJ4 aP tI (.p1 aP (.bJ2 tI .bool) (.p1 bF bF (.Z 0))) (.p1 tI aP (.Z 1))) <|
       .bJ3 (.bJ7 3 tI) (.bJ4 aB tI (.Z 13) (.p1 tI aB (.Z 6))) <|
       .bJ3 (.bJ7 124 aB) (.bJ4 aP tI (aJ (.bJ2 bF bF) 1 (.Z 0)) (.p1 tI aP (.Z 1))) <|
       .bJ3 (.bJ7 3 tI) (.bJ4 aB tI (.Z 15) (.p1 tI aB (.Z 6))) <|
       .call 0 (.bJ4 tI tI (.Z 14) (.Z 16)) <|
       .bJ3 (.lit 3 tI 1) (.p1 tI .bool (.Z 17)) <|
       .bJ3 (.bJ9 3 tI 8) (.bJ4 aB aB (aR aI 1 (.Z 6)) (.Z 18)) <|
       .bJ3 (.ar .add .i64) (.bJ4 tI tI (.p1 tI aB (.Z 6)) (.ci .i64 1)) <|
       .bJ5 0 (.bJ4 tI aB (.Z 20) (.Z 19))) (
       .bJ3 (.lit 124 aB 1) (aR aI 1 (.Z 6)) <|
       .bJ3 (.bJ9 124 aB 24) (.bJ4 aP aP (aR aM 1 (.Z 1)) (.Z 13)) <|
       .bJ3 (.ar .add .i64) (.bJ4 tI tI (.p1 tI aP (.Z 1)) (.ci .i64 1)) <|
       .bJ5 1 (.bJ4 tI aP (.Z 15) (.Z 14)))) (
      .bJ3 (.lit 124 aB 1) (aR aI 1 (.Z 6)) <|
      .bJ3 (.bJ9 124 aB 24) (.bJ4 aP aP (aR aM 1 (.Z 1)) (.Z 10)) <|
      .bJ3 (.ar .add .i64) (.bJ4 tI tI (.p1 tI aP (.Z 1)) (.ci .i64 1)) <|
      .bJ5 1 (.bJ4 tI aP (.Z 12) (.Z 11)))) (
    .call 0 (.bJ4 tI tI (aJ bF 1 (.p1 bF bF (.Z 0))) (aJ (.bJ2 bF bF) 2 (.Z 0))) <|
    .ret (bJ bF [(aR aM 1 (.Z 1)),(.p1 tI .bool (.Z 6)),(.cb true)]))) (
   .call 0 (.bJ4 tI tI (aJ bF 1 (.p1 bF bF (.Z 0))) (aJ (.bJ2 bF bF) 2 (.Z 0))) <|
   .ret (bJ bF [(aR aM 1 (.Z 1)),(.p1 tI .bool (.Z 4)),(.cb true)]))) (
 .loop (.bJ2 tI (.bJ2 aP .bool)) (bJ (.bJ2 tI (.bJ2 aP .bool)) [(.ci .i64 0),(.nl 124 aB),(aR (.bJ2 bF bF) 3 (.Z 0))]) <|
  .bJ3 (.bJ6 124 aB) (.p1 aP (.bJ2 tI .bool) (.p1 bF bF (.Z 0))) <|
  .bJ3 (.cmp .lss .i64) (.bJ4 tI tI (.p1 tI (.bJ2 aP .bool) (.Z 1)) (.Z 2)) <|
  .ite (.Z 3) (
   .bJ3 (.bJ6 124 aB) (aJ (.bJ2 bF bF) 1 (.Z 0)) <|
   .bJ3 (.cmp .lss .i64) (.bJ4 tI tI (.p1 tI (.bJ2 aP .bool) (.Z 1)) (.Z 4)) <|
   .ite (.Z 5) (
    .loop (.bJ2 tI (.bJ2 aB .bool)) (bJ (.bJ2 tI (.bJ2 aB .bool)) [(.ci .i64 0),(.nl 3 tI),(aR (.bJ2 tI (.bJ2 aP .bool)) 2 (.Z 1))]) <|
     .bJ3 (.bJ7 124 aB) (.bJ4 aP tI (.p1 aP (.bJ2 tI .bool) (.p1 bF bF (.Z 0))) (.p1 tI (.bJ2 aP .bool) (.Z 1))) <|
     .bJ3 (.bJ6 3 tI) (.Z 7) <|
     .bJ3 (.cmp .lss .i64) (.bJ4 tI tI (.p1 tI (.bJ2 aB .bool) (.Z 6)) (.Z 8)) <|
     .ite (.Z 9) (
      .bJ3 (.bJ7 124 aB) (.bJ4 aP tI (aJ (.bJ2 bF bF) 1 (.Z 0)) (.p1 tI (.bJ2 aP .bool) (.Z 1))) <|
      .bJ3 (.bJ6 3 tI) (.Z 10) <|
      .bJ3 (.cmp .lss .i64) (.bJ4 tI tI (.p1 tI (.bJ2 aB .bool) (.Z 6)) (.Z 11)) <|
      .ite (.Z 12) (
       .bJ3 (.bJ7 124 aB) (.bJ4 aP tI (.p1 aP (.bJ2 tI .bool) (.p1 bF bF (.Z 0))) (.p1 tI (.bJ2 aP .bool) (.Z 1))) <|
       .bJ3 (.bJ7 3 tI) (.bJ4 aB tI (.Z 13) (.p1 tI (.bJ2 aB .bool) (.Z 6))) <|
       .bJ3 (.bJ7 124 aB) (.bJ4 aP tI (aJ (.bJ2 bF bF) 1 (.Z 0)) (.p1 tI (.bJ2 aP .bool) (.Z 1))) <|
       .bJ3 (.bJ7 3 tI) (.bJ4 aB tI (.Z 15) (.p1 tI (.bJ2 aB .bool) (.Z 6))) <|
       .call 0 (.bJ4 tI tI (.Z 14) (.Z 16)) <|
       .bJ3 (.lit 3 tI 1) (.p1 tI .bool (.Z 17)) <|
       .bJ3 (.bJ9 3 tI 8) (.bJ4 aB aB (aJ (.bJ2 tI (.bJ2 aB .bool)) 1 (.Z 6)) (.Z 18)) <|
       .ite (aR (.bJ2 tI (.bJ2 aB .bool)) 2 (.Z 6)) (
        .bJ3 (.ar .add .i64) (.bJ4 tI tI (.p1 tI (.bJ2 aB .bool) (.Z 6)) (.ci .i64 1)) <|
        .bJ5 0 (bJ (.bJ2 tI (.bJ2 aB .bool)) [(.Z 20),(.Z 19),(.cb true)])) (
        .bJ3 (.ar .add .i64) (.bJ4 tI tI (.p1 tI (.bJ2 aB .bool) (.Z 6)) (.ci .i64 1)) <|
        .bJ5 0 (bJ (.bJ2 tI (.bJ2 aB .bool)) [(.Z 20),(.Z 19),(aR (.bJ2 tI .bool) 1 (.Z 17))]))) (
       .bJ3 (.lit 124 aB 1) (aJ (.bJ2 tI (.bJ2 aB .bool)) 1 (.Z 6)) <|
       .bJ3 (.bJ9 124 aB 24) (.bJ4 aP aP (aJ (.bJ2 tI (.bJ2 aP .bool)) 1 (.Z 1)) (.Z 13)) <|
       .bJ3 (.ar .add .i64) (.bJ4 tI tI (.p1 tI (.bJ2 aP .bool) (.Z 1)) (.ci .i64 1)) <|
       .bJ5 1 (bJ (.bJ2 tI (.bJ2 aP .bool)) [(.Z 15),(.Z 14),(aR (.bJ2 tI (.bJ2 aB .bool)) 2 (.Z 6))]))) (
      .bJ3 (.lit 124 aB 1) (aJ (.bJ2 tI (.bJ2 aB .bool)) 1 (.Z 6)) <|
      .bJ3 (.bJ9 124 aB 24) (.bJ4 aP aP (aJ (.bJ2 tI (.bJ2 aP .bool)) 1 (.Z 1)) (.Z 10)) <|
      .bJ3 (.ar .add .i64) (.bJ4 tI tI (.p1 tI (.bJ2 aP .bool) (.Z 1)) (.ci .i64 1)) <|
      .bJ5 1 (bJ (.bJ2 tI (.bJ2 aP .bool)) [(.Z 12),(.Z 11),(aR (.bJ2 tI (.bJ2 aB .bool)) 2 (.Z 6))]))) (
    .call 0 (.bJ4 tI tI (aJ bF 1 (.p1 bF bF (.Z 0))) (aJ (.bJ2 bF bF) 2 (.Z 0))) <|
    .ite (aR (.bJ2 tI (.bJ2 aP .bool)) 2 (.Z 1)) (
     .ret (bJ bF [(aJ (.bJ2 tI (.bJ2 aP .bool)) 1 (.Z 1)),(.p1 tI .bool (.Z 6)),(.cb true)])) (
     .ret (.bJ4 aP (.bJ2 tI .bool) (aJ (.bJ2 tI (.bJ2 aP .bool)) 1 (.Z 1)) (.Z 6))))) (
   .call 0 (.bJ4 tI tI (aJ bF 1 (.p1 bF bF (.Z 0))) (aJ (.bJ2 bF bF) 2 (.Z 0))) <|
   .ite (aR (.bJ2 tI (.bJ2 aP .bool)) 2 (.Z 1)) (
    .ret (bJ bF [(aJ (.bJ2 tI (.bJ2 aP .bool)) 1 (.Z 1)),(.p1 tI .bool (.Z 4)),(.cb true)])) (
    .ret (.bJ4 aP (.bJ2 tI .bool) (aJ (.bJ2 tI (.bJ2 aP .bool)) 1 (.Z 1)) (.Z 4)))))
theorem aMF:bV Tryz.prog [eC] lN false 3000 ⟨[(2991,3001,mW 19 13++[.dr 0,.dr 1,.tm 6 0,.sl 7]),(2977,15006,[.tm 8 0,.sl 10]),(2991,2001,mW 19 13++[.dr 0,.dr 1,.tm 6 0,.sl 7,.bx 5 2]),(2977,14006,[.tm 8 0,.sl 10,.bx 5 2])],[(2971,47013,[],[10]),(2971,23010,[],[10]),(2971,46013,[],[10]),(2971,22010,[],[10])]⟩ = .ok tR:=by kernel_rfl
theorem aM5 (x:gK × gK) (hx:okD (.bJ2 bF bF) x) (hp:(fun x=>mD x.1∧mD x.2) x):tR.wp [eC] [⟨(.bJ2 bF bF),x⟩] [] (fun v=>v.as bF=(fun x=>lI x.1 x.2) x):=by
 obtain ⟨⟨a,la,sa⟩,⟨b,lb,sb⟩⟩:=x
 obtain ⟨⟨ha,ha'⟩,⟨hb,hb'⟩⟩:mD (a,la,sa)∧mD (b,lb,sb):=hp
 dsimp only at ha ha' hb hb'
 delta tR eC;refine eE ?_
 constructor
 ·intro hsat
  refine ⟨fun s=>∃ k:Nat,k≤a.length∧k≤b.length∧s=((k:Int),(fB a b).take k),fun s=>a.length - (s.1:Int).toNat,⟨0,by omega,by omega,by simp⟩,fun s _ hI=>?_⟩
  obtain ⟨k,hk1,hk2,rfl⟩:=hI
  dsimp only
  refine eL ?_
  have fin:a.length≤k∨b.length≤k→∀ r:Int × Bool,r=eI la lb→((fB a b).take k,(r.1,true))=lI (a,la,sa) (b,lb,sb):=fun h r hr=>by
   rw[hr,aBY (by rw[qY];omega)]
   unfold lI
   dsimp only at hsat ⊢
   rw[hsat]
   simp
  (repeat' first|intro _|(with_reducible apply And.intro))
  rotate_left
  ·exact fin (by omega) _ rfl
  ·exact fin (by omega) _ rfl
  have h1:k<a.length:=by omega
  have h2:k<b.length:=by omega
  simp only[bD h1,bD h2]
  have mA:=ha' _ (List.getElem_mem h1)
  have mB:=hb' _ (List.getElem_mem h2)
  have e0:=aCH a b h1 h2
  generalize a[k]=A at *
  generalize b[k]=B at *
  refine ⟨fun s=>∃ j:Nat,j≤A.length∧j≤B.length∧s=((j:Int),(vP A B).take j),fun s=>A.length - (s.1:Int).toNat,⟨0,by omega,by omega,by simp⟩,fun s _ hI=>?_⟩
  obtain ⟨j,hj1,hj2,rfl⟩:=hI
  dsimp only
  refine eL ?_
  have hl:List.length ((vP A B).take j)=j:=by rw[List.length_take,wU];omega
  have hl2:List.length ((fB a b).take k)=k:=by rw[List.length_take,qY];omega
  have out:A.length≤j∨B.length≤j→(fB a b).take k++[(vP A B).take j]=(fB a b).take (k+1):=fun h=>by
   rw[aBY (l:=vP A B) (by rw[wU];omega)];exact e0
  (repeat' first|intro _|(with_reducible apply And.intro))
  all_goals first|omega|(unfold maxLen;omega)|(exact ⟨j+1,by omega,by omega,by rw[bD (show j<A.length by omega),bD (show j<B.length by omega),aLI A B (by omega) (by omega)];rfl⟩)|(exact ⟨k+1,by omega,by omega,by rw[out (by omega)];rfl⟩)
 ·intro hsat
  refine ⟨fun s=>∃ k:Nat,k≤a.length∧k≤b.length∧s=((k:Int),(fB a b).take k,sb || pD a b k),fun s=>a.length - (s.1:Int).toNat,⟨0,by omega,by omega,by simp[pD]⟩,fun s _ hI=>?_⟩
  obtain ⟨k,hk1,hk2,rfl⟩:=hI
  dsimp only
  refine eL ?_
  have fin:a.length≤k∨b.length≤k→∀ r:Int × Bool,r=eI la lb→((fB a b).take k,(r.1,(sb || pD a b k) || r.2))=lI (a,la,sa) (b,lb,sb):=fun h r hr=>by
   rw[hr,aBY (by rw[qY];omega),aXE a b (by omega)]
   unfold lI
   dsimp only at hsat ⊢
   rw[hsat]
   simp
  (repeat' first|intro _|(with_reducible apply And.intro))
  rotate_left
  ·rw[show (sb || pD a b k)=true by assumption] at fin;exact fin (by omega) _ rfl
  ·rw[show (sb || pD a b k)=false by assumption] at fin;exact fin (by omega) _ rfl
  ·rw[show (sb || pD a b k)=true by assumption] at fin;exact fin (by omega) _ rfl
  ·rw[show (sb || pD a b k)=false by assumption] at fin;exact fin (by omega) _ rfl
  have h1:k<a.length:=by omega
  have h2:k<b.length:=by omega
  simp only[bD h1,bD h2]
  have mA:=ha' _ (List.getElem_mem h1)
  have mB:=hb' _ (List.getElem_mem h2)
  have e0:=aCH a b h1 h2
  have e1:(sb || pD a b (k+1))=((sb || pD a b k) || aZI a[k] b[k]):=by rw[aUL a b h1 h2,Bool.or_assoc]
  clear fin
  generalize (sb || pD a b k)=f0 at *
  generalize a[k]=A at *
  generalize b[k]=B at *
  refine ⟨fun s=>∃ j:Nat,j≤A.length∧j≤B.length∧s=((j:Int),(vP A B).take j,f0 || aBV A B j),fun s=>A.length - (s.1:Int).toNat,⟨0,by omega,by omega,by simp[aBV]⟩,fun s _ hI=>?_⟩
  obtain ⟨j,hj1,hj2,rfl⟩:=hI
  dsimp only
  refine eL ?_
  have hl:List.length ((vP A B).take j)=j:=by rw[List.length_take,wU];omega
  have hl2:List.length ((fB a b).take k)=k:=by rw[List.length_take,qY];omega
  have out:A.length≤j∨B.length≤j→((fB a b).take k++[(vP A B).take j],f0 || aBV A B j)=((fB a b).take (k+1),sb || pD a b (k+1)):=fun h=>by
   rw[aBY (l:=vP A B) (by rw[wU];omega),e0,e1,aYS A B (by omega)]
  (repeat' first|intro _|(with_reducible apply And.intro))
  all_goals first|omega|(unfold maxLen;omega)|skip
  all_goals first|(exact ⟨k+1,by omega,by omega,by rw[← out (by omega)];rfl⟩)|(refine ⟨j+1,by omega,by omega,?_⟩)
  all_goals rw[bD (show j<A.length by omega),bD (show j<B.length by omega),aLI A B (by omega) (by omega),aV7 A B (by omega) (by omega),← Bool.or_assoc]
  ·rw[show (f0 || aBV A B j)=true by assumption];rfl
  ·rw[show (f0 || aBV A B j)=false by assumption];rfl
theorem aM3:Con.Holds Tryz.prog lN:=aV aX (aG uY aT) aMF aM5
noncomputable def bY:Con:=⟨22,(.bJ2 tI aC),.bool,[.val ⟨false,tI,[]⟩,.val ⟨false,tI,[]⟩,.val ⟨false,tI,[]⟩],[⟨false,.bool,[0]⟩],false,none,
 ((fun _=>True):(Int × cQ)→Prop),
 ((fun x=>decide (x.2.1≤x.1)&&decide (x.1≤x.2.2)):(Int × cQ)→(Bool))⟩
def aH9:T :=
 .bJ3 (.cmp .geq .i64) (.bJ4 tI tI (.p1 tI aC (.Z 0)) (aJ (.bJ2 tI aC) 1 (.Z 0))) <|
 .ite (.Z 1) (
  .bJ3 (.cmp .leq .i64) (.bJ4 tI tI (.p1 tI aC (.Z 0)) (aR (.bJ2 tI aC) 2 (.Z 0))) <|
  .ret (.Z 2)) (
  .ret (.cb false))
theorem aZW:bV Tryz.prog [] bY false 3000 ⟨[],[]⟩ = .ok aH9:=by kernel_rfl
theorem bCT (x:Int × cQ) (hx:okD (.bJ2 tI aC) x) (hp:(fun _=>True) x):aH9.wp [] [⟨(.bJ2 tI aC),x⟩] [] (fun v=>v.as .bool=(fun x=>decide (x.2.1≤x.1)&&decide (x.1≤x.2.2)) x):=by
 delta aH9;refine eE ?_
 refine eL ?_
 constructor
 ·intro h;simp[h]
 ·intro h
  have:¬ x.2.1≤x.1:=by omega
  simp[this]
theorem iJ:Con.Holds Tryz.prog bY:=aV aX aT aZW bCT
end Go.Proofs.YtpleleanibgniaaGreat
