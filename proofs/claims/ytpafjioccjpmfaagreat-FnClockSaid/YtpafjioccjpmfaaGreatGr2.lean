/- Gr2: lemmas. No conditions. -/
import Derived.Test.YtpafjioccjpmfaaGreatFix2
namespace Go.Proofs.YtpafjioccjpmfaaGreat
set_option maxRecDepth 100000
open Go.ChangeShapes Go.WideShapes Go.ChangeAt Go.RowKit Go.Deep
set_option linter.unusedVariables false
set_option linter.unusedSimpArgs false
def xL (a b:List Int):List Int:=List.zipWith (fun x y=>(fD x y).1) a b
def bDR (a b:List Int):Bool:=(a.zip b).any fun p=>(fD p.1 p.2).2
def eY (a b:List (List Int)):List (List Int):=List.zipWith xL a b
def aME (a b:List (List Int)):Bool:=(a.zip b).any fun p=>bDR p.1 p.2
def nU (a b:jB):jB:=(eY a.1 b.1,((fD a.2.1 b.2.1).1,a.2.2 || b.2.2 || aME a.1 b.1 || (fD a.2.1 b.2.1).2))
theorem bOO {α β γ:Type} (f:α→β→γ) (a:List α) (b:List β):(List.zipWith f a b).length=min a.length b.length:=List.length_zipWith
theorem bCM {α β γ:Type} (f:α→β→γ) (a:List α) (b:List β) {k:Nat} (h1:k<a.length) (h2:k<b.length):(List.zipWith f a b).take k++[f a[k] b[k]]=(List.zipWith f a b).take (k+1):=by
 have h:k<(List.zipWith f a b).length:=by rw[bOO];omega
 rw[List.take_succ_eq_append_getElem h,List.getElem_zipWith]
theorem bBQ {α β:Type} (F:α × β→Bool) (a:List α) (b:List β) {k:Nat} (h1:k<a.length) (h2:k<b.length):((a.zip b).take (k+1)).any F=(((a.zip b).take k).any F || F (a[k],b[k])):=by
 have h:k<(a.zip b).length:=by rw[List.length_zip];omega
 rw[List.take_succ_eq_append_getElem h,List.any_append]
 simp
theorem bIU {α β:Type} (a:List α) (b:List β) {k:Nat} (h:min a.length b.length≤k):(a.zip b).take k=a.zip b:=List.take_of_length_le (by rw[List.length_zip];exact h)
def oS (g:jB):Prop:=g.1.length≤1000000000∧∀ r∈g.1,r.length≤1000000000
theorem aG2 {α:Type} {l:List α} {k:Nat} (h:l.length≤k):l.take k=l:=List.take_of_length_le h
theorem nL (a b:List (List Int)):(eY a b).length=min a.length b.length:=List.length_zipWith
theorem aB3 (a b:List Int):(xL a b).length=min a.length b.length:=List.length_zipWith
theorem aOM (a b:List Int) {k:Nat} (h1:k<a.length) (h2:k<b.length):(xL a b).take k++[(fD a[k] b[k]).1]=(xL a b).take (k+1):=bCM _ a b h1 h2
theorem aFB (a b:List (List Int)) {k:Nat} (h1:k<a.length) (h2:k<b.length):(eY a b).take k++[xL a[k] b[k]]=(eY a b).take (k+1):=bCM _ a b h1 h2
def aFI (a b:List Int) (k:Nat):Bool:=((a.zip b).take k).any fun p=>(fD p.1 p.2).2
def tH (a b:List (List Int)) (k:Nat):Bool:=((a.zip b).take k).any fun p=>bDR p.1 p.2
theorem aYQ (a b:List Int) {k:Nat} (h1:k<a.length) (h2:k<b.length):aFI a b (k+1)=(aFI a b k || (fD a[k] b[k]).2):=bBQ _ a b h1 h2
theorem aYB (a b:List (List Int)) {k:Nat} (h1:k<a.length) (h2:k<b.length):tH a b (k+1)=(tH a b k || bDR a[k] b[k]):=bBQ _ a b h1 h2
theorem bDZ (a b:List Int) {k:Nat} (h:min a.length b.length≤k):aFI a b k=bDR a b:=by unfold aFI bDR;rw[bIU a b h]
theorem bEO (a b:List (List Int)) {k:Nat} (h:min a.length b.length≤k):tH a b k=aME a b:=by unfold tH aME;rw[bIU a b h]
noncomputable def mW:Con:=⟨121,bJ,bJ,[.val ⟨true,bJ,[]⟩],[⟨true,bJ,[2,0,0]⟩],false,none,
 ((fun x=>oS x):(jB)→Prop),
 ((fun x=>x):(jB)→(jB))⟩
def vN:T:=.call 0 (.p1 aO (.bPW tI .bool) (.Z 0)) <|.ret (.bPY aO (.bPW tI .bool) (.Z 1) (aS bJ 1 (.Z 0)))
theorem aO9:bW Tryz.prog [fG] mW false 3000 ⟨[],[]⟩ = .ok vN:=by kernel_rfl
theorem aO8 (x:jB) (hx:okD bJ x) (hp:(fun x=>oS x) x):vN.wp [fG] [⟨bJ,x⟩] [] (fun v=>v.as bJ=(fun x=>x) x):=by
 have hp:oS x:=hp
 delta vN fG;refine dY ?_
 exact ⟨hp,fun _=>by first|rfl|trivial⟩
theorem aNO:Con.Holds Tryz.prog mW:=aX aZ (aG yM aT) aO9 aO8
noncomputable def nY:Con:=⟨111,(.bPW bJ bJ),bJ,[.val ⟨true,bJ,[]⟩,.val ⟨true,bJ,[]⟩],[⟨true,bJ,[2,0,0]⟩],false,none,
 ((fun x=>oS x.1∧oS x.2):(jB × jB)→Prop),
 ((fun x=>nU x.1 x.2):(jB × jB)→(jB))⟩
def yJ:T:=.ite (aS bJ 2 (.p1 bJ bJ (.Z 0))) (.loop aL (.bPY tI aO (.ci .i64 0) (.nl 134 aB)) <|
  .bPX (.bQ0 134 aB) (.p1 aO (.bPW tI .bool) (.p1 bJ bJ (.Z 0))) <|
  .bPX (.cmp .lss .i64) (.bPY tI tI (.p1 tI aO (.Z 1)) (.Z 2)) <|
  .ite (.Z 3) (
   .bPX (.bQ0 134 aB) (aH (.bPW bJ bJ) 1 (.Z 0)) <|
   .bPX (.cmp .lss .i64) (.bPY tI tI (.p1 tI aO (.Z 1)) (.Z 4)) <|
   .ite (.Z 5) (
    .loop aI (.bPY tI aB (.ci .i64 0) (.nl 3 tI)) <|
     .bPX (.bQ1 134 aB) (.bPY aO tI (.p1 aO (.bPW tI .bool) (.p1 bJ bJ (.Z 0))) (.p1 tI aO (.Z 1))) <|
     .bPX (.bQ0 3 tI) (.Z 7) <|
     .bPX (.cmp .lss .i64) (.bPY tI tI (.p1 tI aB (.Z 6)) (.Z 8)) <|
     .ite (.Z 9) (
      .bPX (.bQ1 134 aB) (.bPY aO tI (aH (.bPW bJ bJ) 1 (.Z 0)) (.p1 tI aO (.Z 1))) <|
      .bPX (.bQ0 3 tI) (.Z 10) <|
      .bPX (.cmp .lss .i64) (.bPY tI tI (.p1 tI aB (.Z 6)) (.Z 11)) <|
      .ite (.Z 12) (
       .bPX (.bQ1 134 aB) (.bPY aO tI (.p1 aO (.bPW tI .bool) (.p1 bJ bJ (.Z 0))) (.p1 tI aO (.Z 1))) <|
       .bPX (.bQ1 3 tI) (.bPY aB tI (.Z 13) (.p1 tI aB (.Z 6))) <|
       .bPX (.bQ1 134 aB) (.bPY aO tI (aH (.bPW bJ bJ) 1 (.Z 0)) (.p1 tI aO (.Z 1))) <|
       .bPX (.bQ1 3 tI) (.bPY aB tI (.Z 15) (.p1 tI aB (.Z 6))) <|
       .call 0 (.bPY tI tI (.Z 14) (.Z 16)) <|
       .bPX (.lit 3 tI 1) (.p1 tI .bool (.Z 17)) <|
       .bPX (.bQ3 3 tI 8) (.bPY aB aB (aS aI 1 (.Z 6)) (.Z 18)) <|
       .bPX (.ar .add .i64) (.bPY tI tI (.p1 tI aB (.Z 6)) (.ci .i64 1)) <|
       .bPZ 0 (.bPY tI aB (.Z 20) (.Z 19))) (
       .bPX (.lit 134 aB 1) (aS aI 1 (.Z 6)) <|
       .bPX (.bQ3 134 aB 24) (.bPY aO aO (aS aL 1 (.Z 1)) (.Z 13)) <|
       .bPX (.ar .add .i64) (.bPY tI tI (.p1 tI aO (.Z 1)) (.ci .i64 1)) <|
       .bPZ 1 (.bPY tI aO (.Z 15) (.Z 14)))) (
      .bPX (.lit 134 aB 1) (aS aI 1 (.Z 6)) <|
      .bPX (.bQ3 134 aB 24) (.bPY aO aO (aS aL 1 (.Z 1)) (.Z 10)) <|
      .bPX (.ar .add .i64) (.bPY tI tI (.p1 tI aO (.Z 1)) (.ci .i64 1)) <|
      .bPZ 1 (.bPY tI aO (.Z 12) (.Z 11)))) (
    .call 0 (.bPY tI tI (aH bJ 1 (.p1 bJ bJ (.Z 0))) (aH (.bPW bJ bJ) 2 (.Z 0))) <|
    .ret (bP bJ [(aS aL 1 (.Z 1)),(.p1 tI .bool (.Z 6)),(.cb true)]))) (
   .call 0 (.bPY tI tI (aH bJ 1 (.p1 bJ bJ (.Z 0))) (aH (.bPW bJ bJ) 2 (.Z 0))) <|
   .ret (bP bJ [(aS aL 1 (.Z 1)),(.p1 tI .bool (.Z 4)),(.cb true)]))) (
 .loop (.bPW tI (.bPW aO .bool)) (bP (.bPW tI (.bPW aO .bool)) [(.ci .i64 0),(.nl 134 aB),(aS (.bPW bJ bJ) 3 (.Z 0))]) <|
  .bPX (.bQ0 134 aB) (.p1 aO (.bPW tI .bool) (.p1 bJ bJ (.Z 0))) <|
  .bPX (.cmp .lss .i64) (.bPY tI tI (.p1 tI (.bPW aO .bool) (.Z 1)) (.Z 2)) <|
  .ite (.Z 3) (
   .bPX (.bQ0 134 aB) (aH (.bPW bJ bJ) 1 (.Z 0)) <|
   .bPX (.cmp .lss .i64) (.bPY tI tI (.p1 tI (.bPW aO .bool) (.Z 1)) (.Z 4)) <|
   .ite (.Z 5) (
    .loop (.bPW tI (.bPW aB .bool)) (bP (.bPW tI (.bPW aB .bool)) [(.ci .i64 0),(.nl 3 tI),(aS (.bPW tI (.bPW aO .bool)) 2 (.Z 1))]) <|
     .bPX (.bQ1 134 aB) (.bPY aO tI (.p1 aO (.bPW tI .bool) (.p1 bJ bJ (.Z 0))) (.p1 tI (.bPW aO .bool) (.Z 1))) <|
     .bPX (.bQ0 3 tI) (.Z 7) <|
     .bPX (.cmp .lss .i64) (.bPY tI tI (.p1 tI (.bPW aB .bool) (.Z 6)) (.Z 8)) <|
     .ite (.Z 9) (
      .bPX (.bQ1 134 aB) (.bPY aO tI (aH (.bPW bJ bJ) 1 (.Z 0)) (.p1 tI (.bPW aO .bool) (.Z 1))) <|
      .bPX (.bQ0 3 tI) (.Z 10) <|
      .bPX (.cmp .lss .i64) (.bPY tI tI (.p1 tI (.bPW aB .bool) (.Z 6)) (.Z 11)) <|
      .ite (.Z 12) (
       .bPX (.bQ1 134 aB) (.bPY aO tI (.p1 aO (.bPW tI .bool) (.p1 bJ bJ (.Z 0))) (.p1 tI (.bPW aO .bool) (.Z 1))) <|
       .bPX (.bQ1 3 tI) (.bPY aB tI (.Z 13) (.p1 tI (.bPW aB .bool) (.Z 6))) <|
       .bPX (.bQ1 134 aB) (.bPY aO tI (aH (.bPW bJ bJ) 1 (.Z 0)) (.p1 tI (.bPW aO .bool) (.Z 1))) <|
       .bPX (.bQ1 3 tI) (.bPY aB tI (.Z 15) (.p1 tI (.bPW aB .bool) (.Z 6))) <|
       .call 0 (.bPY tI tI (.Z 14) (.Z 16)) <|
       .bPX (.lit 3 tI 1) (.p1 tI .bool (.Z 17)) <|
       .bPX (.bQ3 3 tI 8) (.bPY aB aB (aH (.bPW tI (.bPW aB .bool)) 1 (.Z 6)) (.Z 18)) <|
       .ite (aS (.bPW tI (.bPW aB .bool)) 2 (.Z 6)) (
        .bPX (.ar .add .i64) (.bPY tI tI (.p1 tI (.bPW aB .bool) (.Z 6)) (.ci .i64 1)) <|
        .bPZ 0 (bP (.bPW tI (.bPW aB .bool)) [(.Z 20),(.Z 19),(.cb true)])) (
        .bPX (.ar .add .i64) (.bPY tI tI (.p1 tI (.bPW aB .bool) (.Z 6)) (.ci .i64 1)) <|
        .bPZ 0 (bP (.bPW tI (.bPW aB .bool)) [(.Z 20),(.Z 19),(aS (.bPW tI .bool) 1 (.Z 17))]))) (
       .bPX (.lit 134 aB 1) (aH (.bPW tI (.bPW aB .bool)) 1 (.Z 6)) <|
       .bPX (.bQ3 134 aB 24) (.bPY aO aO (aH (.bPW tI (.bPW aO .bool)) 1 (.Z 1)) (.Z 13)) <|
       .bPX (.ar .add .i64) (.bPY tI tI (.p1 tI (.bPW aO .bool) (.Z 1)) (.ci .i64 1)) <|
       .bPZ 1 (bP (.bPW tI (.bPW aO .bool)) [(.Z 15),(.Z 14),(aS (.bPW tI (.bPW aB .bool)) 2 (.Z 6))]))) (
      .bPX (.lit 134 aB 1) (aH (.bPW tI (.bPW aB .bool)) 1 (.Z 6)) <|
      .bPX (.bQ3 134 aB 24) (.bPY aO aO (aH (.bPW tI (.bPW aO .bool)) 1 (.Z 1)) (.Z 10)) <|
      .bPX (.ar .add .i64) (.bPY tI tI (.p1 tI (.bPW aO .bool) (.Z 1)) (.ci .i64 1)) <|
      .bPZ 1 (bP (.bPW tI (.bPW aO .bool)) [(.Z 12),(.Z 11),(aS (.bPW tI (.bPW aB .bool)) 2 (.Z 6))]))) (
    .call 0 (.bPY tI tI (aH bJ 1 (.p1 bJ bJ (.Z 0))) (aH (.bPW bJ bJ) 2 (.Z 0))) <|
    .ite (aS (.bPW tI (.bPW aO .bool)) 2 (.Z 1)) (
     .ret (bP bJ [(aH (.bPW tI (.bPW aO .bool)) 1 (.Z 1)),(.p1 tI .bool (.Z 6)),(.cb true)])) (
     .ret (.bPY aO (.bPW tI .bool) (aH (.bPW tI (.bPW aO .bool)) 1 (.Z 1)) (.Z 6))))) (
   .call 0 (.bPY tI tI (aH bJ 1 (.p1 bJ bJ (.Z 0))) (aH (.bPW bJ bJ) 2 (.Z 0))) <|
   .ite (aS (.bPW tI (.bPW aO .bool)) 2 (.Z 1)) (
    .ret (bP bJ [(aH (.bPW tI (.bPW aO .bool)) 1 (.Z 1)),(.p1 tI .bool (.Z 4)),(.cb true)])) (
    .ret (.bPY aO (.bPW tI .bool) (aH (.bPW tI (.bPW aO .bool)) 1 (.Z 1)) (.Z 4)))))
theorem aRL:bW Tryz.prog [fC] nY false 3000 ⟨[(2991,3001,jV 19 13++[.dr 0,.dr 1,.tm 6 0,.sl 7]),(2977,15006,[.tm 8 0,.sl 10]),(2991,2001,jV 19 13++[.dr 0,.dr 1,.tm 6 0,.sl 7,.bx 5 2]),(2977,14006,[.tm 8 0,.sl 10,.bx 5 2])],[(2971,47013,[],[10]),(2971,23010,[],[10]),(2971,46013,[],[10]),(2971,22010,[],[10])]⟩ = .ok yJ:=by kernel_rfl
theorem aRQ (x:jB × jB) (hx:okD (.bPW bJ bJ) x) (hp:(fun x=>oS x.1∧oS x.2) x):yJ.wp [fC] [⟨(.bPW bJ bJ),x⟩] [] (fun v=>v.as bJ=(fun x=>nU x.1 x.2) x):=by
 obtain ⟨⟨a,la,sa⟩,⟨b,lb,sb⟩⟩:=x
 obtain ⟨⟨ha,ha'⟩,⟨hb,hb'⟩⟩:oS (a,la,sa)∧oS (b,lb,sb):=hp
 dsimp only at ha ha' hb hb'
 delta yJ fC;refine dY ?_
 constructor
 ·intro hsat
  refine ⟨fun s=>∃ k:Nat,k≤a.length∧k≤b.length∧s=((k:Int),(eY a b).take k),fun s=>a.length - (s.1:Int).toNat,⟨0,by omega,by omega,by simp⟩,fun s _ hI=>?_⟩
  obtain ⟨k,hk1,hk2,rfl⟩:=hI
  dsimp only
  refine eD ?_
  have fin:a.length≤k∨b.length≤k→∀ r:Int × Bool,r=fD la lb→((eY a b).take k,(r.1,true))=nU (a,la,sa) (b,lb,sb):=fun h r hr=>by
   rw[hr,aG2 (by rw[nL];omega)]
   unfold nU
   dsimp only at hsat ⊢
   rw[hsat]
   simp
  (repeat' first|intro _|(with_reducible apply And.intro))
  rotate_left
  ·exact fin (by omega) _ rfl
  ·exact fin (by omega) _ rfl
  have h1:k<a.length:=by omega
  have h2:k<b.length:=by omega
  simp only[aW h1,aW h2]
  have mA:=ha' _ (List.getElem_mem h1)
  have mB:=hb' _ (List.getElem_mem h2)
  have e0:=aFB a b h1 h2
  generalize a[k]=A at *
  generalize b[k]=B at *
  refine ⟨fun s=>∃ j:Nat,j≤A.length∧j≤B.length∧s=((j:Int),(xL A B).take j),fun s=>A.length - (s.1:Int).toNat,⟨0,by omega,by omega,by simp⟩,fun s _ hI=>?_⟩
  obtain ⟨j,hj1,hj2,rfl⟩:=hI
  dsimp only
  refine eD ?_
  have hl:List.length ((xL A B).take j)=j:=by rw[List.length_take,aB3];omega
  have hl2:List.length ((eY a b).take k)=k:=by rw[List.length_take,nL];omega
  have out:A.length≤j∨B.length≤j→(eY a b).take k++[(xL A B).take j]=(eY a b).take (k+1):=fun h=>by
   rw[aG2 (l:=xL A B) (by rw[aB3];omega)];exact e0
  (repeat' first|intro _|(with_reducible apply And.intro))
  all_goals first|omega|(unfold maxLen;omega)|(exact ⟨j+1,by omega,by omega,by rw[aW (show j<A.length by omega),aW (show j<B.length by omega),aOM A B (by omega) (by omega)];rfl⟩)|(exact ⟨k+1,by omega,by omega,by rw[out (by omega)];rfl⟩)
 ·intro hsat
  refine ⟨fun s=>∃ k:Nat,k≤a.length∧k≤b.length∧s=((k:Int),(eY a b).take k,sb || tH a b k),fun s=>a.length - (s.1:Int).toNat,⟨0,by omega,by omega,by simp[tH]⟩,fun s _ hI=>?_⟩
  obtain ⟨k,hk1,hk2,rfl⟩:=hI
  dsimp only
  refine eD ?_
  have fin:a.length≤k∨b.length≤k→∀ r:Int × Bool,r=fD la lb→((eY a b).take k,(r.1,(sb || tH a b k) || r.2))=nU (a,la,sa) (b,lb,sb):=fun h r hr=>by
   rw[hr,aG2 (by rw[nL];omega),bEO a b (by omega)]
   unfold nU
   dsimp only at hsat ⊢
   rw[hsat]
   simp
  (repeat' first|intro _|(with_reducible apply And.intro))
  rotate_left
  ·rw[show (sb || tH a b k)=true by assumption] at fin;exact fin (by omega) _ rfl
  ·rw[show (sb || tH a b k)=false by assumption] at fin;exact fin (by omega) _ rfl
  ·rw[show (sb || tH a b k)=true by assumption] at fin;exact fin (by omega) _ rfl
  ·rw[show (sb || tH a b k)=false by assumption] at fin;exact fin (by omega) _ rfl
  have h1:k<a.length:=by omega
  have h2:k<b.length:=by omega
  simp only[aW h1,aW h2]
  have mA:=ha' _ (List.getElem_mem h1)
  have mB:=hb' _ (List.getElem_mem h2)
  have e0:=aFB a b h1 h2
  have e1:(sb || tH a b (k+1))=((sb || tH a b k) || bDR a[k] b[k]):=by rw[aYB a b h1 h2,Bool.or_assoc]
  clear fin
  generalize (sb || tH a b k)=f0 at *
  generalize a[k]=A at *
  generalize b[k]=B at *
  refine ⟨fun s=>∃ j:Nat,j≤A.length∧j≤B.length∧s=((j:Int),(xL A B).take j,f0 || aFI A B j),fun s=>A.length - (s.1:Int).toNat,⟨0,by omega,by omega,by simp[aFI]⟩,fun s _ hI=>?_⟩
  obtain ⟨j,hj1,hj2,rfl⟩:=hI
  dsimp only
  refine eD ?_
  have hl:List.length ((xL A B).take j)=j:=by rw[List.length_take,aB3];omega
  have hl2:List.length ((eY a b).take k)=k:=by rw[List.length_take,nL];omega
  have out:A.length≤j∨B.length≤j→((eY a b).take k++[(xL A B).take j],f0 || aFI A B j)=((eY a b).take (k+1),sb || tH a b (k+1)):=fun h=>by
   rw[aG2 (l:=xL A B) (by rw[aB3];omega),e0,e1,bDZ A B (by omega)]
  (repeat' first|intro _|(with_reducible apply And.intro))
  all_goals first|omega|(unfold maxLen;omega)|skip
  all_goals first|(exact ⟨k+1,by omega,by omega,by rw[← out (by omega)];rfl⟩)|(refine ⟨j+1,by omega,by omega,?_⟩)
  all_goals rw[aW (show j<A.length by omega),aW (show j<B.length by omega),aOM A B (by omega) (by omega),aYQ A B (by omega) (by omega),← Bool.or_assoc]
  ·rw[show (f0 || aFI A B j)=true by assumption];rfl
  ·rw[show (f0 || aFI A B j)=false by assumption];rfl
theorem aRP:Con.Holds Tryz.prog nY:=aX aZ (aG yQ aT) aRL aRQ
noncomputable def cJ:Con:=⟨32,(.bPW tI aD),.bool,[.val ⟨false,tI,[]⟩,.val ⟨false,tI,[]⟩,.val ⟨false,tI,[]⟩],[⟨false,.bool,[0]⟩],false,none,
 ((fun _=>True):(Int × cP)→Prop),
 ((fun x=>decide (x.2.1≤x.1)&&decide (x.1≤x.2.2)):(Int × cP)→(Bool))⟩
def aLX:T :=
 .bPX (.cmp .geq .i64) (.bPY tI tI (.p1 tI aD (.Z 0)) (aH (.bPW tI aD) 1 (.Z 0))) <|
 .ite (.Z 1) (
  .bPX (.cmp .leq .i64) (.bPY tI tI (.p1 tI aD (.Z 0)) (aS (.bPW tI aD) 2 (.Z 0))) <|
  .ret (.Z 2)) (
  .ret (.cb false))
theorem bGD:bW Tryz.prog [] cJ false 3000 ⟨[],[]⟩ = .ok aLX:=by kernel_rfl
theorem bJ9 (x:Int × cP) (hx:okD (.bPW tI aD) x) (hp:(fun _=>True) x):aLX.wp [] [⟨(.bPW tI aD),x⟩] [] (fun v=>v.as .bool=(fun x=>decide (x.2.1≤x.1)&&decide (x.1≤x.2.2)) x):=by
 delta aLX;refine dY ?_
 refine eD ?_
 constructor
 ·intro h;simp[h]
 ·intro h
  have:¬ x.2.1≤x.1:=by omega
  simp[this]
theorem kF:Con.Holds Tryz.prog cJ:=aX aZ aT bGD bJ9
end Go.Proofs.YtpafjioccjpmfaaGreat
