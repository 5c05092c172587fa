/- Gr2: lemmas. No conditions. -/
import Derived.Test.YtabamggdmdednaaGreatFix2
namespace Go.Proofs.YtabamggdmdednaaGreat
noncomputable section
set_option maxRecDepth 100000
open Go.ChangeShapes Go.WideShapes Go.ChangeAt Go.RowKit Go.Deep
set_option linter.unusedVariables false
set_option linter.unusedSimpArgs false
def rJ (a b:List Int):List Int:=List.zipWith (fun x y=>(dP x y).1) a b
def aTP (a b:List Int):Bool:=(a.zip b).any fun p=>(dP p.1 p.2).2
def eC (a b:List (List Int)):List (List Int):=List.zipWith rJ a b
def aO5 (a b:List (List Int)):Bool:=(a.zip b).any fun p=>aTP p.1 p.2
def iJ (a b:eZ):eZ:=(eC a.1 b.1,((dP a.2.1 b.2.1).1,a.2.2 || b.2.2 || aO5 a.1 b.1 || (dP a.2.1 b.2.1).2))
theorem bQN {α β γ:Type} (f:α→β→γ) (a:List α) (b:List β):(List.zipWith f a b).length=min a.length b.length:=List.length_zipWith
theorem bG5 {α β γ:Type} (f:α→β→γ) (a:List α) (b:List β) {k:Nat} (h1:k<a.length) (h2:k<b.length):(List.zipWith f a b).take k++[f a[k] b[k]]=(List.zipWith f a b).take (k+1):=by
 have h:k<(List.zipWith f a b).length:=by rw[bQN];omega
 rw[List.take_succ_eq_append_getElem h,List.getElem_zipWith]
theorem bEV {α β:Type} (F:α × β→Bool) (a:List α) (b:List β) {k:Nat} (h1:k<a.length) (h2:k<b.length):((a.zip b).take (k+1)).any F=(((a.zip b).take k).any F || F (a[k],b[k])):=by
 have h:k<(a.zip b).length:=by rw[List.length_zip];omega
 rw[List.take_succ_eq_append_getElem h,List.any_append]
 simp
theorem bM2 {α β:Type} (a:List α) (b:List β) {k:Nat} (h:min a.length b.length≤k):(a.zip b).take k=a.zip b:=List.take_of_length_le (by rw[List.length_zip];exact h)
def jS (g:eZ):Prop:=g.1.length≤1000000000∧∀ r∈g.1,r.length≤1000000000
theorem rV {α:Type} {l:List α} {k:Nat} (h:l.length≤k):l.take k=l:=List.take_of_length_le h
theorem kD (a b:List (List Int)):(eC a b).length=min a.length b.length:=List.length_zipWith
theorem tD (a b:List Int):(rJ a b).length=min a.length b.length:=List.length_zipWith
theorem aIN (a b:List Int) {k:Nat} (h1:k<a.length) (h2:k<b.length):(rJ a b).take k++[(dP a[k] b[k]).1]=(rJ a b).take (k+1):=bG5 _ a b h1 h2
theorem rU (a b:List (List Int)) {k:Nat} (h1:k<a.length) (h2:k<b.length):(eC a b).take k++[rJ a[k] b[k]]=(eC a b).take (k+1):=bG5 _ a b h1 h2
def vP (a b:List Int) (k:Nat):Bool:=((a.zip b).take k).any fun p=>(dP p.1 p.2).2
def mO (a b:List (List Int)) (k:Nat):Bool:=((a.zip b).take k).any fun p=>aTP p.1 p.2
theorem aME (a b:List Int) {k:Nat} (h1:k<a.length) (h2:k<b.length):vP a b (k+1)=(vP a b k || (dP a[k] b[k]).2):=bEV _ a b h1 h2
theorem aMG (a b:List (List Int)) {k:Nat} (h1:k<a.length) (h2:k<b.length):mO a b (k+1)=(mO a b k || aTP a[k] b[k]):=bEV _ a b h1 h2
theorem aRI (a b:List Int) {k:Nat} (h:min a.length b.length≤k):vP a b k=aTP a b:=by unfold vP aTP;rw[bM2 a b h]
theorem aR3 (a b:List (List Int)) {k:Nat} (h:min a.length b.length≤k):mO a b k=aO5 a b:=by unfold mO aO5;rw[bM2 a b h]
def mQ:Con:=⟨99,aX,aX,[.val ⟨true,aX,[]⟩],[⟨true,aX,[2,0,0]⟩],false,none,
 ((fun x=>jS x):(eZ)→Prop),
 ((fun x=>x):(eZ)→(eZ))⟩
def wB:T:=.call 0 (.p1 aL (.bRW tI .bool) (.Z 0)) <|.ret (.bRY aL (.bRW tI .bool) (.Z 1) (aP aX 1 (.Z 0)))
theorem aP1:bI Tryz.prog [eW] mQ false 3000 ⟨[],[]⟩ = .ok wB:=by kernel_rfl
theorem aQB (x:eZ) (hx:okD aX x) (hp:(fun x=>jS x) x):wB.wp [eW] [⟨aX,x⟩] [] (fun v=>v.as aX=(fun x=>x) x):=by
 have hp:jS x:=hp
 delta wB eW;refine cW ?_
 exact ⟨hp,fun _=>by first|rfl|trivial⟩
theorem aPM:Con.Holds Tryz.prog mQ:=aS aV (aI zW aQ) aP1 aQB
def nY:Con:=⟨111,(.bRW aX aX),aX,[.val ⟨true,aX,[]⟩,.val ⟨true,aX,[]⟩],[⟨true,aX,[2,0,0]⟩],false,none,
 ((fun x=>jS x.1∧jS x.2):(eZ × eZ)→Prop),
 ((fun x=>iJ x.1 x.2):(eZ × eZ)→(eZ))⟩
def yT:T:=.ite (aP aX 2 (.p1 aX aX (.Z 0))) (.loop aF (.bRY tI aL (.ci .i64 0) (.nl 119 aB)) <|
  .bRX (.bS0 119 aB) (.p1 aL (.bRW tI .bool) (.p1 aX aX (.Z 0))) <|
  .bRX (.cmp .lss .i64) (.bRY tI tI (.p1 tI aL (.Z 1)) (.Z 2)) <|
  .ite (.Z 3) (
   .bRX (.bS0 119 aB) (aK (.bRW aX aX) 1 (.Z 0)) <|
   .bRX (.cmp .lss .i64) (.bRY tI tI (.p1 tI aL (.Z 1)) (.Z 4)) <|
   .ite (.Z 5) (
    .loop aH (.bRY tI aB (.ci .i64 0) (.nl 3 tI)) <|
     .bRX (.bS1 119 aB) (.bRY aL tI (.p1 aL (.bRW tI .bool) (.p1 aX aX (.Z 0))) (.p1 tI aL (.Z 1))) <|
     .bRX (.bS0 3 tI) (.Z 7) <|
     .bRX (.cmp .lss .i64) (.bRY tI tI (.p1 tI aB (.Z 6)) (.Z 8)) <|
     .ite (.Z 9) (
      .bRX (.bS1 119 aB) (.bRY aL tI (aK (.bRW aX aX) 1 (.Z 0)) (.p1 tI aL (.Z 1))) <|
      .bRX (.bS0 3 tI) (.Z 10) <|
      .bRX (.cmp .lss .i64) (.bRY tI tI (.p1 tI aB (.Z 6)) (.Z 11)) <|
      .ite (.Z 12) (
       .bRX (.bS1 119 aB) (.bRY aL tI (.p1 aL (.bRW tI .bool) (.p1 aX aX (.Z 0))) (.p1 tI aL (.Z 1))) <|
       .bRX (.bS1 3 tI) (.bRY aB tI (.Z 13) (.p1 tI aB (.Z 6))) <|
       .bRX (.bS1 119 aB) (.bRY aL tI (aK (.bRW aX aX) 1 (.Z 0)) (.p1 tI aL (.Z 1))) <|
       .bRX (.bS1 3 tI) (.bRY aB tI (.Z 15) (.p1 tI aB (.Z 6))) <|
       .call 0 (.bRY tI tI (.Z 14) (.Z 16)) <|
       .bRX (.lit 3 tI 1) (.p1 tI .bool (.Z 17)) <|
       .bRX (.bS3 3 tI 8) (.bRY aB aB (aP aH 1 (.Z 6)) (.Z 18)) <|
       .bRX (.ar .add .i64) (.bRY tI tI (.p1 tI aB (.Z 6)) (.ci .i64 1)) <|
       .bRZ 0 (.bRY tI aB (.Z 20) (.Z 19))) (
       .bRX (.lit 119 aB 1) (aP aH 1 (.Z 6)) <|
       .bRX (.bS3 119 aB 24) (.bRY aL aL (aP aF 1 (.Z 1)) (.Z 13)) <|
       .bRX (.ar .add .i64) (.bRY tI tI (.p1 tI aL (.Z 1)) (.ci .i64 1)) <|
       .bRZ 1 (.bRY tI aL (.Z 15) (.Z 14)))) (
      .bRX (.lit 119 aB 1) (aP aH 1 (.Z 6)) <|
      .bRX (.bS3 119 aB 24) (.bRY aL aL (aP aF 1 (.Z 1)) (.Z 10)) <|
      .bRX (.ar .add .i64) (.bRY tI tI (.p1 tI aL (.Z 1)) (.ci .i64 1)) <|
      .bRZ 1 (.bRY tI aL (.Z 12) (.Z 11)))) (
    .call 0 (.bRY tI tI (aK aX 1 (.p1 aX aX (.Z 0))) (aK (.bRW aX aX) 2 (.Z 0))) <|
    .ret (bB aX [(aP aF 1 (.Z 1)),(.p1 tI .bool (.Z 6)),(.cb true)]))) (
   .call 0 (.bRY tI tI (aK aX 1 (.p1 aX aX (.Z 0))) (aK (.bRW aX aX) 2 (.Z 0))) <|
   .ret (bB aX [(aP aF 1 (.Z 1)),(.p1 tI .bool (.Z 4)),(.cb true)]))) (
 .loop (.bRW tI (.bRW aL .bool)) (bB (.bRW tI (.bRW aL .bool)) [(.ci .i64 0),(.nl 119 aB),(aP (.bRW aX aX) 3 (.Z 0))]) <|
  .bRX (.bS0 119 aB) (.p1 aL (.bRW tI .bool) (.p1 aX aX (.Z 0))) <|
  .bRX (.cmp .lss .i64) (.bRY tI tI (.p1 tI (.bRW aL .bool) (.Z 1)) (.Z 2)) <|
  .ite (.Z 3) (
   .bRX (.bS0 119 aB) (aK (.bRW aX aX) 1 (.Z 0)) <|
   .bRX (.cmp .lss .i64) (.bRY tI tI (.p1 tI (.bRW aL .bool) (.Z 1)) (.Z 4)) <|
   .ite (.Z 5) (
    .loop (.bRW tI (.bRW aB .bool)) (bB (.bRW tI (.bRW aB .bool)) [(.ci .i64 0),(.nl 3 tI),(aP (.bRW tI (.bRW aL .bool)) 2 (.Z 1))]) <|
     .bRX (.bS1 119 aB) (.bRY aL tI (.p1 aL (.bRW tI .bool) (.p1 aX aX (.Z 0))) (.p1 tI (.bRW aL .bool) (.Z 1))) <|
     .bRX (.bS0 3 tI) (.Z 7) <|
     .bRX (.cmp .lss .i64) (.bRY tI tI (.p1 tI (.bRW aB .bool) (.Z 6)) (.Z 8)) <|
     .ite (.Z 9) (
      .bRX (.bS1 119 aB) (.bRY aL tI (aK (.bRW aX aX) 1 (.Z 0)) (.p1 tI (.bRW aL .bool) (.Z 1))) <|
      .bRX (.bS0 3 tI) (.Z 10) <|
      .bRX (.cmp .lss .i64) (.bRY tI tI (.p1 tI (.bRW aB .bool) (.Z 6)) (.Z 11)) <|
      .ite (.Z 12) (
       .bRX (.bS1 119 aB) (.bRY aL tI (.p1 aL (.bRW tI .bool) (.p1 aX aX (.Z 0))) (.p1 tI (.bRW aL .bool) (.Z 1))) <|
       .bRX (.bS1 3 tI) (.bRY aB tI (.Z 13) (.p1 tI (.bRW aB .bool) (.Z 6))) <|
       .bRX (.bS1 119 aB) (.bRY aL tI (aK (.bRW aX aX) 1 (.Z 0)) (.p1 tI (.bRW aL .bool) (.Z 1))) <|
       .bRX (.bS1 3 tI) (.bRY aB tI (.Z 15) (.p1 tI (.bRW aB .bool) (.Z 6))) <|
       .call 0 (.bRY tI tI (.Z 14) (.Z 16)) <|
       .bRX (.lit 3 tI 1) (.p1 tI .bool (.Z 17)) <|
       .bRX (.bS3 3 tI 8) (.bRY aB aB (aK (.bRW tI (.bRW aB .bool)) 1 (.Z 6)) (.Z 18)) <|
       .ite (aP (.bRW tI (.bRW aB .bool)) 2 (.Z 6)) (
        .bRX (.ar .add .i64) (.bRY tI tI (.p1 tI (.bRW aB .bool) (.Z 6)) (.ci .i64 1)) <|
        .bRZ 0 (bB (.bRW tI (.bRW aB .bool)) [(.Z 20),(.Z 19),(.cb true)])) (
        .bRX (.ar .add .i64) (.bRY tI tI (.p1 tI (.bRW aB .bool) (.Z 6)) (.ci .i64 1)) <|
        .bRZ 0 (bB (.bRW tI (.bRW aB .bool)) [(.Z 20),(.Z 19),(aP (.bRW tI .bool) 1 (.Z 17))]))) (
       .bRX (.lit 119 aB 1) (aK (.bRW tI (.bRW aB .bool)) 1 (.Z 6)) <|
       .bRX (.bS3 119 aB 24) (.bRY aL aL (aK (.bRW tI (.bRW aL .bool)) 1 (.Z 1)) (.Z 13)) <|
       .bRX (.ar .add .i64) (.bRY tI tI (.p1 tI (.bRW aL .bool) (.Z 1)) (.ci .i64 1)) <|
       .bRZ 1 (bB (.bRW tI (.bRW aL .bool)) [(.Z 15),(.Z 14),(aP (.bRW tI (.bRW aB .bool)) 2 (.Z 6))]))) (
      .bRX (.lit 119 aB 1) (aK (.bRW tI (.bRW aB .bool)) 1 (.Z 6)) <|
      .bRX (.bS3 119 aB 24) (.bRY aL aL (aK (.bRW tI (.bRW aL .bool)) 1 (.Z 1)) (.Z 10)) <|
      .bRX (.ar .add .i64) (.bRY tI tI (.p1 tI (.bRW aL .bool) (.Z 1)) (.ci .i64 1)) <|
      .bRZ 1 (bB (.bRW tI (.bRW aL .bool)) [(.Z 12),(.Z 11),(aP (.bRW tI (.bRW aB .bool)) 2 (.Z 6))]))) (
    .call 0 (.bRY tI tI (aK aX 1 (.p1 aX aX (.Z 0))) (aK (.bRW aX aX) 2 (.Z 0))) <|
    .ite (aP (.bRW tI (.bRW aL .bool)) 2 (.Z 1)) (
     .ret (bB aX [(aK (.bRW tI (.bRW aL .bool)) 1 (.Z 1)),(.p1 tI .bool (.Z 6)),(.cb true)])) (
     .ret (.bRY aL (.bRW tI .bool) (aK (.bRW tI (.bRW aL .bool)) 1 (.Z 1)) (.Z 6))))) (
   .call 0 (.bRY tI tI (aK aX 1 (.p1 aX aX (.Z 0))) (aK (.bRW aX aX) 2 (.Z 0))) <|
   .ite (aP (.bRW tI (.bRW aL .bool)) 2 (.Z 1)) (
    .ret (bB aX [(aK (.bRW tI (.bRW aL .bool)) 1 (.Z 1)),(.p1 tI .bool (.Z 4)),(.cb true)])) (
    .ret (.bRY aL (.bRW tI .bool) (aK (.bRW tI (.bRW aL .bool)) 1 (.Z 1)) (.Z 4)))))
theorem aTN:bI Tryz.prog [eT] nY false 3000 ⟨[(2991,3001,gQ 19 13++[.dr 0,.dr 1,.tm 6 0,.sl 7]),(2977,15006,[.tm 8 0,.sl 10]),(2991,2001,gQ 19 13++[.dr 0,.dr 1,.tm 6 0,.sl 7,.bx 5 2]),(2977,14006,[.tm 8 0,.sl 10,.bx 5 2])],[(2971,47013,[],[10]),(2971,23010,[],[10]),(2971,46013,[],[10]),(2971,22010,[],[10])]⟩ = .ok yT:=by kernel_rfl
theorem aSB (x:eZ × eZ) (hx:okD (.bRW aX aX) x) (hp:(fun x=>jS x.1∧jS x.2) x):yT.wp [eT] [⟨(.bRW aX aX),x⟩] [] (fun v=>v.as aX=(fun x=>iJ x.1 x.2) x):=by
 obtain ⟨⟨a,la,sa⟩,⟨b,lb,sb⟩⟩:=x
 obtain ⟨⟨ha,ha'⟩,⟨hb,hb'⟩⟩:jS (a,la,sa)∧jS (b,lb,sb):=hp
 dsimp only at ha ha' hb hb'
 delta yT eT;refine cW ?_
 constructor
 ·intro hsat
  refine ⟨fun s=>∃ k:Nat,k≤a.length∧k≤b.length∧s=((k:Int),(eC a b).take k),fun s=>a.length - (s.1:Int).toNat,⟨0,by omega,by omega,by simp⟩,fun s _ hI=>?_⟩
  obtain ⟨k,hk1,hk2,rfl⟩:=hI
  dsimp only
  refine dB ?_
  have fin:a.length≤k∨b.length≤k→∀ r:Int × Bool,r=dP la lb→((eC a b).take k,(r.1,true))=iJ (a,la,sa) (b,lb,sb):=fun h r hr=>by
   rw[hr,rV (by rw[kD];omega)]
   unfold iJ
   dsimp only at hsat ⊢
   rw[hsat]
   simp
  (repeat' first|intro _|(with_reducible apply And.intro))
  rotate_left
  ·exact fin (by omega) _ rfl
  ·exact fin (by omega) _ rfl
  have h1:k<a.length:=by omega
  have h2:k<b.length:=by omega
  simp only[aZ h1,aZ h2]
  have mA:=ha' _ (List.getElem_mem h1)
  have mB:=hb' _ (List.getElem_mem h2)
  have e0:=rU a b h1 h2
  generalize a[k]=A at *
  generalize b[k]=B at *
  refine ⟨fun s=>∃ j:Nat,j≤A.length∧j≤B.length∧s=((j:Int),(rJ A B).take j),fun s=>A.length - (s.1:Int).toNat,⟨0,by omega,by omega,by simp⟩,fun s _ hI=>?_⟩
  obtain ⟨j,hj1,hj2,rfl⟩:=hI
  dsimp only
  refine dB ?_
  have hl:List.length ((rJ A B).take j)=j:=by rw[List.length_take,tD];omega
  have hl2:List.length ((eC a b).take k)=k:=by rw[List.length_take,kD];omega
  have out:A.length≤j∨B.length≤j→(eC a b).take k++[(rJ A B).take j]=(eC a b).take (k+1):=fun h=>by
   rw[rV (l:=rJ A B) (by rw[tD];omega)];exact e0
  (repeat' first|intro _|(with_reducible apply And.intro))
  all_goals first|omega|(unfold maxLen;omega)|(exact ⟨j+1,by omega,by omega,by rw[aZ (show j<A.length by omega),aZ (show j<B.length by omega),aIN A B (by omega) (by omega)];rfl⟩)|(exact ⟨k+1,by omega,by omega,by rw[out (by omega)];rfl⟩)
 ·intro hsat
  refine ⟨fun s=>∃ k:Nat,k≤a.length∧k≤b.length∧s=((k:Int),(eC a b).take k,sb || mO a b k),fun s=>a.length - (s.1:Int).toNat,⟨0,by omega,by omega,by simp[mO]⟩,fun s _ hI=>?_⟩
  obtain ⟨k,hk1,hk2,rfl⟩:=hI
  dsimp only
  refine dB ?_
  have fin:a.length≤k∨b.length≤k→∀ r:Int × Bool,r=dP la lb→((eC a b).take k,(r.1,(sb || mO a b k) || r.2))=iJ (a,la,sa) (b,lb,sb):=fun h r hr=>by
   rw[hr,rV (by rw[kD];omega),aR3 a b (by omega)]
   unfold iJ
   dsimp only at hsat ⊢
   rw[hsat]
   simp
  (repeat' first|intro _|(with_reducible apply And.intro))
  rotate_left
  ·rw[show (sb || mO a b k)=true by assumption] at fin;exact fin (by omega) _ rfl
  ·rw[show (sb || mO a b k)=false by assumption] at fin;exact fin (by omega) _ rfl
  ·rw[show (sb || mO a b k)=true by assumption] at fin;exact fin (by omega) _ rfl
  ·rw[show (sb || mO a b k)=false by assumption] at fin;exact fin (by omega) _ rfl
  have h1:k<a.length:=by omega
  have h2:k<b.length:=by omega
  simp only[aZ h1,aZ h2]
  have mA:=ha' _ (List.getElem_mem h1)
  have mB:=hb' _ (List.getElem_mem h2)
  have e0:=rU a b h1 h2
  have e1:(sb || mO a b (k+1))=((sb || mO a b k) || aTP a[k] b[k]):=by rw[aMG a b h1 h2,Bool.or_assoc]
  clear fin
  generalize (sb || mO a b k)=f0 at *
  generalize a[k]=A at *
  generalize b[k]=B at *
  refine ⟨fun s=>∃ j:Nat,j≤A.length∧j≤B.length∧s=((j:Int),(rJ A B).take j,f0 || vP A B j),fun s=>A.length - (s.1:Int).toNat,⟨0,by omega,by omega,by simp[vP]⟩,fun s _ hI=>?_⟩
  obtain ⟨j,hj1,hj2,rfl⟩:=hI
  dsimp only
  refine dB ?_
  have hl:List.length ((rJ A B).take j)=j:=by rw[List.length_take,tD];omega
  have hl2:List.length ((eC a b).take k)=k:=by rw[List.length_take,kD];omega
  have out:A.length≤j∨B.length≤j→((eC a b).take k++[(rJ A B).take j],f0 || vP A B j)=((eC a b).take (k+1),sb || mO a b (k+1)):=fun h=>by
   rw[rV (l:=rJ A B) (by rw[tD];omega),e0,e1,aRI A B (by omega)]
  (repeat' first|intro _|(with_reducible apply And.intro))
  all_goals first|omega|(unfold maxLen;omega)|skip
  all_goals first|(exact ⟨k+1,by omega,by omega,by rw[← out (by omega)];rfl⟩)|(refine ⟨j+1,by omega,by omega,?_⟩)
  all_goals rw[aZ (show j<A.length by omega),aZ (show j<B.length by omega),aIN A B (by omega) (by omega),aME A B (by omega) (by omega),← Bool.or_assoc]
  ·rw[show (f0 || vP A B j)=true by assumption];rfl
  ·rw[show (f0 || vP A B j)=false by assumption];rfl
theorem aU8:Con.Holds Tryz.prog nY:=aS aV (aI yV aQ) aTN aSB
def gI:Con:=⟨166,tI,(.bRW tI .bool),[.val ⟨false,tI,[]⟩],[⟨false,tI,[0]⟩,⟨false,.bool,[0]⟩],false,none,
 ((fun _=>True):(Int)→Prop),
 ((fun x=>aOF x):(Int)→(Int × Bool))⟩
def aIO:T :=
 .bRX (.cmp .gtr .i64) (.bRY tI tI (.Z 0) (.ci .i64 2147483647)) <|
 .ite (.Z 1) (
  .ret (.bRY tI .bool (.ci .i64 2147483647) (.cb true))) (
  .bRX (.cmp .lss .i64) (.bRY tI tI (.Z 0) (.ci .i64 (-2147483647))) <|
  .ite (.Z 2) (
   .ret (.bRY tI .bool (.ci .i64 (-2147483647)) (.cb true))) (
   .ret (.bRY tI .bool (.Z 0) (.cb false))))
theorem bGW:bI Tryz.prog [] gI false 3000 ⟨[],[]⟩ = .ok aIO:=by kernel_rfl
theorem bI5 (x:Int) (hx:okD tI x) (hp:(fun _=>True) x):aIO.wp [] [⟨tI,x⟩] [] (fun v=>v.as (.bRW tI .bool)=(fun x=>aOF x) x):=by
 delta aIO;refine cW ?_
 unfold aOF eI
 refine dB ?_
 refine ⟨fun h=>?_,fun h=>⟨fun h2=>?_,fun h2=>?_⟩⟩
 ·have:min (max x (-2147483647)) 2147483647=2147483647:=by omega
  rw[this];simp;omega
 ·have:min (max x (-2147483647)) 2147483647 = -2147483647:=by omega
  rw[this];simp;omega
 ·have:min (max x (-2147483647)) 2147483647=x:=by omega
  rw[this];simp
theorem aDK:Con.Holds Tryz.prog gI:=aS aV aQ bGW bI5
def jE:Con:=⟨167,tI,tI,[.val ⟨false,tI,[]⟩],[⟨false,tI,[0]⟩],false,none,
 ((fun _=>True):(Int)→Prop),
 ((fun x=>eI x):(Int)→(Int))⟩
def aMY:T:=.call 0 (.Z 0) <|.ret (.p1 tI .bool (.Z 1))
theorem bJX:bI Tryz.prog [gI] jE false 3000 ⟨[],[]⟩ = .ok aMY:=by kernel_rfl
theorem bKJ (x:Int) (hx:okD tI x) (hp:(fun _=>True) x):aMY.wp [gI] [⟨tI,x⟩] [] (fun v=>v.as tI=(fun x=>eI x) x):=by
 delta aMY gI;refine cW ?_
 exact fun _=>rfl
theorem aHE:Con.Holds Tryz.prog jE:=aS aV (aI aDK aQ) bJX bKJ
def dT:Con:=⟨150,aD,(.bRW tI .bool),[.val ⟨false,tI,[]⟩,.val ⟨false,tI,[]⟩],[⟨false,tI,[0]⟩,⟨false,.bool,[0]⟩],false,none,
 ((fun _=>True):(Int × Int)→Prop),
 ((fun x=>dP x.1 x.2):(Int × Int)→(Int × Bool))⟩
def aFK:T:=.call 0 (.p1 tI tI (.Z 0)) <|.call 0 (aP aD 1 (.Z 0)) <|
 .bRX (.ar .add .i64) (.bRY tI tI (.Z 1) (.Z 2)) <|
 .call 1 (.Z 3) <|
 .ret (.Z 4)
theorem bBU:bI Tryz.prog [jE,gI] dT false 3000 ⟨[],[]⟩ = .ok aFK:=by kernel_rfl
theorem bED (x:Int × Int) (hx:okD aD x) (hp:(fun _=>True) x):aFK.wp [jE,gI] [⟨aD,x⟩] [] (fun v=>v.as (.bRW tI .bool)=(fun x=>dP x.1 x.2) x):=by
 delta aFK jE gI;refine cW ?_
 intro _ _
 have h1:=kK x.1
 have h2:=kK x.2
 exact ⟨by omega,fun _ _=>rfl⟩
theorem tB:Con.Holds Tryz.prog dT:=aS aV (aI aHE (aI aDK aQ)) bBU bED
def qT:Con:=⟨144,aL,aL,[.val ⟨false,aL,[]⟩],[⟨false,aL,[2]⟩],false,none,
 ((fun x=>List.length x≤1000000000∧∀ y∈x,List.length y≤1000000000):(cZ)→Prop),
 ((fun x=>x):(cZ)→(cZ))⟩
def aAN:T:=.loop aF (.bRY tI aL (.ci .i64 0) (.nl 119 aB)) <|
 .bRX (.bS0 119 aB) (.Z 0) <|
 .bRX (.cmp .lss .i64) (.bRY tI tI (.p1 tI aL (.Z 1)) (.Z 2)) <|
 .ite (.Z 3) (
  .bRX (.bS1 119 aB) (.bRY aL tI (.Z 0) (.p1 tI aL (.Z 1))) <|
  .bRX (.bS3 3 tI 8) (.bRY aB aB (.nl 3 tI) (.Z 4)) <|
  .bRX (.lit 119 aB 1) (.Z 5) <|
  .bRX (.bS3 119 aB 24) (.bRY aL aL (aP aF 1 (.Z 1)) (.Z 6)) <|
  .bRX (.ar .add .i64) (.bRY tI tI (.p1 tI aL (.Z 1)) (.ci .i64 1)) <|
  .bRZ 0 (.bRY tI aL (.Z 8) (.Z 7))) (
  .ret (aP aF 1 (.Z 1)))
theorem aVA:bI Tryz.prog [] qT false 3000 ⟨[(2991,1001,[.dr 5,.tm 4 0,.on 3,.sl 1])],[(2983,3004,[19],[])]⟩ = .ok aAN:=by kernel_rfl
theorem aVJ (x:cZ) (hx:okD aL x) (hp:(fun x=>List.length x≤1000000000∧∀ y∈x,List.length y≤1000000000) x):aAN.wp [] [⟨aL,x⟩] [] (fun v=>v.as aL=(fun x=>x) x):=by
 obtain ⟨hp1,hp2⟩:List.length x≤1000000000∧∀ y∈x,List.length y≤1000000000:=hp
 delta aAN;refine cW ?_
 refine ⟨fun s=>∃ k:Nat,k≤x.length∧s=((k:Int),x.take k),fun s=>x.length - (s.1:Int).toNat,⟨0,Nat.zero_le _,by simp⟩,fun s hs hI=>?_⟩
 obtain ⟨k,hk,rfl⟩:=hI
 dsimp only
 refine dB ?_
 intro _
 constructor
 ·intro hlt
  have hk':k<x.length:=by omega
  rw[aZ hk']
  have hm:=hp2 _ (List.getElem_mem hk')
  have hl:(x.take k).length=k:=List.length_take_of_le hk
  (repeat' first|intro _|(with_reducible apply And.intro))
  all_goals first|omega|(unfold maxLen;omega)|(exact ⟨k+1,by omega,by rw[iW hk'];rfl⟩)
 ·intro hge
  have:k=x.length:=by omega
  subst this
  show x.take x.length=x
  simp
theorem aW6:Con.Holds Tryz.prog qT:=aS aV aQ aVA aVJ
def xJ:Con:=⟨171,aO,(.bRW aB .bool),[.val ⟨false,aB,[]⟩,.val ⟨false,aB,[]⟩],[⟨false,aB,[2]⟩,⟨false,.bool,[0]⟩],false,none,
 ((fun x=>List.length x.1≤1000000000∧List.length x.2≤1000000000):(bT)→Prop),
 ((fun x=>(rJ x.1 x.2,aTP x.1 x.2)):(bT)→(bK × Bool))⟩
def aIY:T:=.loop (.bRW tI (.bRW .bool aB)) (bB (.bRW tI (.bRW .bool aB)) [(.ci .i64 0),(.cb false),(.nl 3 tI)]) <|
 .bRX (.bS0 3 tI) (.p1 aB aB (.Z 0)) <|
 .bRX (.cmp .lss .i64) (.bRY tI tI (.p1 tI (.bRW .bool aB) (.Z 1)) (.Z 2)) <|
 .ite (.Z 3) (
  .bRX (.bS0 3 tI) (aP aO 1 (.Z 0)) <|
  .bRX (.cmp .lss .i64) (.bRY tI tI (.p1 tI (.bRW .bool aB) (.Z 1)) (.Z 4)) <|
  .ite (.Z 5) (
   .bRX (.bS1 3 tI) (.bRY aB tI (.p1 aB aB (.Z 0)) (.p1 tI (.bRW .bool aB) (.Z 1))) <|
   .bRX (.bS1 3 tI) (.bRY aB tI (aP aO 1 (.Z 0)) (.p1 tI (.bRW .bool aB) (.Z 1))) <|
   .call 0 (.bRY tI tI (.Z 6) (.Z 7)) <|
   .bRX (.lit 3 tI 1) (.p1 tI .bool (.Z 8)) <|
   .bRX (.bS3 3 tI 8) (.bRY aB aB (aP (.bRW tI (.bRW .bool aB)) 2 (.Z 1)) (.Z 9)) <|
   .ite (aK (.bRW tI (.bRW .bool aB)) 1 (.Z 1)) (
    .bRX (.ar .add .i64) (.bRY tI tI (.p1 tI (.bRW .bool aB) (.Z 1)) (.ci .i64 1)) <|
    .bRZ 0 (bB (.bRW tI (.bRW .bool aB)) [(.Z 11),(.cb true),(.Z 10)])) (
    .bRX (.ar .add .i64) (.bRY tI tI (.p1 tI (.bRW .bool aB) (.Z 1)) (.ci .i64 1)) <|
    .bRZ 0 (bB (.bRW tI (.bRW .bool aB)) [(.Z 11),(aP (.bRW tI .bool) 1 (.Z 8)),(.Z 10)]))) (
   .ret (.bRY aB .bool (aP (.bRW tI (.bRW .bool aB)) 2 (.Z 1)) (aK (.bRW tI (.bRW .bool aB)) 1 (.Z 1))))) (
  .ret (.bRY aB .bool (aP (.bRW tI (.bRW .bool aB)) 2 (.Z 1)) (aK (.bRW tI (.bRW .bool aB)) 1 (.Z 1))))
theorem bHV:bI Tryz.prog [dT] xJ false 3000 ⟨[(2989,1001,[.dr 11,.tm 8 0,.tm 7 0,.on 6,.sl 1])],[]⟩ = .ok aIY:=by kernel_rfl
theorem bJ9 (x:bT) (hx:okD aO x) (hp:(fun x=>List.length x.1≤1000000000∧List.length x.2≤1000000000) x):aIY.wp [dT] [⟨aO,x⟩] [] (fun v=>v.as (.bRW aB .bool)=(fun x=>(rJ x.1 x.2,aTP x.1 x.2)) x):=by
 obtain ⟨A,B⟩:=x
 obtain ⟨mA,mB⟩:List.length A≤1000000000∧List.length B≤1000000000:=hp
 delta aIY dT;refine cW ?_
 refine ⟨fun s=>∃ j:Nat,j≤A.length∧j≤B.length∧s=((j:Int),vP A B j,(rJ A B).take j),fun s=>A.length - (s.1:Int).toNat,⟨0,by omega,by omega,by simp[vP]⟩,fun s _ hI=>?_⟩
 obtain ⟨j,hj1,hj2,rfl⟩:=hI
 dsimp only
 refine dB ?_
 have hl:List.length ((rJ A B).take j)=j:=by rw[List.length_take,tD];omega
 have out:A.length≤j∨B.length≤j→((rJ A B).take j,vP A B j)=(rJ A B,aTP A B):=fun h=>by
  rw[rV (l:=rJ A B) (by rw[tD];omega),aRI A B (by omega)]
 (repeat' first|intro _|(with_reducible apply And.intro))
 all_goals first|omega|(unfold maxLen;omega)|(exact out (by omega))|(refine ⟨j+1,by omega,by omega,?_⟩)
 all_goals rw[aZ (show j<A.length by omega),aZ (show j<B.length by omega),aIN A B (by omega) (by omega),aME A B (by omega) (by omega)]
 ·rw[show vP A B j=true by assumption];rfl
 ·rw[show vP A B j=false by assumption];rfl
theorem bHZ:Con.Holds Tryz.prog xJ:=aS aV (aI tB aQ) bHV bJ9
def bL:Con:=⟨72,(.bRW tI aD),.bool,[.val ⟨false,tI,[]⟩,.val ⟨false,tI,[]⟩,.val ⟨false,tI,[]⟩],[⟨false,.bool,[0]⟩],false,none,
 ((fun _=>True):(Int × fX)→Prop),
 ((fun x=>decide (x.2.1≤x.1)&&decide (x.1≤x.2.2)):(Int × fX)→(Bool))⟩
def aOZ:T :=
 .bRX (.cmp .geq .i64) (.bRY tI tI (.p1 tI aD (.Z 0)) (aK (.bRW tI aD) 1 (.Z 0))) <|
 .ite (.Z 1) (
  .bRX (.cmp .leq .i64) (.bRY tI tI (.p1 tI aD (.Z 0)) (aP (.bRW tI aD) 2 (.Z 0))) <|
  .ret (.Z 2)) (
  .ret (.cb false))
theorem bK1:bI Tryz.prog [] bL false 3000 ⟨[],[]⟩ = .ok aOZ:=by kernel_rfl
theorem bKI (x:Int × fX) (hx:okD (.bRW tI aD) x) (hp:(fun _=>True) x):aOZ.wp [] [⟨(.bRW tI aD),x⟩] [] (fun v=>v.as .bool=(fun x=>decide (x.2.1≤x.1)&&decide (x.1≤x.2.2)) x):=by
 delta aOZ;refine cW ?_
 refine dB ?_
 constructor
 ·intro h;simp[h]
 ·intro h
  have:¬ x.2.1≤x.1:=by omega
  simp[this]
theorem eV:Con.Holds Tryz.prog bL:=aS aV aQ bK1 bKI
def oF:Con:=⟨153,(.bRW aX aX),aX,[.val ⟨true,aX,[]⟩,.val ⟨true,aX,[]⟩],[⟨true,aX,[2,0,0]⟩],false,none,
 ((fun x=>jS x.1∧jS x.2):(eZ × eZ)→Prop),
 ((fun x=>iJ x.1 x.2):(eZ × eZ)→(eZ))⟩
def zQ:T:=.ite (aP aX 2 (.p1 aX aX (.Z 0))) (.loop aF (.bRY tI aL (.ci .i64 0) (.nl 119 aB)) <|
  .bRX (.bS0 119 aB) (.p1 aL (.bRW tI .bool) (.p1 aX aX (.Z 0))) <|
  .bRX (.cmp .lss .i64) (.bRY tI tI (.p1 tI aL (.Z 1)) (.Z 2)) <|
  .ite (.Z 3) (
   .bRX (.bS0 119 aB) (aK (.bRW aX aX) 1 (.Z 0)) <|
   .bRX (.cmp .lss .i64) (.bRY tI tI (.p1 tI aL (.Z 1)) (.Z 4)) <|
   .ite (.Z 5) (
    .bRX (.bS1 119 aB) (.bRY aL tI (.p1 aL (.bRW tI .bool) (.p1 aX aX (.Z 0))) (.p1 tI aL (.Z 1))) <|
    .bRX (.bS1 119 aB) (.bRY aL tI (aK (.bRW aX aX) 1 (.Z 0)) (.p1 tI aL (.Z 1))) <|
    .call 0 (.bRY aB aB (.Z 6) (.Z 7)) <|
    .bRX (.lit 119 aB 1) (.p1 aB .bool (.Z 8)) <|
    .bRX (.bS3 119 aB 24) (.bRY aL aL (aP aF 1 (.Z 1)) (.Z 9)) <|
    .bRX (.ar .add .i64) (.bRY tI tI (.p1 tI aL (.Z 1)) (.ci .i64 1)) <|
    .bRZ 0 (.bRY tI aL (.Z 11) (.Z 10))) (
    .call 1 (.bRY tI tI (aK aX 1 (.p1 aX aX (.Z 0))) (aK (.bRW aX aX) 2 (.Z 0))) <|
    .ret (bB aX [(aP aF 1 (.Z 1)),(.p1 tI .bool (.Z 6)),(.cb true)]))) (
   .call 1 (.bRY tI tI (aK aX 1 (.p1 aX aX (.Z 0))) (aK (.bRW aX aX) 2 (.Z 0))) <|
   .ret (bB aX [(aP aF 1 (.Z 1)),(.p1 tI .bool (.Z 4)),(.cb true)]))) (
 .loop (.bRW tI (.bRW aL .bool)) (bB (.bRW tI (.bRW aL .bool)) [(.ci .i64 0),(.nl 119 aB),(aP (.bRW aX aX) 3 (.Z 0))]) <|
  .bRX (.bS0 119 aB) (.p1 aL (.bRW tI .bool) (.p1 aX aX (.Z 0))) <|
  .bRX (.cmp .lss .i64) (.bRY tI tI (.p1 tI (.bRW aL .bool) (.Z 1)) (.Z 2)) <|
  .ite (.Z 3) (
   .bRX (.bS0 119 aB) (aK (.bRW aX aX) 1 (.Z 0)) <|
   .bRX (.cmp .lss .i64) (.bRY tI tI (.p1 tI (.bRW aL .bool) (.Z 1)) (.Z 4)) <|
   .ite (.Z 5) (
    .bRX (.bS1 119 aB) (.bRY aL tI (.p1 aL (.bRW tI .bool) (.p1 aX aX (.Z 0))) (.p1 tI (.bRW aL .bool) (.Z 1))) <|
    .bRX (.bS1 119 aB) (.bRY aL tI (aK (.bRW aX aX) 1 (.Z 0)) (.p1 tI (.bRW aL .bool) (.Z 1))) <|
    .call 0 (.bRY aB aB (.Z 6) (.Z 7)) <|
    .bRX (.lit 119 aB 1) (.p1 aB .bool (.Z 8)) <|
    .bRX (.bS3 119 aB 24) (.bRY aL aL (aK (.bRW tI (.bRW aL .bool)) 1 (.Z 1)) (.Z 9)) <|
    .ite (aP (.bRW tI (.bRW aL .bool)) 2 (.Z 1)) (
     .bRX (.ar .add .i64) (.bRY tI tI (.p1 tI (.bRW aL .bool) (.Z 1)) (.ci .i64 1)) <|
     .bRZ 0 (bB (.bRW tI (.bRW aL .bool)) [(.Z 11),(.Z 10),(.cb true)])) (
     .bRX (.ar .add .i64) (.bRY tI tI (.p1 tI (.bRW aL .bool) (.Z 1)) (.ci .i64 1)) <|
     .bRZ 0 (bB (.bRW tI (.bRW aL .bool)) [(.Z 11),(.Z 10),(aP (.bRW aB .bool) 1 (.Z 8))]))) (
    .call 1 (.bRY tI tI (aK aX 1 (.p1 aX aX (.Z 0))) (aK (.bRW aX aX) 2 (.Z 0))) <|
    .ite (aP (.bRW tI (.bRW aL .bool)) 2 (.Z 1)) (
     .ret (bB aX [(aK (.bRW tI (.bRW aL .bool)) 1 (.Z 1)),(.p1 tI .bool (.Z 6)),(.cb true)])) (
     .ret (.bRY aL (.bRW tI .bool) (aK (.bRW tI (.bRW aL .bool)) 1 (.Z 1)) (.Z 6))))) (
   .call 1 (.bRY tI tI (aK aX 1 (.p1 aX aX (.Z 0))) (aK (.bRW aX aX) 2 (.Z 0))) <|
   .ite (aP (.bRW tI (.bRW aL .bool)) 2 (.Z 1)) (
    .ret (bB aX [(aK (.bRW tI (.bRW aL .bool)) 1 (.Z 1)),(.p1 tI .bool (.Z 4)),(.cb true)])) (
    .ret (.bRY aL (.bRW tI .bool) (aK (.bRW tI (.bRW aL .bool)) 1 (.Z 1)) (.Z 4)))))
theorem aUM:bI Tryz.prog [xJ,dT] oF false 3000 ⟨[(2991,3001,gQ 17 11++[.dr 0,.dr 1,.tm 6 0,.sl 7]),(2991,2001,gQ 17 11++[.dr 0,.dr 1,.tm 6 0,.sl 7,.bx 5 2])],[(2980,15009,[],[8]),(2980,14009,[],[8])]⟩ = .ok zQ:=by kernel_rfl
theorem aUW (x:eZ × eZ) (hx:okD (.bRW aX aX) x) (hp:(fun x=>jS x.1∧jS x.2) x):zQ.wp [xJ,dT] [⟨(.bRW aX aX),x⟩] [] (fun v=>v.as aX=(fun x=>iJ x.1 x.2) x):=by
 obtain ⟨⟨a,la,sa⟩,⟨b,lb,sb⟩⟩:=x
 obtain ⟨⟨ha,ha'⟩,⟨hb,hb'⟩⟩:jS (a,la,sa)∧jS (b,lb,sb):=hp
 dsimp only at ha ha' hb hb'
 delta zQ xJ dT;refine cW ?_
 constructor
 ·intro hsat
  refine ⟨fun s=>∃ k:Nat,k≤a.length∧k≤b.length∧s=((k:Int),(eC a b).take k),fun s=>a.length - (s.1:Int).toNat,⟨0,by omega,by omega,by simp⟩,fun s _ hI=>?_⟩
  obtain ⟨k,hk1,hk2,rfl⟩:=hI
  dsimp only
  refine dB ?_
  have fin:a.length≤k∨b.length≤k→∀ r:Int × Bool,r=dP la lb→((eC a b).take k,(r.1,true))=iJ (a,la,sa) (b,lb,sb):=fun h r hr=>by
   rw[hr,rV (by rw[kD];omega)]
   unfold iJ
   dsimp only at hsat ⊢
   rw[hsat]
   simp
  have hl2:List.length ((eC a b).take k)=k:=by rw[List.length_take,kD];omega
  (repeat' first|intro _|(with_reducible apply And.intro))
  all_goals first|omega|(unfold maxLen;omega)|(exact fin (by omega) _ rfl)|skip
  all_goals have h1:k<a.length:=by omega
  all_goals have h2:k<b.length:=by omega
  all_goals simp only[aZ h1,aZ h2]
  all_goals first|(exact ha' _ (List.getElem_mem h1))|(exact hb' _ (List.getElem_mem h2))|(exact ⟨k+1,by omega,by omega,by rw[rU a b h1 h2];rfl⟩)
 ·intro hsat
  refine ⟨fun s=>∃ k:Nat,k≤a.length∧k≤b.length∧s=((k:Int),(eC a b).take k,sb || mO a b k),fun s=>a.length - (s.1:Int).toNat,⟨0,by omega,by omega,by simp[mO]⟩,fun s _ hI=>?_⟩
  obtain ⟨k,hk1,hk2,rfl⟩:=hI
  dsimp only
  refine dB ?_
  have fin:a.length≤k∨b.length≤k→∀ r:Int × Bool,r=dP la lb→((eC a b).take k,(r.1,(sb || mO a b k) || r.2))=iJ (a,la,sa) (b,lb,sb):=fun h r hr=>by
   rw[hr,rV (by rw[kD];omega),aR3 a b (by omega)]
   unfold iJ
   dsimp only at hsat ⊢
   rw[hsat]
   simp
  have hl2:List.length ((eC a b).take k)=k:=by rw[List.length_take,kD];omega
  (repeat' first|intro _|(with_reducible apply And.intro))
  all_goals first|omega|(unfold maxLen;omega)|skip
  all_goals first|(rw[show (sb || mO a b k)=true by assumption] at fin;exact fin (by omega) _ rfl)|(rw[show (sb || mO a b k)=false by assumption] at fin;exact fin (by omega) _ rfl)|skip
  all_goals have h1:k<a.length:=by omega
  all_goals have h2:k<b.length:=by omega
  all_goals simp only[aZ h1,aZ h2]
  all_goals first|(exact ha' _ (List.getElem_mem h1))|(exact hb' _ (List.getElem_mem h2))|(refine ⟨k+1,by omega,by omega,?_⟩)
  all_goals rw[rU a b h1 h2,aMG a b h1 h2,← Bool.or_assoc]
  ·rw[show (sb || mO a b k)=true by assumption];rfl
  ·rw[show (sb || mO a b k)=false by assumption];rfl
theorem aUC:Con.Holds Tryz.prog oF:=aS aV (aI bHZ (aI tB aQ)) aUM aUW
end
end Go.Proofs.YtabamggdmdednaaGreat
