/- Gr2: lemmas. No conditions. -/
import Derived.Test.YtdeobhdbmehpgaaGreatFix2
namespace Go.Proofs.YtdeobhdbmehpgaaGreat
noncomputable section
set_option maxRecDepth 100000
open Go.ChangeShapes Go.WideShapes Go.ChangeAt Go.RowKit Go.Deep
set_option linter.unusedVariables false
set_option linter.unusedSimpArgs false
def qG (a b:List Int):List Int:=List.zipWith (fun x y=>(dK x y).1) a b
def aP3 (a b:List Int):Bool:=(a.zip b).any fun p=>(dK p.1 p.2).2
def eA (a b:List (List Int)):List (List Int):=List.zipWith qG a b
def aLP (a b:List (List Int)):Bool:=(a.zip b).any fun p=>aP3 p.1 p.2
def gX (a b:dP):dP:=(eA a.1 b.1,((dK a.2.1 b.2.1).1,a.2.2 || b.2.2 || aLP a.1 b.1 || (dK a.2.1 b.2.1).2))
theorem bMT {α β γ:Type} (f:α→β→γ) (a:List α) (b:List β):(List.zipWith f a b).length=min a.length b.length:=List.length_zipWith
theorem bBY {α β γ:Type} (f:α→β→γ) (a:List α) (b:List β) {k:Nat} (h1:k<a.length) (h2:k<b.length):(List.zipWith f a b).take k++[f a[k] b[k]]=(List.zipWith f a b).take (k+1):=by
 have h:k<(List.zipWith f a b).length:=by rw[bMT];omega
 rw[List.take_succ_eq_append_getElem h,List.getElem_zipWith]
theorem bC7 {α β:Type} (F:α × β→Bool) (a:List α) (b:List β) {k:Nat} (h1:k<a.length) (h2:k<b.length):((a.zip b).take (k+1)).any F=(((a.zip b).take k).any F || F (a[k],b[k])):=by
 have h:k<(a.zip b).length:=by rw[List.length_zip];omega
 rw[List.take_succ_eq_append_getElem h,List.any_append]
 simp
theorem bHO {α β:Type} (a:List α) (b:List β) {k:Nat} (h:min a.length b.length≤k):(a.zip b).take k=a.zip b:=List.take_of_length_le (by rw[List.length_zip];exact h)
def jE (g:dP):Prop:=g.1.length≤1000000000∧∀ r∈g.1,r.length≤1000000000
theorem tN {α:Type} {l:List α} {k:Nat} (h:l.length≤k):l.take k=l:=List.take_of_length_le h
theorem jH (a b:List (List Int)):(eA a b).length=min a.length b.length:=List.length_zipWith
theorem sA (a b:List Int):(qG a b).length=min a.length b.length:=List.length_zipWith
theorem aH1 (a b:List Int) {k:Nat} (h1:k<a.length) (h2:k<b.length):(qG a b).take k++[(dK a[k] b[k]).1]=(qG a b).take (k+1):=bBY _ a b h1 h2
theorem qV (a b:List (List Int)) {k:Nat} (h1:k<a.length) (h2:k<b.length):(eA a b).take k++[qG a[k] b[k]]=(eA a b).take (k+1):=bBY _ a b h1 h2
def tR (a b:List Int) (k:Nat):Bool:=((a.zip b).take k).any fun p=>(dK p.1 p.2).2
def lM (a b:List (List Int)) (k:Nat):Bool:=((a.zip b).take k).any fun p=>aP3 p.1 p.2
theorem aKB (a b:List Int) {k:Nat} (h1:k<a.length) (h2:k<b.length):tR a b (k+1)=(tR a b k || (dK a[k] b[k]).2):=bC7 _ a b h1 h2
theorem aLI (a b:List (List Int)) {k:Nat} (h1:k<a.length) (h2:k<b.length):lM a b (k+1)=(lM a b k || aP3 a[k] b[k]):=bC7 _ a b h1 h2
theorem aON (a b:List Int) {k:Nat} (h:min a.length b.length≤k):tR a b k=aP3 a b:=by unfold tR aP3;rw[bHO a b h]
theorem aOU (a b:List (List Int)) {k:Nat} (h:min a.length b.length≤k):lM a b k=aLP a b:=by unfold lM aLP;rw[bHO a b h]
def lW:Con:=⟨112,aT,aT,[.val ⟨true,aT,[]⟩],[⟨true,aT,[2,0,0]⟩],false,none,
 ((fun x=>jE x):(dP)→Prop),
 ((fun x=>x):(dP)→(dP))⟩
def uK:T:=.call 0 (.p1 aI (.bNT tI .bool) (.Z 0)) <|.ret (.bNV aI (.bNT tI .bool) (.Z 1) (aO aT 1 (.Z 0)))
theorem aMQ:bM Tryz.prog [eT] lW false 3000 ⟨[],[]⟩ = .ok uK:=by kernel_rfl
theorem aN3 (x:dP) (hx:okD aT x) (hp:(fun x=>jE x) x):uK.wp [eT] [⟨aT,x⟩] [] (fun v=>v.as aT=(fun x=>x) x):=by
 have hp:jE x:=hp
 delta uK eT;refine dB ?_
 exact ⟨hp,fun _=>by first|rfl|trivial⟩
theorem aN5:Con.Holds Tryz.prog lW:=aS aW (aH xC aR) aMQ aN3
def mW:Con:=⟨121,(.bNT aT aT),aT,[.val ⟨true,aT,[]⟩,.val ⟨true,aT,[]⟩],[⟨true,aT,[2,0,0]⟩],false,none,
 ((fun x=>jE x.1∧jE x.2):(dP × dP)→Prop),
 ((fun x=>gX x.1 x.2):(dP × dP)→(dP))⟩
def xH:T:=.ite (aO aT 2 (.p1 aT aT (.Z 0))) (.loop aD (.bNV tI aI (.ci .i64 0) (.nl 112 aB)) <|
  .bNU (.bNX 112 aB) (.p1 aI (.bNT tI .bool) (.p1 aT aT (.Z 0))) <|
  .bNU (.cmp .lss .i64) (.bNV tI tI (.p1 tI aI (.Z 1)) (.Z 2)) <|
  .ite (.Z 3) (
   .bNU (.bNX 112 aB) (aJ (.bNT aT aT) 1 (.Z 0)) <|
   .bNU (.cmp .lss .i64) (.bNV tI tI (.p1 tI aI (.Z 1)) (.Z 4)) <|
   .ite (.Z 5) (
    .loop aF (.bNV tI aB (.ci .i64 0) (.nl 3 tI)) <|
     .bNU (.bNY 112 aB) (.bNV aI tI (.p1 aI (.bNT tI .bool) (.p1 aT aT (.Z 0))) (.p1 tI aI (.Z 1))) <|
     .bNU (.bNX 3 tI) (.Z 7) <|
     .bNU (.cmp .lss .i64) (.bNV tI tI (.p1 tI aB (.Z 6)) (.Z 8)) <|
     .ite (.Z 9) (
      .bNU (.bNY 112 aB) (.bNV aI tI (aJ (.bNT aT aT) 1 (.Z 0)) (.p1 tI aI (.Z 1))) <|
      .bNU (.bNX 3 tI) (.Z 10) <|
      .bNU (.cmp .lss .i64) (.bNV tI tI (.p1 tI aB (.Z 6)) (.Z 11)) <|
      .ite (.Z 12) (
       .bNU (.bNY 112 aB) (.bNV aI tI (.p1 aI (.bNT tI .bool) (.p1 aT aT (.Z 0))) (.p1 tI aI (.Z 1))) <|
       .bNU (.bNY 3 tI) (.bNV aB tI (.Z 13) (.p1 tI aB (.Z 6))) <|
       .bNU (.bNY 112 aB) (.bNV aI tI (aJ (.bNT aT aT) 1 (.Z 0)) (.p1 tI aI (.Z 1))) <|
       .bNU (.bNY 3 tI) (.bNV aB tI (.Z 15) (.p1 tI aB (.Z 6))) <|
       .call 0 (.bNV tI tI (.Z 14) (.Z 16)) <|
       .bNU (.lit 3 tI 1) (.p1 tI .bool (.Z 17)) <|
       .bNU (.bO0 3 tI 8) (.bNV aB aB (aO aF 1 (.Z 6)) (.Z 18)) <|
       .bNU (.ar .add .i64) (.bNV tI tI (.p1 tI aB (.Z 6)) (.ci .i64 1)) <|
       .bNW 0 (.bNV tI aB (.Z 20) (.Z 19))) (
       .bNU (.lit 112 aB 1) (aO aF 1 (.Z 6)) <|
       .bNU (.bO0 112 aB 24) (.bNV aI aI (aO aD 1 (.Z 1)) (.Z 13)) <|
       .bNU (.ar .add .i64) (.bNV tI tI (.p1 tI aI (.Z 1)) (.ci .i64 1)) <|
       .bNW 1 (.bNV tI aI (.Z 15) (.Z 14)))) (
      .bNU (.lit 112 aB 1) (aO aF 1 (.Z 6)) <|
      .bNU (.bO0 112 aB 24) (.bNV aI aI (aO aD 1 (.Z 1)) (.Z 10)) <|
      .bNU (.ar .add .i64) (.bNV tI tI (.p1 tI aI (.Z 1)) (.ci .i64 1)) <|
      .bNW 1 (.bNV tI aI (.Z 12) (.Z 11)))) (
    .call 0 (.bNV tI tI (aJ aT 1 (.p1 aT aT (.Z 0))) (aJ (.bNT aT aT) 2 (.Z 0))) <|
    .ret (bB aT [(aO aD 1 (.Z 1)),(.p1 tI .bool (.Z 6)),(.cb true)]))) (
   .call 0 (.bNV tI tI (aJ aT 1 (.p1 aT aT (.Z 0))) (aJ (.bNT aT aT) 2 (.Z 0))) <|
   .ret (bB aT [(aO aD 1 (.Z 1)),(.p1 tI .bool (.Z 4)),(.cb true)]))) (
 .loop (.bNT tI (.bNT aI .bool)) (bB (.bNT tI (.bNT aI .bool)) [(.ci .i64 0),(.nl 112 aB),(aO (.bNT aT aT) 3 (.Z 0))]) <|
  .bNU (.bNX 112 aB) (.p1 aI (.bNT tI .bool) (.p1 aT aT (.Z 0))) <|
  .bNU (.cmp .lss .i64) (.bNV tI tI (.p1 tI (.bNT aI .bool) (.Z 1)) (.Z 2)) <|
  .ite (.Z 3) (
   .bNU (.bNX 112 aB) (aJ (.bNT aT aT) 1 (.Z 0)) <|
   .bNU (.cmp .lss .i64) (.bNV tI tI (.p1 tI (.bNT aI .bool) (.Z 1)) (.Z 4)) <|
   .ite (.Z 5) (
    .loop (.bNT tI (.bNT aB .bool)) (bB (.bNT tI (.bNT aB .bool)) [(.ci .i64 0),(.nl 3 tI),(aO (.bNT tI (.bNT aI .bool)) 2 (.Z 1))]) <|
     .bNU (.bNY 112 aB) (.bNV aI tI (.p1 aI (.bNT tI .bool) (.p1 aT aT (.Z 0))) (.p1 tI (.bNT aI .bool) (.Z 1))) <|
     .bNU (.bNX 3 tI) (.Z 7) <|
     .bNU (.cmp .lss .i64) (.bNV tI tI (.p1 tI (.bNT aB .bool) (.Z 6)) (.Z 8)) <|
     .ite (.Z 9) (
      .bNU (.bNY 112 aB) (.bNV aI tI (aJ (.bNT aT aT) 1 (.Z 0)) (.p1 tI (.bNT aI .bool) (.Z 1))) <|
      .bNU (.bNX 3 tI) (.Z 10) <|
      .bNU (.cmp .lss .i64) (.bNV tI tI (.p1 tI (.bNT aB .bool) (.Z 6)) (.Z 11)) <|
      .ite (.Z 12) (
       .bNU (.bNY 112 aB) (.bNV aI tI (.p1 aI (.bNT tI .bool) (.p1 aT aT (.Z 0))) (.p1 tI (.bNT aI .bool) (.Z 1))) <|
       .bNU (.bNY 3 tI) (.bNV aB tI (.Z 13) (.p1 tI (.bNT aB .bool) (.Z 6))) <|
       .bNU (.bNY 112 aB) (.bNV aI tI (aJ (.bNT aT aT) 1 (.Z 0)) (.p1 tI (.bNT aI .bool) (.Z 1))) <|
       .bNU (.bNY 3 tI) (.bNV aB tI (.Z 15) (.p1 tI (.bNT aB .bool) (.Z 6))) <|
       .call 0 (.bNV tI tI (.Z 14) (.Z 16)) <|
       .bNU (.lit 3 tI 1) (.p1 tI .bool (.Z 17)) <|
       .bNU (.bO0 3 tI 8) (.bNV aB aB (aJ (.bNT tI (.bNT aB .bool)) 1 (.Z 6)) (.Z 18)) <|
       .ite (aO (.bNT tI (.bNT aB .bool)) 2 (.Z 6)) (
        .bNU (.ar .add .i64) (.bNV tI tI (.p1 tI (.bNT aB .bool) (.Z 6)) (.ci .i64 1)) <|
        .bNW 0 (bB (.bNT tI (.bNT aB .bool)) [(.Z 20),(.Z 19),(.cb true)])) (
        .bNU (.ar .add .i64) (.bNV tI tI (.p1 tI (.bNT aB .bool) (.Z 6)) (.ci .i64 1)) <|
        .bNW 0 (bB (.bNT tI (.bNT aB .bool)) [(.Z 20),(.Z 19),(aO (.bNT tI .bool) 1 (.Z 17))]))) (
       .bNU (.lit 112 aB 1) (aJ (.bNT tI (.bNT aB .bool)) 1 (.Z 6)) <|
       .bNU (.bO0 112 aB 24) (.bNV aI aI (aJ (.bNT tI (.bNT aI .bool)) 1 (.Z 1)) (.Z 13)) <|
       .bNU (.ar .add .i64) (.bNV tI tI (.p1 tI (.bNT aI .bool) (.Z 1)) (.ci .i64 1)) <|
       .bNW 1 (bB (.bNT tI (.bNT aI .bool)) [(.Z 15),(.Z 14),(aO (.bNT tI (.bNT aB .bool)) 2 (.Z 6))]))) (
      .bNU (.lit 112 aB 1) (aJ (.bNT tI (.bNT aB .bool)) 1 (.Z 6)) <|
      .bNU (.bO0 112 aB 24) (.bNV aI aI (aJ (.bNT tI (.bNT aI .bool)) 1 (.Z 1)) (.Z 10)) <|
      .bNU (.ar .add .i64) (.bNV tI tI (.p1 tI (.bNT aI .bool) (.Z 1)) (.ci .i64 1)) <|
      .bNW 1 (bB (.bNT tI (.bNT aI .bool)) [(.Z 12),(.Z 11),(aO (.bNT tI (.bNT aB .bool)) 2 (.Z 6))]))) (
    .call 0 (.bNV tI tI (aJ aT 1 (.p1 aT aT (.Z 0))) (aJ (.bNT aT aT) 2 (.Z 0))) <|
    .ite (aO (.bNT tI (.bNT aI .bool)) 2 (.Z 1)) (
     .ret (bB aT [(aJ (.bNT tI (.bNT aI .bool)) 1 (.Z 1)),(.p1 tI .bool (.Z 6)),(.cb true)])) (
     .ret (.bNV aI (.bNT tI .bool) (aJ (.bNT tI (.bNT aI .bool)) 1 (.Z 1)) (.Z 6))))) (
   .call 0 (.bNV tI tI (aJ aT 1 (.p1 aT aT (.Z 0))) (aJ (.bNT aT aT) 2 (.Z 0))) <|
   .ite (aO (.bNT tI (.bNT aI .bool)) 2 (.Z 1)) (
    .ret (bB aT [(aJ (.bNT tI (.bNT aI .bool)) 1 (.Z 1)),(.p1 tI .bool (.Z 4)),(.cb true)])) (
    .ret (.bNV aI (.bNT tI .bool) (aJ (.bNT tI (.bNT aI .bool)) 1 (.Z 1)) (.Z 4)))))
theorem aQM:bM Tryz.prog [fB] mW false 3000 ⟨[(2991,3001,iT 19 13++[.dr 0,.dr 1,.tm 6 0,.sl 7]),(2977,15006,[.tm 8 0,.sl 10]),(2991,2001,iT 19 13++[.dr 0,.dr 1,.tm 6 0,.sl 7,.bx 5 2]),(2977,14006,[.tm 8 0,.sl 10,.bx 5 2])],[(2971,47013,[],[10]),(2971,23010,[],[10]),(2971,46013,[],[10]),(2971,22010,[],[10])]⟩ = .ok xH:=by kernel_rfl
theorem aRN (x:dP × dP) (hx:okD (.bNT aT aT) x) (hp:(fun x=>jE x.1∧jE x.2) x):xH.wp [fB] [⟨(.bNT aT aT),x⟩] [] (fun v=>v.as aT=(fun x=>gX x.1 x.2) x):=by
 obtain ⟨⟨a,la,sa⟩,⟨b,lb,sb⟩⟩:=x
 obtain ⟨⟨ha,ha'⟩,⟨hb,hb'⟩⟩:jE (a,la,sa)∧jE (b,lb,sb):=hp
 dsimp only at ha ha' hb hb'
 delta xH fB;refine dB ?_
 constructor
 ·intro hsat
  refine ⟨fun s=>∃ k:Nat,k≤a.length∧k≤b.length∧s=((k:Int),(eA a b).take k),fun s=>a.length - (s.1:Int).toNat,⟨0,by omega,by omega,by simp⟩,fun s _ hI=>?_⟩
  obtain ⟨k,hk1,hk2,rfl⟩:=hI
  dsimp only
  refine dT ?_
  have fin:a.length≤k∨b.length≤k→∀ r:Int × Bool,r=dK la lb→((eA a b).take k,(r.1,true))=gX (a,la,sa) (b,lb,sb):=fun h r hr=>by
   rw[hr,tN (by rw[jH];omega)]
   unfold gX
   dsimp only at hsat ⊢
   rw[hsat]
   simp
  (repeat' first|intro _|(with_reducible apply And.intro))
  rotate_left
  ·exact fin (by omega) _ rfl
  ·exact fin (by omega) _ rfl
  have h1:k<a.length:=by omega
  have h2:k<b.length:=by omega
  simp only[aZ h1,aZ h2]
  have mA:=ha' _ (List.getElem_mem h1)
  have mB:=hb' _ (List.getElem_mem h2)
  have e0:=qV a b h1 h2
  generalize a[k]=A at *
  generalize b[k]=B at *
  refine ⟨fun s=>∃ j:Nat,j≤A.length∧j≤B.length∧s=((j:Int),(qG A B).take j),fun s=>A.length - (s.1:Int).toNat,⟨0,by omega,by omega,by simp⟩,fun s _ hI=>?_⟩
  obtain ⟨j,hj1,hj2,rfl⟩:=hI
  dsimp only
  refine dT ?_
  have hl:List.length ((qG A B).take j)=j:=by rw[List.length_take,sA];omega
  have hl2:List.length ((eA a b).take k)=k:=by rw[List.length_take,jH];omega
  have out:A.length≤j∨B.length≤j→(eA a b).take k++[(qG A B).take j]=(eA a b).take (k+1):=fun h=>by
   rw[tN (l:=qG A B) (by rw[sA];omega)];exact e0
  (repeat' first|intro _|(with_reducible apply And.intro))
  all_goals first|omega|(unfold maxLen;omega)|(exact ⟨j+1,by omega,by omega,by rw[aZ (show j<A.length by omega),aZ (show j<B.length by omega),aH1 A B (by omega) (by omega)];rfl⟩)|(exact ⟨k+1,by omega,by omega,by rw[out (by omega)];rfl⟩)
 ·intro hsat
  refine ⟨fun s=>∃ k:Nat,k≤a.length∧k≤b.length∧s=((k:Int),(eA a b).take k,sb || lM a b k),fun s=>a.length - (s.1:Int).toNat,⟨0,by omega,by omega,by simp[lM]⟩,fun s _ hI=>?_⟩
  obtain ⟨k,hk1,hk2,rfl⟩:=hI
  dsimp only
  refine dT ?_
  have fin:a.length≤k∨b.length≤k→∀ r:Int × Bool,r=dK la lb→((eA a b).take k,(r.1,(sb || lM a b k) || r.2))=gX (a,la,sa) (b,lb,sb):=fun h r hr=>by
   rw[hr,tN (by rw[jH];omega),aOU a b (by omega)]
   unfold gX
   dsimp only at hsat ⊢
   rw[hsat]
   simp
  (repeat' first|intro _|(with_reducible apply And.intro))
  rotate_left
  ·rw[show (sb || lM a b k)=true by assumption] at fin;exact fin (by omega) _ rfl
  ·rw[show (sb || lM a b k)=false by assumption] at fin;exact fin (by omega) _ rfl
  ·rw[show (sb || lM a b k)=true by assumption] at fin;exact fin (by omega) _ rfl
  ·rw[show (sb || lM a b k)=false by assumption] at fin;exact fin (by omega) _ rfl
  have h1:k<a.length:=by omega
  have h2:k<b.length:=by omega
  simp only[aZ h1,aZ h2]
  have mA:=ha' _ (List.getElem_mem h1)
  have mB:=hb' _ (List.getElem_mem h2)
  have e0:=qV a b h1 h2
  have e1:(sb || lM a b (k+1))=((sb || lM a b k) || aP3 a[k] b[k]):=by rw[aLI a b h1 h2,Bool.or_assoc]
  clear fin
  generalize (sb || lM a b k)=f0 at *
  generalize a[k]=A at *
  generalize b[k]=B at *
  refine ⟨fun s=>∃ j:Nat,j≤A.length∧j≤B.length∧s=((j:Int),(qG A B).take j,f0 || tR A B j),fun s=>A.length - (s.1:Int).toNat,⟨0,by omega,by omega,by simp[tR]⟩,fun s _ hI=>?_⟩
  obtain ⟨j,hj1,hj2,rfl⟩:=hI
  dsimp only
  refine dT ?_
  have hl:List.length ((qG A B).take j)=j:=by rw[List.length_take,sA];omega
  have hl2:List.length ((eA a b).take k)=k:=by rw[List.length_take,jH];omega
  have out:A.length≤j∨B.length≤j→((eA a b).take k++[(qG A B).take j],f0 || tR A B j)=((eA a b).take (k+1),sb || lM a b (k+1)):=fun h=>by
   rw[tN (l:=qG A B) (by rw[sA];omega),e0,e1,aON A B (by omega)]
  (repeat' first|intro _|(with_reducible apply And.intro))
  all_goals first|omega|(unfold maxLen;omega)|skip
  all_goals first|(exact ⟨k+1,by omega,by omega,by rw[← out (by omega)];rfl⟩)|(refine ⟨j+1,by omega,by omega,?_⟩)
  all_goals rw[aZ (show j<A.length by omega),aZ (show j<B.length by omega),aH1 A B (by omega) (by omega),aKB A B (by omega) (by omega),← Bool.or_assoc]
  ·rw[show (f0 || tR A B j)=true by assumption];rfl
  ·rw[show (f0 || tR A B j)=false by assumption];rfl
theorem aR8:Con.Holds Tryz.prog mW:=aS aW (aH yB aR) aQM aRN
def fZ:Con:=⟨160,tI,(.bNT tI .bool),[.val ⟨false,tI,[]⟩],[⟨false,tI,[0]⟩,⟨false,.bool,[0]⟩],false,none,
 ((fun _=>True):(Int)→Prop),
 ((fun x=>aKX x):(Int)→(Int × Bool))⟩
def aH3:T :=
 .bNU (.cmp .gtr .i64) (.bNV tI tI (.Z 0) (.ci .i64 2147483647)) <|
 .ite (.Z 1) (
  .ret (.bNV tI .bool (.ci .i64 2147483647) (.cb true))) (
  .bNU (.cmp .lss .i64) (.bNV tI tI (.Z 0) (.ci .i64 (-2147483647))) <|
  .ite (.Z 2) (
   .ret (.bNV tI .bool (.ci .i64 (-2147483647)) (.cb true))) (
   .ret (.bNV tI .bool (.Z 0) (.cb false))))
theorem bEO:bM Tryz.prog [] fZ false 3000 ⟨[],[]⟩ = .ok aH3:=by kernel_rfl
theorem bER (x:Int) (hx:okD tI x) (hp:(fun _=>True) x):aH3.wp [] [⟨tI,x⟩] [] (fun v=>v.as (.bNT tI .bool)=(fun x=>aKX x) x):=by
 delta aH3;refine dB ?_
 unfold aKX eJ
 refine dT ?_
 refine ⟨fun h=>?_,fun h=>⟨fun h2=>?_,fun h2=>?_⟩⟩
 ·have:min (max x (-2147483647)) 2147483647=2147483647:=by omega
  rw[this];simp;omega
 ·have:min (max x (-2147483647)) 2147483647 = -2147483647:=by omega
  rw[this];simp;omega
 ·have:min (max x (-2147483647)) 2147483647=x:=by omega
  rw[this];simp
theorem aBY:Con.Holds Tryz.prog fZ:=aS aW aR bEO bER
def iE:Con:=⟨161,tI,tI,[.val ⟨false,tI,[]⟩],[⟨false,tI,[0]⟩],false,none,
 ((fun _=>True):(Int)→Prop),
 ((fun x=>eJ x):(Int)→(Int))⟩
def aLT:T:=.call 0 (.Z 0) <|.ret (.p1 tI .bool (.Z 1))
theorem bIK:bM Tryz.prog [fZ] iE false 3000 ⟨[],[]⟩ = .ok aLT:=by kernel_rfl
theorem bFP (x:Int) (hx:okD tI x) (hp:(fun _=>True) x):aLT.wp [fZ] [⟨tI,x⟩] [] (fun v=>v.as tI=(fun x=>eJ x) x):=by
 delta aLT fZ;refine dB ?_
 exact fun _=>rfl
theorem aEM:Con.Holds Tryz.prog iE:=aS aW (aH aBY aR) bIK bFP
def dN:Con:=⟨133,aE,(.bNT tI .bool),[.val ⟨false,tI,[]⟩,.val ⟨false,tI,[]⟩],[⟨false,tI,[0]⟩,⟨false,.bool,[0]⟩],false,none,
 ((fun _=>True):(Int × Int)→Prop),
 ((fun x=>dK x.1 x.2):(Int × Int)→(Int × Bool))⟩
def aCX:T:=.call 0 (.p1 tI tI (.Z 0)) <|.call 0 (aO aE 1 (.Z 0)) <|
 .bNU (.ar .add .i64) (.bNV tI tI (.Z 1) (.Z 2)) <|
 .call 1 (.Z 3) <|
 .ret (.Z 4)
theorem aYS:bM Tryz.prog [iE,fZ] dN false 3000 ⟨[],[]⟩ = .ok aCX:=by kernel_rfl
theorem aZA (x:Int × Int) (hx:okD aE x) (hp:(fun _=>True) x):aCX.wp [iE,fZ] [⟨aE,x⟩] [] (fun v=>v.as (.bNT tI .bool)=(fun x=>dK x.1 x.2) x):=by
 delta aCX iE fZ;refine dB ?_
 intro _ _
 have h1:=jQ x.1
 have h2:=jQ x.2
 exact ⟨by omega,fun _ _=>rfl⟩
theorem rM:Con.Holds Tryz.prog dN:=aS aW (aH aEM (aH aBY aR)) aYS aZA
def oZ:Con:=⟨157,aI,aI,[.val ⟨false,aI,[]⟩],[⟨false,aI,[2]⟩],false,none,
 ((fun x=>List.length x≤1000000000∧∀ y∈x,List.length y≤1000000000):(cV)→Prop),
 ((fun x=>x):(cV)→(cV))⟩
def aB0:T:=.loop aD (.bNV tI aI (.ci .i64 0) (.nl 112 aB)) <|
 .bNU (.bNX 112 aB) (.Z 0) <|
 .bNU (.cmp .lss .i64) (.bNV tI tI (.p1 tI aI (.Z 1)) (.Z 2)) <|
 .ite (.Z 3) (
  .bNU (.bNY 112 aB) (.bNV aI tI (.Z 0) (.p1 tI aI (.Z 1))) <|
  .bNU (.bO0 3 tI 8) (.bNV aB aB (.nl 3 tI) (.Z 4)) <|
  .bNU (.lit 112 aB 1) (.Z 5) <|
  .bNU (.bO0 112 aB 24) (.bNV aI aI (aO aD 1 (.Z 1)) (.Z 6)) <|
  .bNU (.ar .add .i64) (.bNV tI tI (.p1 tI aI (.Z 1)) (.ci .i64 1)) <|
  .bNW 0 (.bNV tI aI (.Z 8) (.Z 7))) (
  .ret (aO aD 1 (.Z 1)))
theorem aS5:bM Tryz.prog [] oZ false 3000 ⟨[(2991,1001,[.dr 5,.tm 4 0,.on 3,.sl 1])],[(2983,3004,[19],[])]⟩ = .ok aB0:=by kernel_rfl
theorem aSI (x:cV) (hx:okD aI x) (hp:(fun x=>List.length x≤1000000000∧∀ y∈x,List.length y≤1000000000) x):aB0.wp [] [⟨aI,x⟩] [] (fun v=>v.as aI=(fun x=>x) x):=by
 obtain ⟨hp1,hp2⟩:List.length x≤1000000000∧∀ y∈x,List.length y≤1000000000:=hp
 delta aB0;refine dB ?_
 refine ⟨fun s=>∃ k:Nat,k≤x.length∧s=((k:Int),x.take k),fun s=>x.length - (s.1:Int).toNat,⟨0,Nat.zero_le _,by simp⟩,fun s hs hI=>?_⟩
 obtain ⟨k,hk,rfl⟩:=hI
 dsimp only
 refine dT ?_
 intro _
 constructor
 ·intro hlt
  have hk':k<x.length:=by omega
  rw[aZ hk']
  have hm:=hp2 _ (List.getElem_mem hk')
  have hl:(x.take k).length=k:=List.length_take_of_le hk
  (repeat' first|intro _|(with_reducible apply And.intro))
  all_goals first|omega|(unfold maxLen;omega)|(exact ⟨k+1,by omega,by rw[iI hk'];rfl⟩)
 ·intro hge
  have:k=x.length:=by omega
  subst this
  show x.take x.length=x
  simp
theorem aUU:Con.Holds Tryz.prog oZ:=aS aW aR aS5 aSI
def vX:Con:=⟨165,aM,(.bNT aB .bool),[.val ⟨false,aB,[]⟩,.val ⟨false,aB,[]⟩],[⟨false,aB,[2]⟩,⟨false,.bool,[0]⟩],false,none,
 ((fun x=>List.length x.1≤1000000000∧List.length x.2≤1000000000):(bP)→Prop),
 ((fun x=>(qG x.1 x.2,aP3 x.1 x.2)):(bP)→(bK × Bool))⟩
def aH8:T:=.loop (.bNT tI (.bNT .bool aB)) (bB (.bNT tI (.bNT .bool aB)) [(.ci .i64 0),(.cb false),(.nl 3 tI)]) <|
 .bNU (.bNX 3 tI) (.p1 aB aB (.Z 0)) <|
 .bNU (.cmp .lss .i64) (.bNV tI tI (.p1 tI (.bNT .bool aB) (.Z 1)) (.Z 2)) <|
 .ite (.Z 3) (
  .bNU (.bNX 3 tI) (aO aM 1 (.Z 0)) <|
  .bNU (.cmp .lss .i64) (.bNV tI tI (.p1 tI (.bNT .bool aB) (.Z 1)) (.Z 4)) <|
  .ite (.Z 5) (
   .bNU (.bNY 3 tI) (.bNV aB tI (.p1 aB aB (.Z 0)) (.p1 tI (.bNT .bool aB) (.Z 1))) <|
   .bNU (.bNY 3 tI) (.bNV aB tI (aO aM 1 (.Z 0)) (.p1 tI (.bNT .bool aB) (.Z 1))) <|
   .call 0 (.bNV tI tI (.Z 6) (.Z 7)) <|
   .bNU (.lit 3 tI 1) (.p1 tI .bool (.Z 8)) <|
   .bNU (.bO0 3 tI 8) (.bNV aB aB (aO (.bNT tI (.bNT .bool aB)) 2 (.Z 1)) (.Z 9)) <|
   .ite (aJ (.bNT tI (.bNT .bool aB)) 1 (.Z 1)) (
    .bNU (.ar .add .i64) (.bNV tI tI (.p1 tI (.bNT .bool aB) (.Z 1)) (.ci .i64 1)) <|
    .bNW 0 (bB (.bNT tI (.bNT .bool aB)) [(.Z 11),(.cb true),(.Z 10)])) (
    .bNU (.ar .add .i64) (.bNV tI tI (.p1 tI (.bNT .bool aB) (.Z 1)) (.ci .i64 1)) <|
    .bNW 0 (bB (.bNT tI (.bNT .bool aB)) [(.Z 11),(aO (.bNT tI .bool) 1 (.Z 8)),(.Z 10)]))) (
   .ret (.bNV aB .bool (aO (.bNT tI (.bNT .bool aB)) 2 (.Z 1)) (aJ (.bNT tI (.bNT .bool aB)) 1 (.Z 1))))) (
  .ret (.bNV aB .bool (aO (.bNT tI (.bNT .bool aB)) 2 (.Z 1)) (aJ (.bNT tI (.bNT .bool aB)) 1 (.Z 1))))
theorem bE6:bM Tryz.prog [dN] vX false 3000 ⟨[(2989,1001,[.dr 11,.tm 8 0,.tm 7 0,.on 6,.sl 1])],[]⟩ = .ok aH8:=by kernel_rfl
theorem bD2 (x:bP) (hx:okD aM x) (hp:(fun x=>List.length x.1≤1000000000∧List.length x.2≤1000000000) x):aH8.wp [dN] [⟨aM,x⟩] [] (fun v=>v.as (.bNT aB .bool)=(fun x=>(qG x.1 x.2,aP3 x.1 x.2)) x):=by
 obtain ⟨A,B⟩:=x
 obtain ⟨mA,mB⟩:List.length A≤1000000000∧List.length B≤1000000000:=hp
 delta aH8 dN;refine dB ?_
 refine ⟨fun s=>∃ j:Nat,j≤A.length∧j≤B.length∧s=((j:Int),tR A B j,(qG A B).take j),fun s=>A.length - (s.1:Int).toNat,⟨0,by omega,by omega,by simp[tR]⟩,fun s _ hI=>?_⟩
 obtain ⟨j,hj1,hj2,rfl⟩:=hI
 dsimp only
 refine dT ?_
 have hl:List.length ((qG A B).take j)=j:=by rw[List.length_take,sA];omega
 have out:A.length≤j∨B.length≤j→((qG A B).take j,tR A B j)=(qG A B,aP3 A B):=fun h=>by
  rw[tN (l:=qG A B) (by rw[sA];omega),aON A B (by omega)]
 (repeat' first|intro _|(with_reducible apply And.intro))
 all_goals first|omega|(unfold maxLen;omega)|(exact out (by omega))|(refine ⟨j+1,by omega,by omega,?_⟩)
 all_goals rw[aZ (show j<A.length by omega),aZ (show j<B.length by omega),aH1 A B (by omega) (by omega),aKB A B (by omega) (by omega)]
 ·rw[show tR A B j=true by assumption];rfl
 ·rw[show tR A B j=false by assumption];rfl
theorem bE8:Con.Holds Tryz.prog vX:=aS aW (aH rM aR) bE6 bD2
def bI:Con:=⟨57,(.bNT tI aE),.bool,[.val ⟨false,tI,[]⟩,.val ⟨false,tI,[]⟩,.val ⟨false,tI,[]⟩],[⟨false,.bool,[0]⟩],false,none,
 ((fun _=>True):(Int × kC)→Prop),
 ((fun x=>decide (x.2.1≤x.1)&&decide (x.1≤x.2.2)):(Int × kC)→(Bool))⟩
def aJ2:T :=
 .bNU (.cmp .geq .i64) (.bNV tI tI (.p1 tI aE (.Z 0)) (aJ (.bNT tI aE) 1 (.Z 0))) <|
 .ite (.Z 1) (
  .bNU (.cmp .leq .i64) (.bNV tI tI (.p1 tI aE (.Z 0)) (aO (.bNT tI aE) 2 (.Z 0))) <|
  .ret (.Z 2)) (
  .ret (.cb false))
theorem bFE:bM Tryz.prog [] bI false 3000 ⟨[],[]⟩ = .ok aJ2:=by kernel_rfl
theorem bIM (x:Int × kC) (hx:okD (.bNT tI aE) x) (hp:(fun _=>True) x):aJ2.wp [] [⟨(.bNT tI aE),x⟩] [] (fun v=>v.as .bool=(fun x=>decide (x.2.1≤x.1)&&decide (x.1≤x.2.2)) x):=by
 delta aJ2;refine dB ?_
 refine dT ?_
 constructor
 ·intro h;simp[h]
 ·intro h
  have:¬ x.2.1≤x.1:=by omega
  simp[this]
theorem eY:Con.Holds Tryz.prog bI:=aS aW aR bFE bIM
def mZ:Con:=⟨136,(.bNT aT aT),aT,[.val ⟨true,aT,[]⟩,.val ⟨true,aT,[]⟩],[⟨true,aT,[2,0,0]⟩],false,none,
 ((fun x=>jE x.1∧jE x.2):(dP × dP)→Prop),
 ((fun x=>gX x.1 x.2):(dP × dP)→(dP))⟩
def yG:T:=.ite (aO aT 2 (.p1 aT aT (.Z 0))) (.loop aD (.bNV tI aI (.ci .i64 0) (.nl 112 aB)) <|
  .bNU (.bNX 112 aB) (.p1 aI (.bNT tI .bool) (.p1 aT aT (.Z 0))) <|
  .bNU (.cmp .lss .i64) (.bNV tI tI (.p1 tI aI (.Z 1)) (.Z 2)) <|
  .ite (.Z 3) (
   .bNU (.bNX 112 aB) (aJ (.bNT aT aT) 1 (.Z 0)) <|
   .bNU (.cmp .lss .i64) (.bNV tI tI (.p1 tI aI (.Z 1)) (.Z 4)) <|
   .ite (.Z 5) (
    .bNU (.bNY 112 aB) (.bNV aI tI (.p1 aI (.bNT tI .bool) (.p1 aT aT (.Z 0))) (.p1 tI aI (.Z 1))) <|
    .bNU (.bNY 112 aB) (.bNV aI tI (aJ (.bNT aT aT) 1 (.Z 0)) (.p1 tI aI (.Z 1))) <|
    .call 0 (.bNV aB aB (.Z 6) (.Z 7)) <|
    .bNU (.lit 112 aB 1) (.p1 aB .bool (.Z 8)) <|
    .bNU (.bO0 112 aB 24) (.bNV aI aI (aO aD 1 (.Z 1)) (.Z 9)) <|
    .bNU (.ar .add .i64) (.bNV tI tI (.p1 tI aI (.Z 1)) (.ci .i64 1)) <|
    .bNW 0 (.bNV tI aI (.Z 11) (.Z 10))) (
    .call 1 (.bNV tI tI (aJ aT 1 (.p1 aT aT (.Z 0))) (aJ (.bNT aT aT) 2 (.Z 0))) <|
    .ret (bB aT [(aO aD 1 (.Z 1)),(.p1 tI .bool (.Z 6)),(.cb true)]))) (
   .call 1 (.bNV tI tI (aJ aT 1 (.p1 aT aT (.Z 0))) (aJ (.bNT aT aT) 2 (.Z 0))) <|
   .ret (bB aT [(aO aD 1 (.Z 1)),(.p1 tI .bool (.Z 4)),(.cb true)]))) (
 .loop (.bNT tI (.bNT aI .bool)) (bB (.bNT tI (.bNT aI .bool)) [(.ci .i64 0),(.nl 112 aB),(aO (.bNT aT aT) 3 (.Z 0))]) <|
  .bNU (.bNX 112 aB) (.p1 aI (.bNT tI .bool) (.p1 aT aT (.Z 0))) <|
  .bNU (.cmp .lss .i64) (.bNV tI tI (.p1 tI (.bNT aI .bool) (.Z 1)) (.Z 2)) <|
  .ite (.Z 3) (
   .bNU (.bNX 112 aB) (aJ (.bNT aT aT) 1 (.Z 0)) <|
   .bNU (.cmp .lss .i64) (.bNV tI tI (.p1 tI (.bNT aI .bool) (.Z 1)) (.Z 4)) <|
   .ite (.Z 5) (
    .bNU (.bNY 112 aB) (.bNV aI tI (.p1 aI (.bNT tI .bool) (.p1 aT aT (.Z 0))) (.p1 tI (.bNT aI .bool) (.Z 1))) <|
    .bNU (.bNY 112 aB) (.bNV aI tI (aJ (.bNT aT aT) 1 (.Z 0)) (.p1 tI (.bNT aI .bool) (.Z 1))) <|
    .call 0 (.bNV aB aB (.Z 6) (.Z 7)) <|
    .bNU (.lit 112 aB 1) (.p1 aB .bool (.Z 8)) <|
    .bNU (.bO0 112 aB 24) (.bNV aI aI (aJ (.bNT tI (.bNT aI .bool)) 1 (.Z 1)) (.Z 9)) <|
    .ite (aO (.bNT tI (.bNT aI .bool)) 2 (.Z 1)) (
     .bNU (.ar .add .i64) (.bNV tI tI (.p1 tI (.bNT aI .bool) (.Z 1)) (.ci .i64 1)) <|
     .bNW 0 (bB (.bNT tI (.bNT aI .bool)) [(.Z 11),(.Z 10),(.cb true)])) (
     .bNU (.ar .add .i64) (.bNV tI tI (.p1 tI (.bNT aI .bool) (.Z 1)) (.ci .i64 1)) <|
     .bNW 0 (bB (.bNT tI (.bNT aI .bool)) [(.Z 11),(.Z 10),(aO (.bNT aB .bool) 1 (.Z 8))]))) (
    .call 1 (.bNV tI tI (aJ aT 1 (.p1 aT aT (.Z 0))) (aJ (.bNT aT aT) 2 (.Z 0))) <|
    .ite (aO (.bNT tI (.bNT aI .bool)) 2 (.Z 1)) (
     .ret (bB aT [(aJ (.bNT tI (.bNT aI .bool)) 1 (.Z 1)),(.p1 tI .bool (.Z 6)),(.cb true)])) (
     .ret (.bNV aI (.bNT tI .bool) (aJ (.bNT tI (.bNT aI .bool)) 1 (.Z 1)) (.Z 6))))) (
   .call 1 (.bNV tI tI (aJ aT 1 (.p1 aT aT (.Z 0))) (aJ (.bNT aT aT) 2 (.Z 0))) <|
   .ite (aO (.bNT tI (.bNT aI .bool)) 2 (.Z 1)) (
    .ret (bB aT [(aJ (.bNT tI (.bNT aI .bool)) 1 (.Z 1)),(.p1 tI .bool (.Z 4)),(.cb true)])) (
    .ret (.bNV aI (.bNT tI .bool) (aJ (.bNT tI (.bNT aI .bool)) 1 (.Z 1)) (.Z 4)))))
theorem aR9:bM Tryz.prog [vX,dN] mZ false 3000 ⟨[(2991,3001,iT 17 11++[.dr 0,.dr 1,.tm 6 0,.sl 7]),(2991,2001,iT 17 11++[.dr 0,.dr 1,.tm 6 0,.sl 7,.bx 5 2])],[(2980,15009,[],[8]),(2980,14009,[],[8])]⟩ = .ok yG:=by kernel_rfl
theorem aPT (x:dP × dP) (hx:okD (.bNT aT aT) x) (hp:(fun x=>jE x.1∧jE x.2) x):yG.wp [vX,dN] [⟨(.bNT aT aT),x⟩] [] (fun v=>v.as aT=(fun x=>gX x.1 x.2) x):=by
 obtain ⟨⟨a,la,sa⟩,⟨b,lb,sb⟩⟩:=x
 obtain ⟨⟨ha,ha'⟩,⟨hb,hb'⟩⟩:jE (a,la,sa)∧jE (b,lb,sb):=hp
 dsimp only at ha ha' hb hb'
 delta yG vX dN;refine dB ?_
 constructor
 ·intro hsat
  refine ⟨fun s=>∃ k:Nat,k≤a.length∧k≤b.length∧s=((k:Int),(eA a b).take k),fun s=>a.length - (s.1:Int).toNat,⟨0,by omega,by omega,by simp⟩,fun s _ hI=>?_⟩
  obtain ⟨k,hk1,hk2,rfl⟩:=hI
  dsimp only
  refine dT ?_
  have fin:a.length≤k∨b.length≤k→∀ r:Int × Bool,r=dK la lb→((eA a b).take k,(r.1,true))=gX (a,la,sa) (b,lb,sb):=fun h r hr=>by
   rw[hr,tN (by rw[jH];omega)]
   unfold gX
   dsimp only at hsat ⊢
   rw[hsat]
   simp
  have hl2:List.length ((eA a b).take k)=k:=by rw[List.length_take,jH];omega
  (repeat' first|intro _|(with_reducible apply And.intro))
  all_goals first|omega|(unfold maxLen;omega)|(exact fin (by omega) _ rfl)|skip
  all_goals have h1:k<a.length:=by omega
  all_goals have h2:k<b.length:=by omega
  all_goals simp only[aZ h1,aZ h2]
  all_goals first|(exact ha' _ (List.getElem_mem h1))|(exact hb' _ (List.getElem_mem h2))|(exact ⟨k+1,by omega,by omega,by rw[qV a b h1 h2];rfl⟩)
 ·intro hsat
  refine ⟨fun s=>∃ k:Nat,k≤a.length∧k≤b.length∧s=((k:Int),(eA a b).take k,sb || lM a b k),fun s=>a.length - (s.1:Int).toNat,⟨0,by omega,by omega,by simp[lM]⟩,fun s _ hI=>?_⟩
  obtain ⟨k,hk1,hk2,rfl⟩:=hI
  dsimp only
  refine dT ?_
  have fin:a.length≤k∨b.length≤k→∀ r:Int × Bool,r=dK la lb→((eA a b).take k,(r.1,(sb || lM a b k) || r.2))=gX (a,la,sa) (b,lb,sb):=fun h r hr=>by
   rw[hr,tN (by rw[jH];omega),aOU a b (by omega)]
   unfold gX
   dsimp only at hsat ⊢
   rw[hsat]
   simp
  have hl2:List.length ((eA a b).take k)=k:=by rw[List.length_take,jH];omega
  (repeat' first|intro _|(with_reducible apply And.intro))
  all_goals first|omega|(unfold maxLen;omega)|skip
  all_goals first|(rw[show (sb || lM a b k)=true by assumption] at fin;exact fin (by omega) _ rfl)|(rw[show (sb || lM a b k)=false by assumption] at fin;exact fin (by omega) _ rfl)|skip
  all_goals have h1:k<a.length:=by omega
  all_goals have h2:k<b.length:=by omega
  all_goals simp only[aZ h1,aZ h2]
  all_goals first|(exact ha' _ (List.getElem_mem h1))|(exact hb' _ (List.getElem_mem h2))|(refine ⟨k+1,by omega,by omega,?_⟩)
  all_goals rw[qV a b h1 h2,aLI a b h1 h2,← Bool.or_assoc]
  ·rw[show (sb || lM a b k)=true by assumption];rfl
  ·rw[show (sb || lM a b k)=false by assumption];rfl
theorem aPU:Con.Holds Tryz.prog mZ:=aS aW (aH bE8 (aH rM aR)) aR9 aPT
end
end Go.Proofs.YtdeobhdbmehpgaaGreat
