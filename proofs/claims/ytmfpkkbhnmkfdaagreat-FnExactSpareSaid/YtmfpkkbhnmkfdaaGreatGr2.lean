/- Gr2: lemmas. No conditions. -/
import Derived.Test.YtmfpkkbhnmkfdaaGreatFix2
namespace Go.Proofs.YtmfpkkbhnmkfdaaGreat
noncomputable section
set_option maxRecDepth 100000
open Go.ChangeShapes Go.WideShapes Go.ChangeAt Go.RowKit Go.Deep
set_option linter.unusedVariables false
set_option linter.unusedSimpArgs false
def rB (a b:List Int):List Int:=List.zipWith (fun x y=>(dR x y).1) a b
def aQM (a b:List Int):Bool:=(a.zip b).any fun p=>(dR p.1 p.2).2
def eG (a b:List (List Int)):List (List Int):=List.zipWith rB a b
def aLX (a b:List (List Int)):Bool:=(a.zip b).any fun p=>aQM p.1 p.2
def iX (a b:fO):fO:=(eG a.1 b.1,((dR a.2.1 b.2.1).1,a.2.2 || b.2.2 || aLX a.1 b.1 || (dR a.2.1 b.2.1).2))
theorem bNS {α β γ:Type} (f:α→β→γ) (a:List α) (b:List β):(List.zipWith f a b).length=min a.length b.length:=List.length_zipWith
theorem bDQ {α β γ:Type} (f:α→β→γ) (a:List α) (b:List β) {k:Nat} (h1:k<a.length) (h2:k<b.length):(List.zipWith f a b).take k++[f a[k] b[k]]=(List.zipWith f a b).take (k+1):=by
 have h:k<(List.zipWith f a b).length:=by rw[bNS];omega
 rw[List.take_succ_eq_append_getElem h,List.getElem_zipWith]
theorem bCD {α β:Type} (F:α × β→Bool) (a:List α) (b:List β) {k:Nat} (h1:k<a.length) (h2:k<b.length):((a.zip b).take (k+1)).any F=(((a.zip b).take k).any F || F (a[k],b[k])):=by
 have h:k<(a.zip b).length:=by rw[List.length_zip];omega
 rw[List.take_succ_eq_append_getElem h,List.any_append]
 simp
theorem bJ7 {α β:Type} (a:List α) (b:List β) {k:Nat} (h:min a.length b.length≤k):(a.zip b).take k=a.zip b:=List.take_of_length_le (by rw[List.length_zip];exact h)
def kE (g:fO):Prop:=g.1.length≤1000000000∧∀ r∈g.1,r.length≤1000000000
theorem rS {α:Type} {l:List α} {k:Nat} (h:l.length≤k):l.take k=l:=List.take_of_length_le h
theorem kN (a b:List (List Int)):(eG a b).length=min a.length b.length:=List.length_zipWith
theorem sG (a b:List Int):(rB a b).length=min a.length b.length:=List.length_zipWith
theorem aID (a b:List Int) {k:Nat} (h1:k<a.length) (h2:k<b.length):(rB a b).take k++[(dR a[k] b[k]).1]=(rB a b).take (k+1):=bDQ _ a b h1 h2
theorem rQ (a b:List (List Int)) {k:Nat} (h1:k<a.length) (h2:k<b.length):(eG a b).take k++[rB a[k] b[k]]=(eG a b).take (k+1):=bDQ _ a b h1 h2
def uW (a b:List Int) (k:Nat):Bool:=((a.zip b).take k).any fun p=>(dR p.1 p.2).2
def mQ (a b:List (List Int)) (k:Nat):Bool:=((a.zip b).take k).any fun p=>aQM p.1 p.2
theorem aKL (a b:List Int) {k:Nat} (h1:k<a.length) (h2:k<b.length):uW a b (k+1)=(uW a b k || (dR a[k] b[k]).2):=bCD _ a b h1 h2
theorem aLC (a b:List (List Int)) {k:Nat} (h1:k<a.length) (h2:k<b.length):mQ a b (k+1)=(mQ a b k || aQM a[k] b[k]):=bCD _ a b h1 h2
theorem aPG (a b:List Int) {k:Nat} (h:min a.length b.length≤k):uW a b k=aQM a b:=by unfold uW aQM;rw[bJ7 a b h]
theorem aPA (a b:List (List Int)) {k:Nat} (h:min a.length b.length≤k):mQ a b k=aLX a b:=by unfold mQ aLX;rw[bJ7 a b h]
def mX:Con:=⟨263,aW,aW,[.val ⟨true,aW,[]⟩],[⟨true,aW,[2,0,0]⟩],false,none,
 ((fun x=>kE x):(fO)→Prop),
 ((fun x=>x):(fO)→(fO))⟩
def wU:T:=.call 0 (.p1 aJ (.bP9 tI .bool) (.Z 0)) <|.ret (.bPB aJ (.bP9 tI .bool) (.Z 1) (aQ aW 1 (.Z 0)))
theorem aNQ:bN Tryz.prog [fI] mX false 3000 ⟨[],[]⟩ = .ok wU:=by kernel_rfl
theorem aOE (x:fO) (hx:okD aW x) (hp:(fun x=>kE x) x):wU.wp [fI] [⟨aW,x⟩] [] (fun v=>v.as aW=(fun x=>x) x):=by
 have hp:kE x:=hp
 delta wU fI;refine dD ?_
 exact ⟨hp,fun _=>by first|rfl|trivial⟩
theorem aNL:Con.Holds Tryz.prog mX:=aS aV (aH zD aT) aNQ aOE
def oN:Con:=⟨219,(.bP9 aW aW),aW,[.val ⟨true,aW,[]⟩,.val ⟨true,aW,[]⟩],[⟨true,aW,[2,0,0]⟩],false,none,
 ((fun x=>kE x.1∧kE x.2):(fO × fO)→Prop),
 ((fun x=>iX x.1 x.2):(fO × fO)→(fO))⟩
def zE:T:=.ite (aQ aW 2 (.p1 aW aW (.Z 0))) (.loop aD (.bPB tI aJ (.ci .i64 0) (.nl 188 aB)) <|
  .bPA (.bPD 188 aB) (.p1 aJ (.bP9 tI .bool) (.p1 aW aW (.Z 0))) <|
  .bPA (.cmp .lss .i64) (.bPB tI tI (.p1 tI aJ (.Z 1)) (.Z 2)) <|
  .ite (.Z 3) (
   .bPA (.bPD 188 aB) (aK (.bP9 aW aW) 1 (.Z 0)) <|
   .bPA (.cmp .lss .i64) (.bPB tI tI (.p1 tI aJ (.Z 1)) (.Z 4)) <|
   .ite (.Z 5) (
    .loop aF (.bPB tI aB (.ci .i64 0) (.nl 3 tI)) <|
     .bPA (.bPE 188 aB) (.bPB aJ tI (.p1 aJ (.bP9 tI .bool) (.p1 aW aW (.Z 0))) (.p1 tI aJ (.Z 1))) <|
     .bPA (.bPD 3 tI) (.Z 7) <|
     .bPA (.cmp .lss .i64) (.bPB tI tI (.p1 tI aB (.Z 6)) (.Z 8)) <|
     .ite (.Z 9) (
      .bPA (.bPE 188 aB) (.bPB aJ tI (aK (.bP9 aW aW) 1 (.Z 0)) (.p1 tI aJ (.Z 1))) <|
      .bPA (.bPD 3 tI) (.Z 10) <|
      .bPA (.cmp .lss .i64) (.bPB tI tI (.p1 tI aB (.Z 6)) (.Z 11)) <|
      .ite (.Z 12) (
       .bPA (.bPE 188 aB) (.bPB aJ tI (.p1 aJ (.bP9 tI .bool) (.p1 aW aW (.Z 0))) (.p1 tI aJ (.Z 1))) <|
       .bPA (.bPE 3 tI) (.bPB aB tI (.Z 13) (.p1 tI aB (.Z 6))) <|
       .bPA (.bPE 188 aB) (.bPB aJ tI (aK (.bP9 aW aW) 1 (.Z 0)) (.p1 tI aJ (.Z 1))) <|
       .bPA (.bPE 3 tI) (.bPB aB tI (.Z 15) (.p1 tI aB (.Z 6))) <|
       .call 0 (.bPB tI tI (.Z 14) (.Z 16)) <|
       .bPA (.lit 3 tI 1) (.p1 tI .bool (.Z 17)) <|
       .bPA (.bPG 3 tI 8) (.bPB aB aB (aQ aF 1 (.Z 6)) (.Z 18)) <|
       .bPA (.ar .add .i64) (.bPB tI tI (.p1 tI aB (.Z 6)) (.ci .i64 1)) <|
       .bPC 0 (.bPB tI aB (.Z 20) (.Z 19))) (
       .bPA (.lit 188 aB 1) (aQ aF 1 (.Z 6)) <|
       .bPA (.bPG 188 aB 24) (.bPB aJ aJ (aQ aD 1 (.Z 1)) (.Z 13)) <|
       .bPA (.ar .add .i64) (.bPB tI tI (.p1 tI aJ (.Z 1)) (.ci .i64 1)) <|
       .bPC 1 (.bPB tI aJ (.Z 15) (.Z 14)))) (
      .bPA (.lit 188 aB 1) (aQ aF 1 (.Z 6)) <|
      .bPA (.bPG 188 aB 24) (.bPB aJ aJ (aQ aD 1 (.Z 1)) (.Z 10)) <|
      .bPA (.ar .add .i64) (.bPB tI tI (.p1 tI aJ (.Z 1)) (.ci .i64 1)) <|
      .bPC 1 (.bPB tI aJ (.Z 12) (.Z 11)))) (
    .call 0 (.bPB tI tI (aK aW 1 (.p1 aW aW (.Z 0))) (aK (.bP9 aW aW) 2 (.Z 0))) <|
    .ret (bG aW [(aQ aD 1 (.Z 1)),(.p1 tI .bool (.Z 6)),(.cb true)]))) (
   .call 0 (.bPB tI tI (aK aW 1 (.p1 aW aW (.Z 0))) (aK (.bP9 aW aW) 2 (.Z 0))) <|
   .ret (bG aW [(aQ aD 1 (.Z 1)),(.p1 tI .bool (.Z 4)),(.cb true)]))) (
 .loop (.bP9 tI (.bP9 aJ .bool)) (bG (.bP9 tI (.bP9 aJ .bool)) [(.ci .i64 0),(.nl 188 aB),(aQ (.bP9 aW aW) 3 (.Z 0))]) <|
  .bPA (.bPD 188 aB) (.p1 aJ (.bP9 tI .bool) (.p1 aW aW (.Z 0))) <|
  .bPA (.cmp .lss .i64) (.bPB tI tI (.p1 tI (.bP9 aJ .bool) (.Z 1)) (.Z 2)) <|
  .ite (.Z 3) (
   .bPA (.bPD 188 aB) (aK (.bP9 aW aW) 1 (.Z 0)) <|
   .bPA (.cmp .lss .i64) (.bPB tI tI (.p1 tI (.bP9 aJ .bool) (.Z 1)) (.Z 4)) <|
   .ite (.Z 5) (
    .loop (.bP9 tI (.bP9 aB .bool)) (bG (.bP9 tI (.bP9 aB .bool)) [(.ci .i64 0),(.nl 3 tI),(aQ (.bP9 tI (.bP9 aJ .bool)) 2 (.Z 1))]) <|
     .bPA (.bPE 188 aB) (.bPB aJ tI (.p1 aJ (.bP9 tI .bool) (.p1 aW aW (.Z 0))) (.p1 tI (.bP9 aJ .bool) (.Z 1))) <|
     .bPA (.bPD 3 tI) (.Z 7) <|
     .bPA (.cmp .lss .i64) (.bPB tI tI (.p1 tI (.bP9 aB .bool) (.Z 6)) (.Z 8)) <|
     .ite (.Z 9) (
      .bPA (.bPE 188 aB) (.bPB aJ tI (aK (.bP9 aW aW) 1 (.Z 0)) (.p1 tI (.bP9 aJ .bool) (.Z 1))) <|
      .bPA (.bPD 3 tI) (.Z 10) <|
      .bPA (.cmp .lss .i64) (.bPB tI tI (.p1 tI (.bP9 aB .bool) (.Z 6)) (.Z 11)) <|
      .ite (.Z 12) (
       .bPA (.bPE 188 aB) (.bPB aJ tI (.p1 aJ (.bP9 tI .bool) (.p1 aW aW (.Z 0))) (.p1 tI (.bP9 aJ .bool) (.Z 1))) <|
       .bPA (.bPE 3 tI) (.bPB aB tI (.Z 13) (.p1 tI (.bP9 aB .bool) (.Z 6))) <|
       .bPA (.bPE 188 aB) (.bPB aJ tI (aK (.bP9 aW aW) 1 (.Z 0)) (.p1 tI (.bP9 aJ .bool) (.Z 1))) <|
       .bPA (.bPE 3 tI) (.bPB aB tI (.Z 15) (.p1 tI (.bP9 aB .bool) (.Z 6))) <|
       .call 0 (.bPB tI tI (.Z 14) (.Z 16)) <|
       .bPA (.lit 3 tI 1) (.p1 tI .bool (.Z 17)) <|
       .bPA (.bPG 3 tI 8) (.bPB aB aB (aK (.bP9 tI (.bP9 aB .bool)) 1 (.Z 6)) (.Z 18)) <|
       .ite (aQ (.bP9 tI (.bP9 aB .bool)) 2 (.Z 6)) (
        .bPA (.ar .add .i64) (.bPB tI tI (.p1 tI (.bP9 aB .bool) (.Z 6)) (.ci .i64 1)) <|
        .bPC 0 (bG (.bP9 tI (.bP9 aB .bool)) [(.Z 20),(.Z 19),(.cb true)])) (
        .bPA (.ar .add .i64) (.bPB tI tI (.p1 tI (.bP9 aB .bool) (.Z 6)) (.ci .i64 1)) <|
        .bPC 0 (bG (.bP9 tI (.bP9 aB .bool)) [(.Z 20),(.Z 19),(aQ (.bP9 tI .bool) 1 (.Z 17))]))) (
       .bPA (.lit 188 aB 1) (aK (.bP9 tI (.bP9 aB .bool)) 1 (.Z 6)) <|
       .bPA (.bPG 188 aB 24) (.bPB aJ aJ (aK (.bP9 tI (.bP9 aJ .bool)) 1 (.Z 1)) (.Z 13)) <|
       .bPA (.ar .add .i64) (.bPB tI tI (.p1 tI (.bP9 aJ .bool) (.Z 1)) (.ci .i64 1)) <|
       .bPC 1 (bG (.bP9 tI (.bP9 aJ .bool)) [(.Z 15),(.Z 14),(aQ (.bP9 tI (.bP9 aB .bool)) 2 (.Z 6))]))) (
      .bPA (.lit 188 aB 1) (aK (.bP9 tI (.bP9 aB .bool)) 1 (.Z 6)) <|
      .bPA (.bPG 188 aB 24) (.bPB aJ aJ (aK (.bP9 tI (.bP9 aJ .bool)) 1 (.Z 1)) (.Z 10)) <|
      .bPA (.ar .add .i64) (.bPB tI tI (.p1 tI (.bP9 aJ .bool) (.Z 1)) (.ci .i64 1)) <|
      .bPC 1 (bG (.bP9 tI (.bP9 aJ .bool)) [(.Z 12),(.Z 11),(aQ (.bP9 tI (.bP9 aB .bool)) 2 (.Z 6))]))) (
    .call 0 (.bPB tI tI (aK aW 1 (.p1 aW aW (.Z 0))) (aK (.bP9 aW aW) 2 (.Z 0))) <|
    .ite (aQ (.bP9 tI (.bP9 aJ .bool)) 2 (.Z 1)) (
     .ret (bG aW [(aK (.bP9 tI (.bP9 aJ .bool)) 1 (.Z 1)),(.p1 tI .bool (.Z 6)),(.cb true)])) (
     .ret (.bPB aJ (.bP9 tI .bool) (aK (.bP9 tI (.bP9 aJ .bool)) 1 (.Z 1)) (.Z 6))))) (
   .call 0 (.bPB tI tI (aK aW 1 (.p1 aW aW (.Z 0))) (aK (.bP9 aW aW) 2 (.Z 0))) <|
   .ite (aQ (.bP9 tI (.bP9 aJ .bool)) 2 (.Z 1)) (
    .ret (bG aW [(aK (.bP9 tI (.bP9 aJ .bool)) 1 (.Z 1)),(.p1 tI .bool (.Z 4)),(.cb true)])) (
    .ret (.bPB aJ (.bP9 tI .bool) (aK (.bP9 tI (.bP9 aJ .bool)) 1 (.Z 1)) (.Z 4)))))
theorem aRK:bN Tryz.prog [fK] oN false 3000 ⟨[(2991,3001,iL 19 13++[.dr 0,.dr 1,.tm 6 0,.sl 7]),(2977,15006,[.tm 8 0,.sl 10]),(2991,2001,iL 19 13++[.dr 0,.dr 1,.tm 6 0,.sl 7,.bx 5 2]),(2977,14006,[.tm 8 0,.sl 10,.bx 5 2])],[(2971,47013,[],[10]),(2971,23010,[],[10]),(2971,46013,[],[10]),(2971,22010,[],[10])]⟩ = .ok zE:=by kernel_rfl
theorem aT4 (x:fO × fO) (hx:okD (.bP9 aW aW) x) (hp:(fun x=>kE x.1∧kE x.2) x):zE.wp [fK] [⟨(.bP9 aW aW),x⟩] [] (fun v=>v.as aW=(fun x=>iX x.1 x.2) x):=by
 obtain ⟨⟨a,la,sa⟩,⟨b,lb,sb⟩⟩:=x
 obtain ⟨⟨ha,ha'⟩,⟨hb,hb'⟩⟩:kE (a,la,sa)∧kE (b,lb,sb):=hp
 dsimp only at ha ha' hb hb'
 delta zE fK;refine dD ?_
 constructor
 ·intro hsat
  refine ⟨fun s=>∃ k:Nat,k≤a.length∧k≤b.length∧s=((k:Int),(eG a b).take k),fun s=>a.length - (s.1:Int).toNat,⟨0,by omega,by omega,by simp⟩,fun s _ hI=>?_⟩
  obtain ⟨k,hk1,hk2,rfl⟩:=hI
  dsimp only
  refine dM ?_
  have fin:a.length≤k∨b.length≤k→∀ r:Int × Bool,r=dR la lb→((eG a b).take k,(r.1,true))=iX (a,la,sa) (b,lb,sb):=fun h r hr=>by
   rw[hr,rS (by rw[kN];omega)]
   unfold iX
   dsimp only at hsat ⊢
   rw[hsat]
   simp
  (repeat' first|intro _|(with_reducible apply And.intro))
  rotate_left
  ·exact fin (by omega) _ rfl
  ·exact fin (by omega) _ rfl
  have h1:k<a.length:=by omega
  have h2:k<b.length:=by omega
  simp only[aZ h1,aZ h2]
  have mA:=ha' _ (List.getElem_mem h1)
  have mB:=hb' _ (List.getElem_mem h2)
  have e0:=rQ a b h1 h2
  generalize a[k]=A at *
  generalize b[k]=B at *
  refine ⟨fun s=>∃ j:Nat,j≤A.length∧j≤B.length∧s=((j:Int),(rB A B).take j),fun s=>A.length - (s.1:Int).toNat,⟨0,by omega,by omega,by simp⟩,fun s _ hI=>?_⟩
  obtain ⟨j,hj1,hj2,rfl⟩:=hI
  dsimp only
  refine dM ?_
  have hl:List.length ((rB A B).take j)=j:=by rw[List.length_take,sG];omega
  have hl2:List.length ((eG a b).take k)=k:=by rw[List.length_take,kN];omega
  have out:A.length≤j∨B.length≤j→(eG a b).take k++[(rB A B).take j]=(eG a b).take (k+1):=fun h=>by
   rw[rS (l:=rB A B) (by rw[sG];omega)];exact e0
  (repeat' first|intro _|(with_reducible apply And.intro))
  all_goals first|omega|(unfold maxLen;omega)|(exact ⟨j+1,by omega,by omega,by rw[aZ (show j<A.length by omega),aZ (show j<B.length by omega),aID A B (by omega) (by omega)];rfl⟩)|(exact ⟨k+1,by omega,by omega,by rw[out (by omega)];rfl⟩)
 ·intro hsat
  refine ⟨fun s=>∃ k:Nat,k≤a.length∧k≤b.length∧s=((k:Int),(eG a b).take k,sb || mQ a b k),fun s=>a.length - (s.1:Int).toNat,⟨0,by omega,by omega,by simp[mQ]⟩,fun s _ hI=>?_⟩
  obtain ⟨k,hk1,hk2,rfl⟩:=hI
  dsimp only
  refine dM ?_
  have fin:a.length≤k∨b.length≤k→∀ r:Int × Bool,r=dR la lb→((eG a b).take k,(r.1,(sb || mQ a b k) || r.2))=iX (a,la,sa) (b,lb,sb):=fun h r hr=>by
   rw[hr,rS (by rw[kN];omega),aPA a b (by omega)]
   unfold iX
   dsimp only at hsat ⊢
   rw[hsat]
   simp
  (repeat' first|intro _|(with_reducible apply And.intro))
  rotate_left
  ·rw[show (sb || mQ a b k)=true by assumption] at fin;exact fin (by omega) _ rfl
  ·rw[show (sb || mQ a b k)=false by assumption] at fin;exact fin (by omega) _ rfl
  ·rw[show (sb || mQ a b k)=true by assumption] at fin;exact fin (by omega) _ rfl
  ·rw[show (sb || mQ a b k)=false by assumption] at fin;exact fin (by omega) _ rfl
  have h1:k<a.length:=by omega
  have h2:k<b.length:=by omega
  simp only[aZ h1,aZ h2]
  have mA:=ha' _ (List.getElem_mem h1)
  have mB:=hb' _ (List.getElem_mem h2)
  have e0:=rQ a b h1 h2
  have e1:(sb || mQ a b (k+1))=((sb || mQ a b k) || aQM a[k] b[k]):=by rw[aLC a b h1 h2,Bool.or_assoc]
  clear fin
  generalize (sb || mQ a b k)=f0 at *
  generalize a[k]=A at *
  generalize b[k]=B at *
  refine ⟨fun s=>∃ j:Nat,j≤A.length∧j≤B.length∧s=((j:Int),(rB A B).take j,f0 || uW A B j),fun s=>A.length - (s.1:Int).toNat,⟨0,by omega,by omega,by simp[uW]⟩,fun s _ hI=>?_⟩
  obtain ⟨j,hj1,hj2,rfl⟩:=hI
  dsimp only
  refine dM ?_
  have hl:List.length ((rB A B).take j)=j:=by rw[List.length_take,sG];omega
  have hl2:List.length ((eG a b).take k)=k:=by rw[List.length_take,kN];omega
  have out:A.length≤j∨B.length≤j→((eG a b).take k++[(rB A B).take j],f0 || uW A B j)=((eG a b).take (k+1),sb || mQ a b (k+1)):=fun h=>by
   rw[rS (l:=rB A B) (by rw[sG];omega),e0,e1,aPG A B (by omega)]
  (repeat' first|intro _|(with_reducible apply And.intro))
  all_goals first|omega|(unfold maxLen;omega)|skip
  all_goals first|(exact ⟨k+1,by omega,by omega,by rw[← out (by omega)];rfl⟩)|(refine ⟨j+1,by omega,by omega,?_⟩)
  all_goals rw[aZ (show j<A.length by omega),aZ (show j<B.length by omega),aID A B (by omega) (by omega),aKL A B (by omega) (by omega),← Bool.or_assoc]
  ·rw[show (f0 || uW A B j)=true by assumption];rfl
  ·rw[show (f0 || uW A B j)=false by assumption];rfl
theorem aRP:Con.Holds Tryz.prog oN:=aS aV (aH zK aT) aRK aT4
def gW:Con:=⟨274,tI,(.bP9 tI .bool),[.val ⟨false,tI,[]⟩],[⟨false,tI,[0]⟩,⟨false,.bool,[0]⟩],false,none,
 ((fun _=>True):(Int)→Prop),
 ((fun x=>aLS x):(Int)→(Int × Bool))⟩
def aHB:T :=
 .bPA (.cmp .gtr .i64) (.bPB tI tI (.Z 0) (.ci .i64 2147483647)) <|
 .ite (.Z 1) (
  .ret (.bPB tI .bool (.ci .i64 2147483647) (.cb true))) (
  .bPA (.cmp .lss .i64) (.bPB tI tI (.Z 0) (.ci .i64 (-2147483647))) <|
  .ite (.Z 2) (
   .ret (.bPB tI .bool (.ci .i64 (-2147483647)) (.cb true))) (
   .ret (.bPB tI .bool (.Z 0) (.cb false))))
theorem bGQ:bN Tryz.prog [] gW false 3000 ⟨[],[]⟩ = .ok aHB:=by kernel_rfl
theorem bEQ (x:Int) (hx:okD tI x) (hp:(fun _=>True) x):aHB.wp [] [⟨tI,x⟩] [] (fun v=>v.as (.bP9 tI .bool)=(fun x=>aLS x) x):=by
 delta aHB;refine dD ?_
 unfold aLS eT
 refine dM ?_
 refine ⟨fun h=>?_,fun h=>⟨fun h2=>?_,fun h2=>?_⟩⟩
 ·have:min (max x (-2147483647)) 2147483647=2147483647:=by omega
  rw[this];simp;omega
 ·have:min (max x (-2147483647)) 2147483647 = -2147483647:=by omega
  rw[this];simp;omega
 ·have:min (max x (-2147483647)) 2147483647=x:=by omega
  rw[this];simp
theorem aCQ:Con.Holds Tryz.prog gW:=aS aV aT bGQ bEQ
def jN:Con:=⟨275,tI,tI,[.val ⟨false,tI,[]⟩],[⟨false,tI,[0]⟩],false,none,
 ((fun _=>True):(Int)→Prop),
 ((fun x=>eT x):(Int)→(Int))⟩
def aM5:T:=.call 0 (.Z 0) <|.ret (.p1 tI .bool (.Z 1))
theorem bKE:bN Tryz.prog [gW] jN false 3000 ⟨[],[]⟩ = .ok aM5:=by kernel_rfl
theorem bHH (x:Int) (hx:okD tI x) (hp:(fun _=>True) x):aM5.wp [gW] [⟨tI,x⟩] [] (fun v=>v.as tI=(fun x=>eT x) x):=by
 delta aM5 gW;refine dD ?_
 exact fun _=>rfl
theorem aGF:Con.Holds Tryz.prog jN:=aS aV (aH aCQ aT) bKE bHH
def dU:Con:=⟨196,aP,(.bP9 tI .bool),[.val ⟨false,tI,[]⟩,.val ⟨false,tI,[]⟩],[⟨false,tI,[0]⟩,⟨false,.bool,[0]⟩],false,none,
 ((fun _=>True):(Int × Int)→Prop),
 ((fun x=>dR x.1 x.2):(Int × Int)→(Int × Bool))⟩
def aE0:T:=.call 0 (.p1 tI tI (.Z 0)) <|.call 0 (aQ aP 1 (.Z 0)) <|
 .bPA (.ar .add .i64) (.bPB tI tI (.Z 1) (.Z 2)) <|
 .call 1 (.Z 3) <|
 .ret (.Z 4)
theorem aZ7:bN Tryz.prog [jN,gW] dU false 3000 ⟨[],[]⟩ = .ok aE0:=by kernel_rfl
theorem bA9 (x:Int × Int) (hx:okD aP x) (hp:(fun _=>True) x):aE0.wp [jN,gW] [⟨aP,x⟩] [] (fun v=>v.as (.bP9 tI .bool)=(fun x=>dR x.1 x.2) x):=by
 delta aE0 jN gW;refine dD ?_
 intro _ _
 have h1:=kT x.1
 have h2:=kT x.2
 exact ⟨by omega,fun _ _=>rfl⟩
theorem sW:Con.Holds Tryz.prog dU:=aS aV (aH aGF (aH aCQ aT)) aZ7 bA9
def qA:Con:=⟨192,aJ,aJ,[.val ⟨false,aJ,[]⟩],[⟨false,aJ,[2]⟩],false,none,
 ((fun x=>List.length x≤1000000000∧∀ y∈x,List.length y≤1000000000):(cZ)→Prop),
 ((fun x=>x):(cZ)→(cZ))⟩
def aBK:T:=.loop aD (.bPB tI aJ (.ci .i64 0) (.nl 188 aB)) <|
 .bPA (.bPD 188 aB) (.Z 0) <|
 .bPA (.cmp .lss .i64) (.bPB tI tI (.p1 tI aJ (.Z 1)) (.Z 2)) <|
 .ite (.Z 3) (
  .bPA (.bPE 188 aB) (.bPB aJ tI (.Z 0) (.p1 tI aJ (.Z 1))) <|
  .bPA (.bPG 3 tI 8) (.bPB aB aB (.nl 3 tI) (.Z 4)) <|
  .bPA (.lit 188 aB 1) (.Z 5) <|
  .bPA (.bPG 188 aB 24) (.bPB aJ aJ (aQ aD 1 (.Z 1)) (.Z 6)) <|
  .bPA (.ar .add .i64) (.bPB tI tI (.p1 tI aJ (.Z 1)) (.ci .i64 1)) <|
  .bPC 0 (.bPB tI aJ (.Z 8) (.Z 7))) (
  .ret (aQ aD 1 (.Z 1)))
theorem aWX:bN Tryz.prog [] qA false 3000 ⟨[(2991,1001,[.dr 5,.tm 4 0,.on 3,.sl 1])],[(2983,3004,[19],[])]⟩ = .ok aBK:=by kernel_rfl
theorem aU1 (x:cZ) (hx:okD aJ x) (hp:(fun x=>List.length x≤1000000000∧∀ y∈x,List.length y≤1000000000) x):aBK.wp [] [⟨aJ,x⟩] [] (fun v=>v.as aJ=(fun x=>x) x):=by
 obtain ⟨hp1,hp2⟩:List.length x≤1000000000∧∀ y∈x,List.length y≤1000000000:=hp
 delta aBK;refine dD ?_
 refine ⟨fun s=>∃ k:Nat,k≤x.length∧s=((k:Int),x.take k),fun s=>x.length - (s.1:Int).toNat,⟨0,Nat.zero_le _,by simp⟩,fun s hs hI=>?_⟩
 obtain ⟨k,hk,rfl⟩:=hI
 dsimp only
 refine dM ?_
 intro _
 constructor
 ·intro hlt
  have hk':k<x.length:=by omega
  rw[aZ hk']
  have hm:=hp2 _ (List.getElem_mem hk')
  have hl:(x.take k).length=k:=List.length_take_of_le hk
  (repeat' first|intro _|(with_reducible apply And.intro))
  all_goals first|omega|(unfold maxLen;omega)|(exact ⟨k+1,by omega,by rw[jF hk'];rfl⟩)
 ·intro hge
  have:k=x.length:=by omega
  subst this
  show x.take x.length=x
  simp
theorem aW6:Con.Holds Tryz.prog qA:=aS aV aT aWX aU1
def xK:Con:=⟨279,aI,(.bP9 aB .bool),[.val ⟨false,aB,[]⟩,.val ⟨false,aB,[]⟩],[⟨false,aB,[2]⟩,⟨false,.bool,[0]⟩],false,none,
 ((fun x=>List.length x.1≤1000000000∧List.length x.2≤1000000000):(bP)→Prop),
 ((fun x=>(rB x.1 x.2,aQM x.1 x.2)):(bP)→(cF × Bool))⟩
def aHJ:T:=.loop (.bP9 tI (.bP9 .bool aB)) (bG (.bP9 tI (.bP9 .bool aB)) [(.ci .i64 0),(.cb false),(.nl 3 tI)]) <|
 .bPA (.bPD 3 tI) (.p1 aB aB (.Z 0)) <|
 .bPA (.cmp .lss .i64) (.bPB tI tI (.p1 tI (.bP9 .bool aB) (.Z 1)) (.Z 2)) <|
 .ite (.Z 3) (
  .bPA (.bPD 3 tI) (aQ aI 1 (.Z 0)) <|
  .bPA (.cmp .lss .i64) (.bPB tI tI (.p1 tI (.bP9 .bool aB) (.Z 1)) (.Z 4)) <|
  .ite (.Z 5) (
   .bPA (.bPE 3 tI) (.bPB aB tI (.p1 aB aB (.Z 0)) (.p1 tI (.bP9 .bool aB) (.Z 1))) <|
   .bPA (.bPE 3 tI) (.bPB aB tI (aQ aI 1 (.Z 0)) (.p1 tI (.bP9 .bool aB) (.Z 1))) <|
   .call 0 (.bPB tI tI (.Z 6) (.Z 7)) <|
   .bPA (.lit 3 tI 1) (.p1 tI .bool (.Z 8)) <|
   .bPA (.bPG 3 tI 8) (.bPB aB aB (aQ (.bP9 tI (.bP9 .bool aB)) 2 (.Z 1)) (.Z 9)) <|
   .ite (aK (.bP9 tI (.bP9 .bool aB)) 1 (.Z 1)) (
    .bPA (.ar .add .i64) (.bPB tI tI (.p1 tI (.bP9 .bool aB) (.Z 1)) (.ci .i64 1)) <|
    .bPC 0 (bG (.bP9 tI (.bP9 .bool aB)) [(.Z 11),(.cb true),(.Z 10)])) (
    .bPA (.ar .add .i64) (.bPB tI tI (.p1 tI (.bP9 .bool aB) (.Z 1)) (.ci .i64 1)) <|
    .bPC 0 (bG (.bP9 tI (.bP9 .bool aB)) [(.Z 11),(aQ (.bP9 tI .bool) 1 (.Z 8)),(.Z 10)]))) (
   .ret (.bPB aB .bool (aQ (.bP9 tI (.bP9 .bool aB)) 2 (.Z 1)) (aK (.bP9 tI (.bP9 .bool aB)) 1 (.Z 1))))) (
  .ret (.bPB aB .bool (aQ (.bP9 tI (.bP9 .bool aB)) 2 (.Z 1)) (aK (.bP9 tI (.bP9 .bool aB)) 1 (.Z 1))))
theorem bG3:bN Tryz.prog [dU] xK false 3000 ⟨[(2989,1001,[.dr 11,.tm 8 0,.tm 7 0,.on 6,.sl 1])],[]⟩ = .ok aHJ:=by kernel_rfl
theorem bFW (x:bP) (hx:okD aI x) (hp:(fun x=>List.length x.1≤1000000000∧List.length x.2≤1000000000) x):aHJ.wp [dU] [⟨aI,x⟩] [] (fun v=>v.as (.bP9 aB .bool)=(fun x=>(rB x.1 x.2,aQM x.1 x.2)) x):=by
 obtain ⟨A,B⟩:=x
 obtain ⟨mA,mB⟩:List.length A≤1000000000∧List.length B≤1000000000:=hp
 delta aHJ dU;refine dD ?_
 refine ⟨fun s=>∃ j:Nat,j≤A.length∧j≤B.length∧s=((j:Int),uW A B j,(rB A B).take j),fun s=>A.length - (s.1:Int).toNat,⟨0,by omega,by omega,by simp[uW]⟩,fun s _ hI=>?_⟩
 obtain ⟨j,hj1,hj2,rfl⟩:=hI
 dsimp only
 refine dM ?_
 have hl:List.length ((rB A B).take j)=j:=by rw[List.length_take,sG];omega
 have out:A.length≤j∨B.length≤j→((rB A B).take j,uW A B j)=(rB A B,aQM A B):=fun h=>by
  rw[rS (l:=rB A B) (by rw[sG];omega),aPG A B (by omega)]
 (repeat' first|intro _|(with_reducible apply And.intro))
 all_goals first|omega|(unfold maxLen;omega)|(exact out (by omega))|(refine ⟨j+1,by omega,by omega,?_⟩)
 all_goals rw[aZ (show j<A.length by omega),aZ (show j<B.length by omega),aID A B (by omega) (by omega),aKL A B (by omega) (by omega)]
 ·rw[show uW A B j=true by assumption];rfl
 ·rw[show uW A B j=false by assumption];rfl
theorem bFB:Con.Holds Tryz.prog xK:=aS aV (aH sW aT) bG3 bFW
def bK:Con:=⟨115,(.bP9 tI aP),.bool,[.val ⟨false,tI,[]⟩,.val ⟨false,tI,[]⟩,.val ⟨false,tI,[]⟩],[⟨false,.bool,[0]⟩],false,none,
 ((fun _=>True):(Int × gI)→Prop),
 ((fun x=>decide (x.2.1≤x.1)&&decide (x.1≤x.2.2)):(Int × gI)→(Bool))⟩
def aN4:T :=
 .bPA (.cmp .geq .i64) (.bPB tI tI (.p1 tI aP (.Z 0)) (aK (.bP9 tI aP) 1 (.Z 0))) <|
 .ite (.Z 1) (
  .bPA (.cmp .leq .i64) (.bPB tI tI (.p1 tI aP (.Z 0)) (aQ (.bP9 tI aP) 2 (.Z 0))) <|
  .ret (.Z 2)) (
  .ret (.cb false))
theorem bHG:bN Tryz.prog [] bK false 3000 ⟨[],[]⟩ = .ok aN4:=by kernel_rfl
theorem bJ2 (x:Int × gI) (hx:okD (.bP9 tI aP) x) (hp:(fun _=>True) x):aN4.wp [] [⟨(.bP9 tI aP),x⟩] [] (fun v=>v.as .bool=(fun x=>decide (x.2.1≤x.1)&&decide (x.1≤x.2.2)) x):=by
 delta aN4;refine dD ?_
 refine dM ?_
 constructor
 ·intro h;simp[h]
 ·intro h
  have:¬ x.2.1≤x.1:=by omega
  simp[this]
theorem fM:Con.Holds Tryz.prog bK:=aS aV aT bHG bJ2
def nX:Con:=⟨199,(.bP9 aW aW),aW,[.val ⟨true,aW,[]⟩,.val ⟨true,aW,[]⟩],[⟨true,aW,[2,0,0]⟩],false,none,
 ((fun x=>kE x.1∧kE x.2):(fO × fO)→Prop),
 ((fun x=>iX x.1 x.2):(fO × fO)→(fO))⟩
def yU:T:=.ite (aQ aW 2 (.p1 aW aW (.Z 0))) (.loop aD (.bPB tI aJ (.ci .i64 0) (.nl 188 aB)) <|
  .bPA (.bPD 188 aB) (.p1 aJ (.bP9 tI .bool) (.p1 aW aW (.Z 0))) <|
  .bPA (.cmp .lss .i64) (.bPB tI tI (.p1 tI aJ (.Z 1)) (.Z 2)) <|
  .ite (.Z 3) (
   .bPA (.bPD 188 aB) (aK (.bP9 aW aW) 1 (.Z 0)) <|
   .bPA (.cmp .lss .i64) (.bPB tI tI (.p1 tI aJ (.Z 1)) (.Z 4)) <|
   .ite (.Z 5) (
    .bPA (.bPE 188 aB) (.bPB aJ tI (.p1 aJ (.bP9 tI .bool) (.p1 aW aW (.Z 0))) (.p1 tI aJ (.Z 1))) <|
    .bPA (.bPE 188 aB) (.bPB aJ tI (aK (.bP9 aW aW) 1 (.Z 0)) (.p1 tI aJ (.Z 1))) <|
    .call 0 (.bPB aB aB (.Z 6) (.Z 7)) <|
    .bPA (.lit 188 aB 1) (.p1 aB .bool (.Z 8)) <|
    .bPA (.bPG 188 aB 24) (.bPB aJ aJ (aQ aD 1 (.Z 1)) (.Z 9)) <|
    .bPA (.ar .add .i64) (.bPB tI tI (.p1 tI aJ (.Z 1)) (.ci .i64 1)) <|
    .bPC 0 (.bPB tI aJ (.Z 11) (.Z 10))) (
    .call 1 (.bPB tI tI (aK aW 1 (.p1 aW aW (.Z 0))) (aK (.bP9 aW aW) 2 (.Z 0))) <|
    .ret (bG aW [(aQ aD 1 (.Z 1)),(.p1 tI .bool (.Z 6)),(.cb true)]))) (
   .call 1 (.bPB tI tI (aK aW 1 (.p1 aW aW (.Z 0))) (aK (.bP9 aW aW) 2 (.Z 0))) <|
   .ret (bG aW [(aQ aD 1 (.Z 1)),(.p1 tI .bool (.Z 4)),(.cb true)]))) (
 .loop (.bP9 tI (.bP9 aJ .bool)) (bG (.bP9 tI (.bP9 aJ .bool)) [(.ci .i64 0),(.nl 188 aB),(aQ (.bP9 aW aW) 3 (.Z 0))]) <|
  .bPA (.bPD 188 aB) (.p1 aJ (.bP9 tI .bool) (.p1 aW aW (.Z 0))) <|
  .bPA (.cmp .lss .i64) (.bPB tI tI (.p1 tI (.bP9 aJ .bool) (.Z 1)) (.Z 2)) <|
  .ite (.Z 3) (
   .bPA (.bPD 188 aB) (aK (.bP9 aW aW) 1 (.Z 0)) <|
   .bPA (.cmp .lss .i64) (.bPB tI tI (.p1 tI (.bP9 aJ .bool) (.Z 1)) (.Z 4)) <|
   .ite (.Z 5) (
    .bPA (.bPE 188 aB) (.bPB aJ tI (.p1 aJ (.bP9 tI .bool) (.p1 aW aW (.Z 0))) (.p1 tI (.bP9 aJ .bool) (.Z 1))) <|
    .bPA (.bPE 188 aB) (.bPB aJ tI (aK (.bP9 aW aW) 1 (.Z 0)) (.p1 tI (.bP9 aJ .bool) (.Z 1))) <|
    .call 0 (.bPB aB aB (.Z 6) (.Z 7)) <|
    .bPA (.lit 188 aB 1) (.p1 aB .bool (.Z 8)) <|
    .bPA (.bPG 188 aB 24) (.bPB aJ aJ (aK (.bP9 tI (.bP9 aJ .bool)) 1 (.Z 1)) (.Z 9)) <|
    .ite (aQ (.bP9 tI (.bP9 aJ .bool)) 2 (.Z 1)) (
     .bPA (.ar .add .i64) (.bPB tI tI (.p1 tI (.bP9 aJ .bool) (.Z 1)) (.ci .i64 1)) <|
     .bPC 0 (bG (.bP9 tI (.bP9 aJ .bool)) [(.Z 11),(.Z 10),(.cb true)])) (
     .bPA (.ar .add .i64) (.bPB tI tI (.p1 tI (.bP9 aJ .bool) (.Z 1)) (.ci .i64 1)) <|
     .bPC 0 (bG (.bP9 tI (.bP9 aJ .bool)) [(.Z 11),(.Z 10),(aQ (.bP9 aB .bool) 1 (.Z 8))]))) (
    .call 1 (.bPB tI tI (aK aW 1 (.p1 aW aW (.Z 0))) (aK (.bP9 aW aW) 2 (.Z 0))) <|
    .ite (aQ (.bP9 tI (.bP9 aJ .bool)) 2 (.Z 1)) (
     .ret (bG aW [(aK (.bP9 tI (.bP9 aJ .bool)) 1 (.Z 1)),(.p1 tI .bool (.Z 6)),(.cb true)])) (
     .ret (.bPB aJ (.bP9 tI .bool) (aK (.bP9 tI (.bP9 aJ .bool)) 1 (.Z 1)) (.Z 6))))) (
   .call 1 (.bPB tI tI (aK aW 1 (.p1 aW aW (.Z 0))) (aK (.bP9 aW aW) 2 (.Z 0))) <|
   .ite (aQ (.bP9 tI (.bP9 aJ .bool)) 2 (.Z 1)) (
    .ret (bG aW [(aK (.bP9 tI (.bP9 aJ .bool)) 1 (.Z 1)),(.p1 tI .bool (.Z 4)),(.cb true)])) (
    .ret (.bPB aJ (.bP9 tI .bool) (aK (.bP9 tI (.bP9 aJ .bool)) 1 (.Z 1)) (.Z 4)))))
theorem aRD:bN Tryz.prog [xK,dU] nX false 3000 ⟨[(2991,3001,iL 17 11++[.dr 0,.dr 1,.tm 6 0,.sl 7]),(2991,2001,iL 17 11++[.dr 0,.dr 1,.tm 6 0,.sl 7,.bx 5 2])],[(2980,15009,[],[8]),(2980,14009,[],[8])]⟩ = .ok yU:=by kernel_rfl
theorem aR2 (x:fO × fO) (hx:okD (.bP9 aW aW) x) (hp:(fun x=>kE x.1∧kE x.2) x):yU.wp [xK,dU] [⟨(.bP9 aW aW),x⟩] [] (fun v=>v.as aW=(fun x=>iX x.1 x.2) x):=by
 obtain ⟨⟨a,la,sa⟩,⟨b,lb,sb⟩⟩:=x
 obtain ⟨⟨ha,ha'⟩,⟨hb,hb'⟩⟩:kE (a,la,sa)∧kE (b,lb,sb):=hp
 dsimp only at ha ha' hb hb'
 delta yU xK dU;refine dD ?_
 constructor
 ·intro hsat
  refine ⟨fun s=>∃ k:Nat,k≤a.length∧k≤b.length∧s=((k:Int),(eG a b).take k),fun s=>a.length - (s.1:Int).toNat,⟨0,by omega,by omega,by simp⟩,fun s _ hI=>?_⟩
  obtain ⟨k,hk1,hk2,rfl⟩:=hI
  dsimp only
  refine dM ?_
  have fin:a.length≤k∨b.length≤k→∀ r:Int × Bool,r=dR la lb→((eG a b).take k,(r.1,true))=iX (a,la,sa) (b,lb,sb):=fun h r hr=>by
   rw[hr,rS (by rw[kN];omega)]
   unfold iX
   dsimp only at hsat ⊢
   rw[hsat]
   simp
  have hl2:List.length ((eG a b).take k)=k:=by rw[List.length_take,kN];omega
  (repeat' first|intro _|(with_reducible apply And.intro))
  all_goals first|omega|(unfold maxLen;omega)|(exact fin (by omega) _ rfl)|skip
  all_goals have h1:k<a.length:=by omega
  all_goals have h2:k<b.length:=by omega
  all_goals simp only[aZ h1,aZ h2]
  all_goals first|(exact ha' _ (List.getElem_mem h1))|(exact hb' _ (List.getElem_mem h2))|(exact ⟨k+1,by omega,by omega,by rw[rQ a b h1 h2];rfl⟩)
 ·intro hsat
  refine ⟨fun s=>∃ k:Nat,k≤a.length∧k≤b.length∧s=((k:Int),(eG a b).take k,sb || mQ a b k),fun s=>a.length - (s.1:Int).toNat,⟨0,by omega,by omega,by simp[mQ]⟩,fun s _ hI=>?_⟩
  obtain ⟨k,hk1,hk2,rfl⟩:=hI
  dsimp only
  refine dM ?_
  have fin:a.length≤k∨b.length≤k→∀ r:Int × Bool,r=dR la lb→((eG a b).take k,(r.1,(sb || mQ a b k) || r.2))=iX (a,la,sa) (b,lb,sb):=fun h r hr=>by
   rw[hr,rS (by rw[kN];omega),aPA a b (by omega)]
   unfold iX
   dsimp only at hsat ⊢
   rw[hsat]
   simp
  have hl2:List.length ((eG a b).take k)=k:=by rw[List.length_take,kN];omega
  (repeat' first|intro _|(with_reducible apply And.intro))
  all_goals first|omega|(unfold maxLen;omega)|skip
  all_goals first|(rw[show (sb || mQ a b k)=true by assumption] at fin;exact fin (by omega) _ rfl)|(rw[show (sb || mQ a b k)=false by assumption] at fin;exact fin (by omega) _ rfl)|skip
  all_goals have h1:k<a.length:=by omega
  all_goals have h2:k<b.length:=by omega
  all_goals simp only[aZ h1,aZ h2]
  all_goals first|(exact ha' _ (List.getElem_mem h1))|(exact hb' _ (List.getElem_mem h2))|(refine ⟨k+1,by omega,by omega,?_⟩)
  all_goals rw[rQ a b h1 h2,aLC a b h1 h2,← Bool.or_assoc]
  ·rw[show (sb || mQ a b k)=true by assumption];rfl
  ·rw[show (sb || mQ a b k)=false by assumption];rfl
theorem aR8:Con.Holds Tryz.prog nX:=aS aV (aH bFB (aH sW aT)) aRD aR2
end
end Go.Proofs.YtmfpkkbhnmkfdaaGreat
