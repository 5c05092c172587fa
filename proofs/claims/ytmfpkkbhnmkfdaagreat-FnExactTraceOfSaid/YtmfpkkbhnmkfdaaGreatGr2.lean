/- Gr2: trees, and what they say. -/
import Derived.Test.YtmfpkkbhnmkfdaaGreatFix2
namespace Go.Proofs.YtmfpkkbhnmkfdaaGreat
open Go.ChangeShapes Go.WideShapes Go.ChangeAt Go.RowKit Go.Deep
set_option linter.unusedVariables false
set_option linter.unusedSimpArgs false
def oD (a b:List Int):List Int:=List.zipWith (fun x y=>(dH x y).1) a b
def aKM (a b:List Int):Bool:=(a.zip b).any fun p=>(dH p.1 p.2).2
def dQ (a b:List (List Int)):List (List Int):=List.zipWith oD a b
def aFA (a b:List (List Int)):Bool:=(a.zip b).any fun p=>aKM p.1 p.2
def gK (a b:fH):fH:=(dQ a.1 b.1,((dH a.2.1 b.2.1).1,a.2.2 || b.2.2 || aFA a.1 b.1 || (dH a.2.1 b.2.1).2))
theorem bDP {α β γ:Type} (f:α→β→γ) (a:List α) (b:List β):(List.zipWith f a b).length = min a.length b.length:=List.length_zipWith
theorem aUU {α β γ:Type} (f:α→β→γ) (a:List α) (b:List β) {k:Nat} (h1:k < a.length) (h2:k < b.length):(List.zipWith f a b).take k ++ [f a[k] b[k]] = (List.zipWith f a b).take (k + 1):=by
 have h:k < (List.zipWith f a b).length:=by rw [bDP];omega
 rw [List.take_succ_eq_append_getElem h,List.getElem_zipWith]
theorem aUX {α β:Type} (F:α × β→Bool) (a:List α) (b:List β) {k:Nat} (h1:k < a.length) (h2:k < b.length):((a.zip b).take (k + 1)).any F = (((a.zip b).take k).any F || F (a[k],b[k])):=by
 have h:k < (a.zip b).length:=by rw [List.length_zip];omega
 rw [List.take_succ_eq_append_getElem h,List.any_append]
 simp
theorem aZG {α β:Type} (a:List α) (b:List β) {k:Nat} (h:min a.length b.length≤k):(a.zip b).take k = a.zip b:=List.take_of_length_le (by rw [List.length_zip];exact h)
def iJ (g:fH):Prop:=g.1.length≤1000000000∧∀ r ∈ g.1,r.length≤1000000000
theorem vC {α:Type} {l:List α} {k:Nat} (h:l.length≤k):l.take k = l:=List.take_of_length_le h
theorem iT (a b:List (List Int)):(dQ a b).length = min a.length b.length:=List.length_zipWith
theorem qH (a b:List Int):(oD a b).length = min a.length b.length:=List.length_zipWith
theorem aCM (a b:List Int) {k:Nat} (h1:k < a.length) (h2:k < b.length):(oD a b).take k ++ [(dH a[k] b[k]).1] = (oD a b).take (k + 1):=aUU _ a b h1 h2
theorem oQ (a b:List (List Int)) {k:Nat} (h1:k < a.length) (h2:k < b.length):(dQ a b).take k ++ [oD a[k] b[k]] = (dQ a b).take (k + 1):=aUU _ a b h1 h2
def rF (a b:List Int) (k:Nat):Bool:=((a.zip b).take k).any fun p=>(dH p.1 p.2).2
def kO (a b:List (List Int)) (k:Nat):Bool:=((a.zip b).take k).any fun p=>aKM p.1 p.2
theorem aGO (a b:List Int) {k:Nat} (h1:k < a.length) (h2:k < b.length):rF a b (k + 1) = (rF a b k || (dH a[k] b[k]).2):=aUX _ a b h1 h2
theorem aGQ (a b:List (List Int)) {k:Nat} (h1:k < a.length) (h2:k < b.length):kO a b (k + 1) = (kO a b k || aKM a[k] b[k]):=aUX _ a b h1 h2
theorem aIK (a b:List Int) {k:Nat} (h:min a.length b.length≤k):rF a b k = aKM a b:=by unfold rF aKM;rw [aZG a b h]
theorem aJB (a b:List (List Int)) {k:Nat} (h:min a.length b.length≤k):kO a b k = aFA a b:=by unfold kO aFA;rw [aZG a b h]
noncomputable def kT:Con:=⟨263,aM,aM,[.val ⟨true,aM,[]⟩],[⟨true,aM,[2,0,0]⟩],false,none,
 ((fun x=>iJ x):(fH)→Prop),
 ((fun x=>x):(fH)→(fH))⟩
def sL:T :=
 .call 0 (.p1 aG (.pair tI .bool) (.vr 0)) <|
 .ret (.mk2 aG (.pair tI .bool) (.vr 1) (aQ aM 1 (.vr 0)))
set_option maxRecDepth 100000 in
theorem aI6:bS Tryz.prog [eP] kT false 3000 ⟨[],[]⟩ = .ok sL:=by kernel_rfl
theorem aIB (x:fH) (hx:okD aM x) (hp:(fun x=>iJ x) x):sL.wp [eP] [⟨aM,x⟩] [] (fun v=>v.as aM = (fun x=>x) x):=by
 have hp:iJ x:=hp
 delta sL eP;refine eS ?_;try with_reducible exact True.intro
 exact ⟨hp,fun _=>by first | rfl | trivial⟩
theorem aI7:Con.Holds Tryz.prog kT:=aT aY (aK tR aU) aI6 fun x hx hp=>aIB x hx hp
noncomputable def lT:Con:=⟨219,(.pair aM aM),aM,[.val ⟨true,aM,[]⟩,.val ⟨true,aM,[]⟩],[⟨true,aM,[2,0,0]⟩],false,none,
 ((fun x=>iJ x.1∧iJ x.2):(fH × fH)→Prop),
 ((fun x=>gK x.1 x.2):(fH × fH)→(fH))⟩
def tW:T :=
 .ite (aQ aM 2 (.p1 aM aM (.vr 0))) (
  .loop aC (.mk2 tI aG (.ci .i64 0) (.nl 188 aB)) <|
   .prim (.llen 188 aB) (.p1 aG (.pair tI .bool) (.p1 aM aM (.vr 0))) <|
   .prim (.cmp .lss .i64) (.mk2 tI tI (.p1 tI aG (.vr 1)) (.vr 2)) <|
   .ite (.vr 3) (
    .prim (.llen 188 aB) (aJ (.pair aM aM) 1 (.vr 0)) <|
    .prim (.cmp .lss .i64) (.mk2 tI tI (.p1 tI aG (.vr 1)) (.vr 4)) <|
    .ite (.vr 5) (
     .loop aD (.mk2 tI aB (.ci .i64 0) (.nl 3 tI)) <|
      .prim (.lidx 188 aB) (.mk2 aG tI (.p1 aG (.pair tI .bool) (.p1 aM aM (.vr 0))) (.p1 tI aG (.vr 1))) <|
      .prim (.llen 3 tI) (.vr 7) <|
      .prim (.cmp .lss .i64) (.mk2 tI tI (.p1 tI aB (.vr 6)) (.vr 8)) <|
      .ite (.vr 9) (
       .prim (.lidx 188 aB) (.mk2 aG tI (aJ (.pair aM aM) 1 (.vr 0)) (.p1 tI aG (.vr 1))) <|
       .prim (.llen 3 tI) (.vr 10) <|
       .prim (.cmp .lss .i64) (.mk2 tI tI (.p1 tI aB (.vr 6)) (.vr 11)) <|
       .ite (.vr 12) (
        .prim (.lidx 188 aB) (.mk2 aG tI (.p1 aG (.pair tI .bool) (.p1 aM aM (.vr 0))) (.p1 tI aG (.vr 1))) <|
        .prim (.lidx 3 tI) (.mk2 aB tI (.vr 13) (.p1 tI aB (.vr 6))) <|
        .prim (.lidx 188 aB) (.mk2 aG tI (aJ (.pair aM aM) 1 (.vr 0)) (.p1 tI aG (.vr 1))) <|
        .prim (.lidx 3 tI) (.mk2 aB tI (.vr 15) (.p1 tI aB (.vr 6))) <|
        .call 0 (.mk2 tI tI (.vr 14) (.vr 16)) <|
        .prim (.lit 3 tI 1) (.p1 tI .bool (.vr 17)) <|
        .prim (.lapp 3 tI 8) (.mk2 aB aB (aQ aD 1 (.vr 6)) (.vr 18)) <|
        .prim (.ar .add .i64) (.mk2 tI tI (.p1 tI aB (.vr 6)) (.ci .i64 1)) <|
        .again 0 (.mk2 tI aB (.vr 20) (.vr 19))) (
        .prim (.lit 188 aB 1) (aQ aD 1 (.vr 6)) <|
        .prim (.lapp 188 aB 24) (.mk2 aG aG (aQ aC 1 (.vr 1)) (.vr 13)) <|
        .prim (.ar .add .i64) (.mk2 tI tI (.p1 tI aG (.vr 1)) (.ci .i64 1)) <|
        .again 1 (.mk2 tI aG (.vr 15) (.vr 14)))) (
       .prim (.lit 188 aB 1) (aQ aD 1 (.vr 6)) <|
       .prim (.lapp 188 aB 24) (.mk2 aG aG (aQ aC 1 (.vr 1)) (.vr 10)) <|
       .prim (.ar .add .i64) (.mk2 tI tI (.p1 tI aG (.vr 1)) (.ci .i64 1)) <|
       .again 1 (.mk2 tI aG (.vr 12) (.vr 11)))) (
     .call 0 (.mk2 tI tI (aJ aM 1 (.p1 aM aM (.vr 0))) (aJ (.pair aM aM) 2 (.vr 0))) <|
     .ret (bF aM [(aQ aC 1 (.vr 1)),(.p1 tI .bool (.vr 6)),(.cb true)]))) (
    .call 0 (.mk2 tI tI (aJ aM 1 (.p1 aM aM (.vr 0))) (aJ (.pair aM aM) 2 (.vr 0))) <|
    .ret (bF aM [(aQ aC 1 (.vr 1)),(.p1 tI .bool (.vr 4)),(.cb true)]))) (
  .loop (.pair tI (.pair aG .bool)) (bF (.pair tI (.pair aG .bool)) [(.ci .i64 0),(.nl 188 aB),(aQ (.pair aM aM) 3 (.vr 0))]) <|
   .prim (.llen 188 aB) (.p1 aG (.pair tI .bool) (.p1 aM aM (.vr 0))) <|
   .prim (.cmp .lss .i64) (.mk2 tI tI (.p1 tI (.pair aG .bool) (.vr 1)) (.vr 2)) <|
   .ite (.vr 3) (
    .prim (.llen 188 aB) (aJ (.pair aM aM) 1 (.vr 0)) <|
    .prim (.cmp .lss .i64) (.mk2 tI tI (.p1 tI (.pair aG .bool) (.vr 1)) (.vr 4)) <|
    .ite (.vr 5) (
     .loop (.pair tI (.pair aB .bool)) (bF (.pair tI (.pair aB .bool)) [(.ci .i64 0),(.nl 3 tI),(aQ (.pair tI (.pair aG .bool)) 2 (.vr 1))]) <|
      .prim (.lidx 188 aB) (.mk2 aG tI (.p1 aG (.pair tI .bool) (.p1 aM aM (.vr 0))) (.p1 tI (.pair aG .bool) (.vr 1))) <|
      .prim (.llen 3 tI) (.vr 7) <|
      .prim (.cmp .lss .i64) (.mk2 tI tI (.p1 tI (.pair aB .bool) (.vr 6)) (.vr 8)) <|
      .ite (.vr 9) (
       .prim (.lidx 188 aB) (.mk2 aG tI (aJ (.pair aM aM) 1 (.vr 0)) (.p1 tI (.pair aG .bool) (.vr 1))) <|
       .prim (.llen 3 tI) (.vr 10) <|
       .prim (.cmp .lss .i64) (.mk2 tI tI (.p1 tI (.pair aB .bool) (.vr 6)) (.vr 11)) <|
       .ite (.vr 12) (
        .prim (.lidx 188 aB) (.mk2 aG tI (.p1 aG (.pair tI .bool) (.p1 aM aM (.vr 0))) (.p1 tI (.pair aG .bool) (.vr 1))) <|
        .prim (.lidx 3 tI) (.mk2 aB tI (.vr 13) (.p1 tI (.pair aB .bool) (.vr 6))) <|
        .prim (.lidx 188 aB) (.mk2 aG tI (aJ (.pair aM aM) 1 (.vr 0)) (.p1 tI (.pair aG .bool) (.vr 1))) <|
        .prim (.lidx 3 tI) (.mk2 aB tI (.vr 15) (.p1 tI (.pair aB .bool) (.vr 6))) <|
        .call 0 (.mk2 tI tI (.vr 14) (.vr 16)) <|
        .prim (.lit 3 tI 1) (.p1 tI .bool (.vr 17)) <|
        .prim (.lapp 3 tI 8) (.mk2 aB aB (aJ (.pair tI (.pair aB .bool)) 1 (.vr 6)) (.vr 18)) <|
        .ite (aQ (.pair tI (.pair aB .bool)) 2 (.vr 6)) (
         .prim (.ar .add .i64) (.mk2 tI tI (.p1 tI (.pair aB .bool) (.vr 6)) (.ci .i64 1)) <|
         .again 0 (bF (.pair tI (.pair aB .bool)) [(.vr 20),(.vr 19),(.cb true)])) (
         .prim (.ar .add .i64) (.mk2 tI tI (.p1 tI (.pair aB .bool) (.vr 6)) (.ci .i64 1)) <|
         .again 0 (bF (.pair tI (.pair aB .bool)) [(.vr 20),(.vr 19),(aQ (.pair tI .bool) 1 (.vr 17))]))) (
        .prim (.lit 188 aB 1) (aJ (.pair tI (.pair aB .bool)) 1 (.vr 6)) <|
        .prim (.lapp 188 aB 24) (.mk2 aG aG (aJ (.pair tI (.pair aG .bool)) 1 (.vr 1)) (.vr 13)) <|
        .prim (.ar .add .i64) (.mk2 tI tI (.p1 tI (.pair aG .bool) (.vr 1)) (.ci .i64 1)) <|
        .again 1 (bF (.pair tI (.pair aG .bool)) [(.vr 15),(.vr 14),(aQ (.pair tI (.pair aB .bool)) 2 (.vr 6))]))) (
       .prim (.lit 188 aB 1) (aJ (.pair tI (.pair aB .bool)) 1 (.vr 6)) <|
       .prim (.lapp 188 aB 24) (.mk2 aG aG (aJ (.pair tI (.pair aG .bool)) 1 (.vr 1)) (.vr 10)) <|
       .prim (.ar .add .i64) (.mk2 tI tI (.p1 tI (.pair aG .bool) (.vr 1)) (.ci .i64 1)) <|
       .again 1 (bF (.pair tI (.pair aG .bool)) [(.vr 12),(.vr 11),(aQ (.pair tI (.pair aB .bool)) 2 (.vr 6))]))) (
     .call 0 (.mk2 tI tI (aJ aM 1 (.p1 aM aM (.vr 0))) (aJ (.pair aM aM) 2 (.vr 0))) <|
     .ite (aQ (.pair tI (.pair aG .bool)) 2 (.vr 1)) (
      .ret (bF aM [(aJ (.pair tI (.pair aG .bool)) 1 (.vr 1)),(.p1 tI .bool (.vr 6)),(.cb true)])) (
      .ret (.mk2 aG (.pair tI .bool) (aJ (.pair tI (.pair aG .bool)) 1 (.vr 1)) (.vr 6))))) (
    .call 0 (.mk2 tI tI (aJ aM 1 (.p1 aM aM (.vr 0))) (aJ (.pair aM aM) 2 (.vr 0))) <|
    .ite (aQ (.pair tI (.pair aG .bool)) 2 (.vr 1)) (
     .ret (bF aM [(aJ (.pair tI (.pair aG .bool)) 1 (.vr 1)),(.p1 tI .bool (.vr 4)),(.cb true)])) (
     .ret (.mk2 aG (.pair tI .bool) (aJ (.pair tI (.pair aG .bool)) 1 (.vr 1)) (.vr 4)))))
set_option maxRecDepth 100000 in
theorem aK3:bS Tryz.prog [eJ] lT false 3000 ⟨[(2991,3001,mL 19 13 ++ [.dr 0,.dr 1,.tm 6 0,.sl 7]),(2977,15006,[.tm 8 0,.sl 10]),(2991,2001,mL 19 13 ++ [.dr 0,.dr 1,.tm 6 0,.sl 7,.bx 5 2]),(2977,14006,[.tm 8 0,.sl 10,.bx 5 2])],[(2971,47013,[],[10]),(2971,23010,[],[10]),(2971,46013,[],[10]),(2971,22010,[],[10])]⟩ = .ok tW:=by kernel_rfl
theorem aLS (x:fH × fH) (hx:okD (.pair aM aM) x) (hp:(fun x=>iJ x.1∧iJ x.2) x):tW.wp [eJ] [⟨(.pair aM aM),x⟩] [] (fun v=>v.as aM = (fun x=>gK x.1 x.2) x):=by
 obtain ⟨⟨a,la,sa⟩,⟨b,lb,sb⟩⟩:=x
 obtain ⟨⟨ha,ha'⟩,⟨hb,hb'⟩⟩:iJ (a,la,sa)∧iJ (b,lb,sb):=hp
 dsimp only at ha ha' hb hb'
 delta tW eJ;refine eS ?_;try with_reducible exact True.intro
 constructor
 ·intro hsat
  refine ⟨fun s=>∃ k:Nat,k≤a.length∧k≤b.length∧s = ((k:Int),(dQ a b).take k),fun s=>a.length - (s.1:Int).toNat,⟨0,by omega,by omega,by simp⟩,fun s _ hI=>?_⟩
  obtain ⟨k,hk1,hk2,rfl⟩:=hI
  dsimp only
  (refine gR ?_;try with_reducible exact True.intro)
  have fin:a.length≤k∨b.length≤k→∀ r:Int × Bool,r = dH la lb→((dQ a b).take k,(r.1,true)) = gK (a,la,sa) (b,lb,sb):=fun h r hr=>by
   rw [hr,vC (by rw [iT];omega)]
   unfold gK
   dsimp only at hsat ⊢
   rw [hsat]
   simp
  (repeat' first | intro _ | (with_reducible apply And.intro))
  rotate_left
  ·exact fin (by omega) _ rfl
  ·exact fin (by omega) _ rfl
  have h1:k < a.length:=by omega
  have h2:k < b.length:=by omega
  simp only [bD h1,bD h2]
  have mA:=ha' _ (List.getElem_mem h1)
  have mB:=hb' _ (List.getElem_mem h2)
  have e0:=oQ a b h1 h2
  generalize a[k] = A at *
  generalize b[k] = B at *
  refine ⟨fun s=>∃ j:Nat,j≤A.length∧j≤B.length∧s = ((j:Int),(oD A B).take j),fun s=>A.length - (s.1:Int).toNat,⟨0,by omega,by omega,by simp⟩,fun s _ hI=>?_⟩
  obtain ⟨j,hj1,hj2,rfl⟩:=hI
  dsimp only
  (refine gR ?_;try with_reducible exact True.intro)
  have hl:List.length ((oD A B).take j) = j:=by rw [List.length_take,qH];omega
  have hl2:List.length ((dQ a b).take k) = k:=by rw [List.length_take,iT];omega
  have out:A.length≤j∨B.length≤j→(dQ a b).take k ++ [(oD A B).take j] = (dQ a b).take (k + 1):=fun h=>by
   rw [vC (l:=oD A B) (by rw [qH];omega)];exact e0
  (repeat' first | intro _ | (with_reducible apply And.intro))
  all_goals first | omega | (unfold maxLen;omega) | (exact ⟨j + 1,by omega,by omega,by rw [bD (show j < A.length by omega),bD (show j < B.length by omega),aCM A B (by omega) (by omega)];rfl⟩) | (exact ⟨k + 1,by omega,by omega,by rw [out (by omega)];rfl⟩)
 ·intro hsat
  refine ⟨fun s=>∃ k:Nat,k≤a.length∧k≤b.length∧s = ((k:Int),(dQ a b).take k,sb || kO a b k),fun s=>a.length - (s.1:Int).toNat,⟨0,by omega,by omega,by simp [kO]⟩,fun s _ hI=>?_⟩
  obtain ⟨k,hk1,hk2,rfl⟩:=hI
  dsimp only
  (refine gR ?_;try with_reducible exact True.intro)
  have fin:a.length≤k∨b.length≤k→∀ r:Int × Bool,r = dH la lb→((dQ a b).take k,(r.1,(sb || kO a b k) || r.2)) = gK (a,la,sa) (b,lb,sb):=fun h r hr=>by
   rw [hr,vC (by rw [iT];omega),aJB a b (by omega)]
   unfold gK
   dsimp only at hsat ⊢
   rw [hsat]
   simp
  (repeat' first | intro _ | (with_reducible apply And.intro))
  rotate_left
  ·rw [show (sb || kO a b k) = true by assumption] at fin;exact fin (by omega) _ rfl
  ·rw [show (sb || kO a b k) = false by assumption] at fin;exact fin (by omega) _ rfl
  ·rw [show (sb || kO a b k) = true by assumption] at fin;exact fin (by omega) _ rfl
  ·rw [show (sb || kO a b k) = false by assumption] at fin;exact fin (by omega) _ rfl
  have h1:k < a.length:=by omega
  have h2:k < b.length:=by omega
  simp only [bD h1,bD h2]
  have mA:=ha' _ (List.getElem_mem h1)
  have mB:=hb' _ (List.getElem_mem h2)
  have e0:=oQ a b h1 h2
  have e1:(sb || kO a b (k + 1)) = ((sb || kO a b k) || aKM a[k] b[k]):=by rw [aGQ a b h1 h2,Bool.or_assoc]
  clear fin
  generalize (sb || kO a b k) = f0 at *
  generalize a[k] = A at *
  generalize b[k] = B at *
  refine ⟨fun s=>∃ j:Nat,j≤A.length∧j≤B.length∧s = ((j:Int),(oD A B).take j,f0 || rF A B j),fun s=>A.length - (s.1:Int).toNat,⟨0,by omega,by omega,by simp [rF]⟩,fun s _ hI=>?_⟩
  obtain ⟨j,hj1,hj2,rfl⟩:=hI
  dsimp only
  (refine gR ?_;try with_reducible exact True.intro)
  have hl:List.length ((oD A B).take j) = j:=by rw [List.length_take,qH];omega
  have hl2:List.length ((dQ a b).take k) = k:=by rw [List.length_take,iT];omega
  have out:A.length≤j∨B.length≤j→((dQ a b).take k ++ [(oD A B).take j],f0 || rF A B j) = ((dQ a b).take (k + 1),sb || kO a b (k + 1)):=fun h=>by
   rw [vC (l:=oD A B) (by rw [qH];omega),e0,e1,aIK A B (by omega)]
  (repeat' first | intro _ | (with_reducible apply And.intro))
  all_goals first | omega | (unfold maxLen;omega) | skip
  all_goals first | (exact ⟨k + 1,by omega,by omega,by rw [← out (by omega)];rfl⟩) | (refine ⟨j + 1,by omega,by omega,?_⟩)
  all_goals rw [bD (show j < A.length by omega),bD (show j < B.length by omega),aCM A B (by omega) (by omega),aGO A B (by omega) (by omega),← Bool.or_assoc]
  ·rw [show (f0 || rF A B j) = true by assumption];rfl
  ·rw [show (f0 || rF A B j) = false by assumption];rfl
theorem aKJ:Con.Holds Tryz.prog lT:=aT aY (aK uK aU) aK3 fun x hx hp=>aLS x hx hp
noncomputable def fO:Con:=⟨274,tI,(.pair tI .bool),[.val ⟨false,tI,[]⟩],[⟨false,tI,[0]⟩,⟨false,.bool,[0]⟩],false,none,
 ((fun _=>True):(Int)→Prop),
 ((fun x=>aF2 x):(Int)→(Int × Bool))⟩
def aCI:T :=
 .prim (.cmp .gtr .i64) (.mk2 tI tI (.vr 0) (.ci .i64 2147483647)) <|
 .ite (.vr 1) (
  .ret (.mk2 tI .bool (.ci .i64 2147483647) (.cb true))) (
  .prim (.cmp .lss .i64) (.mk2 tI tI (.vr 0) (.ci .i64 (-2147483647))) <|
  .ite (.vr 2) (
   .ret (.mk2 tI .bool (.ci .i64 (-2147483647)) (.cb true))) (
   .ret (.mk2 tI .bool (.vr 0) (.cb false))))
set_option maxRecDepth 100000 in
theorem aW7:bS Tryz.prog [] fO false 3000 ⟨[],[]⟩ = .ok aCI:=by kernel_rfl
theorem aVL (x:Int) (hx:okD tI x) (hp:(fun _=>True) x):aCI.wp [] [⟨tI,x⟩] [] (fun v=>v.as (.pair tI .bool) = (fun x=>aF2 x) x):=by
 delta aCI;refine eS ?_;try with_reducible exact True.intro
 unfold aF2 eD
 (refine gR ?_;try with_reducible exact True.intro)
 refine ⟨fun h=>?_,fun h=>⟨fun h2=>?_,fun h2=>?_⟩⟩
 ·have:min (max x (-2147483647)) 2147483647 = 2147483647:=by omega
  rw [this];simp;omega
 ·have:min (max x (-2147483647)) 2147483647 = -2147483647:=by omega
  rw [this];simp;omega
 ·have:min (max x (-2147483647)) 2147483647 = x:=by omega
  rw [this];simp
theorem yS:Con.Holds Tryz.prog fO:=aT aY aU aW7 fun x hx hp=>aVL x hx hp
noncomputable def gX:Con:=⟨275,tI,tI,[.val ⟨false,tI,[]⟩],[⟨false,tI,[0]⟩],false,none,
 ((fun _=>True):(Int)→Prop),
 ((fun x=>eD x):(Int)→(Int))⟩
def aFP:T :=
 .call 0 (.vr 0) <|
 .ret (.p1 tI .bool (.vr 1))
set_option maxRecDepth 100000 in
theorem bA4:bS Tryz.prog [fO] gX false 3000 ⟨[],[]⟩ = .ok aFP:=by kernel_rfl
theorem aZ9 (x:Int) (hx:okD tI x) (hp:(fun _=>True) x):aFP.wp [fO] [⟨tI,x⟩] [] (fun v=>v.as tI = (fun x=>eD x) x):=by
 delta aFP fO;refine eS ?_;try with_reducible exact True.intro
 exact fun _=>rfl
theorem aBD:Con.Holds Tryz.prog gX:=aT aY (aK yS aU) bA4 fun x hx hp=>aZ9 x hx hp
noncomputable def dM:Con:=⟨196,aO,(.pair tI .bool),[.val ⟨false,tI,[]⟩,.val ⟨false,tI,[]⟩],[⟨false,tI,[0]⟩,⟨false,.bool,[0]⟩],false,none,
 ((fun _=>True):(Int × Int)→Prop),
 ((fun x=>dH x.1 x.2):(Int × Int)→(Int × Bool))⟩
def zW:T :=
 .call 0 (.p1 tI tI (.vr 0)) <|
 .call 0 (aQ aO 1 (.vr 0)) <|
 .prim (.ar .add .i64) (.mk2 tI tI (.vr 1) (.vr 2)) <|
 .call 1 (.vr 3) <|
 .ret (.vr 4)
set_option maxRecDepth 100000 in
theorem aR1:bS Tryz.prog [gX,fO] dM false 3000 ⟨[],[]⟩ = .ok zW:=by kernel_rfl
theorem aQN (x:Int × Int) (hx:okD aO x) (hp:(fun _=>True) x):zW.wp [gX,fO] [⟨aO,x⟩] [] (fun v=>v.as (.pair tI .bool) = (fun x=>dH x.1 x.2) x):=by
 delta zW gX fO;refine eS ?_;try with_reducible exact True.intro
 intro _ _
 have h1:=jA x.1
 have h2:=jA x.2
 exact ⟨by omega,fun _ _=>rfl⟩
theorem pY:Con.Holds Tryz.prog dM:=aT aY (aK aBD (aK yS aU)) aR1 fun x hx hp=>aQN x hx hp
noncomputable def nW:Con:=⟨192,aG,aG,[.val ⟨false,aG,[]⟩],[⟨false,aG,[2]⟩],false,none,
 ((fun x=>List.length x≤1000000000∧∀ y ∈ x,List.length y≤1000000000):(dD)→Prop),
 ((fun x=>x):(dD)→(dD))⟩
def xJ:T :=
 .loop aC (.mk2 tI aG (.ci .i64 0) (.nl 188 aB)) <|
  .prim (.llen 188 aB) (.vr 0) <|
  .prim (.cmp .lss .i64) (.mk2 tI tI (.p1 tI aG (.vr 1)) (.vr 2)) <|
  .ite (.vr 3) (
   .prim (.lidx 188 aB) (.mk2 aG tI (.vr 0) (.p1 tI aG (.vr 1))) <|
   .prim (.lapp 3 tI 8) (.mk2 aB aB (.nl 3 tI) (.vr 4)) <|
   .prim (.lit 188 aB 1) (.vr 5) <|
   .prim (.lapp 188 aB 24) (.mk2 aG aG (aQ aC 1 (.vr 1)) (.vr 6)) <|
   .prim (.ar .add .i64) (.mk2 tI tI (.p1 tI aG (.vr 1)) (.ci .i64 1)) <|
   .again 0 (.mk2 tI aG (.vr 8) (.vr 7))) (
   .ret (aQ aC 1 (.vr 1)))
set_option maxRecDepth 100000 in
theorem aME:bS Tryz.prog [] nW false 3000 ⟨[(2991,1001,[.dr 5,.tm 4 0,.on 3,.sl 1])],[(2983,3004,[19],[])]⟩ = .ok xJ:=by kernel_rfl
theorem aPW (x:dD) (hx:okD aG x) (hp:(fun x=>List.length x≤1000000000∧∀ y ∈ x,List.length y≤1000000000) x):xJ.wp [] [⟨aG,x⟩] [] (fun v=>v.as aG = (fun x=>x) x):=by
 obtain ⟨hp1,hp2⟩:List.length x≤1000000000∧∀ y ∈ x,List.length y≤1000000000:=hp
 delta xJ;refine eS ?_;try with_reducible exact True.intro
 refine ⟨fun s=>∃ k:Nat,k≤x.length∧s = ((k:Int),x.take k),fun s=>x.length - (s.1:Int).toNat,⟨0,Nat.zero_le _,by simp⟩,fun s hs hI=>?_⟩
 obtain ⟨k,hk,rfl⟩:=hI
 dsimp only
 (refine gR ?_;try with_reducible exact True.intro)
 intro _
 constructor
 ·intro hlt
  have hk':k < x.length:=by omega
  rw [bD hk']
  have hm:=hp2 _ (List.getElem_mem hk')
  have hl:(x.take k).length = k:=List.length_take_of_le hk
  (repeat' first | intro _ | (with_reducible apply And.intro))
  all_goals first | omega | (unfold maxLen;omega) | (exact ⟨k + 1,by omega,by rw [iB hk'];rfl⟩)
 ·intro hge
  have:k = x.length:=by omega
  subst this
  show x.take x.length = x
  simp
theorem aNJ:Con.Holds Tryz.prog nW:=aT aY aU aME fun x hx hp=>aPW x hx hp
noncomputable def sX:Con:=⟨279,aI,(.pair aB .bool),[.val ⟨false,aB,[]⟩,.val ⟨false,aB,[]⟩],[⟨false,aB,[2]⟩,⟨false,.bool,[0]⟩],false,none,
 ((fun x=>List.length x.1≤1000000000∧List.length x.2≤1000000000):(cN)→Prop),
 ((fun x=>(oD x.1 x.2,aKM x.1 x.2)):(cN)→(cG × Bool))⟩
def aCQ:T :=
 .loop (.pair tI (.pair .bool aB)) (bF (.pair tI (.pair .bool aB)) [(.ci .i64 0),(.cb false),(.nl 3 tI)]) <|
  .prim (.llen 3 tI) (.p1 aB aB (.vr 0)) <|
  .prim (.cmp .lss .i64) (.mk2 tI tI (.p1 tI (.pair .bool aB) (.vr 1)) (.vr 2)) <|
  .ite (.vr 3) (
   .prim (.llen 3 tI) (aQ aI 1 (.vr 0)) <|
   .prim (.cmp .lss .i64) (.mk2 tI tI (.p1 tI (.pair .bool aB) (.vr 1)) (.vr 4)) <|
   .ite (.vr 5) (
    .prim (.lidx 3 tI) (.mk2 aB tI (.p1 aB aB (.vr 0)) (.p1 tI (.pair .bool aB) (.vr 1))) <|
    .prim (.lidx 3 tI) (.mk2 aB tI (aQ aI 1 (.vr 0)) (.p1 tI (.pair .bool aB) (.vr 1))) <|
    .call 0 (.mk2 tI tI (.vr 6) (.vr 7)) <|
    .prim (.lit 3 tI 1) (.p1 tI .bool (.vr 8)) <|
    .prim (.lapp 3 tI 8) (.mk2 aB aB (aQ (.pair tI (.pair .bool aB)) 2 (.vr 1)) (.vr 9)) <|
    .ite (aJ (.pair tI (.pair .bool aB)) 1 (.vr 1)) (
     .prim (.ar .add .i64) (.mk2 tI tI (.p1 tI (.pair .bool aB) (.vr 1)) (.ci .i64 1)) <|
     .again 0 (bF (.pair tI (.pair .bool aB)) [(.vr 11),(.cb true),(.vr 10)])) (
     .prim (.ar .add .i64) (.mk2 tI tI (.p1 tI (.pair .bool aB) (.vr 1)) (.ci .i64 1)) <|
     .again 0 (bF (.pair tI (.pair .bool aB)) [(.vr 11),(aQ (.pair tI .bool) 1 (.vr 8)),(.vr 10)]))) (
    .ret (.mk2 aB .bool (aQ (.pair tI (.pair .bool aB)) 2 (.vr 1)) (aJ (.pair tI (.pair .bool aB)) 1 (.vr 1))))) (
   .ret (.mk2 aB .bool (aQ (.pair tI (.pair .bool aB)) 2 (.vr 1)) (aJ (.pair tI (.pair .bool aB)) 1 (.vr 1))))
set_option maxRecDepth 100000 in
theorem aWU:bS Tryz.prog [dM] sX false 3000 ⟨[(2989,1001,[.dr 11,.tm 8 0,.tm 7 0,.on 6,.sl 1])],[]⟩ = .ok aCQ:=by kernel_rfl
theorem aVN (x:cN) (hx:okD aI x) (hp:(fun x=>List.length x.1≤1000000000∧List.length x.2≤1000000000) x):aCQ.wp [dM] [⟨aI,x⟩] [] (fun v=>v.as (.pair aB .bool) = (fun x=>(oD x.1 x.2,aKM x.1 x.2)) x):=by
 obtain ⟨A,B⟩:=x
 obtain ⟨mA,mB⟩:List.length A≤1000000000∧List.length B≤1000000000:=hp
 delta aCQ dM;refine eS ?_;try with_reducible exact True.intro
 refine ⟨fun s=>∃ j:Nat,j≤A.length∧j≤B.length∧s = ((j:Int),rF A B j,(oD A B).take j),fun s=>A.length - (s.1:Int).toNat,⟨0,by omega,by omega,by simp [rF]⟩,fun s _ hI=>?_⟩
 obtain ⟨j,hj1,hj2,rfl⟩:=hI
 dsimp only
 (refine gR ?_;try with_reducible exact True.intro)
 have hl:List.length ((oD A B).take j) = j:=by rw [List.length_take,qH];omega
 have out:A.length≤j∨B.length≤j→((oD A B).take j,rF A B j) = (oD A B,aKM A B):=fun h=>by
  rw [vC (l:=oD A B) (by rw [qH];omega),aIK A B (by omega)]
 (repeat' first | intro _ | (with_reducible apply And.intro))
 all_goals first | omega | (unfold maxLen;omega) | (exact out (by omega)) | (refine ⟨j + 1,by omega,by omega,?_⟩)
 all_goals rw [bD (show j < A.length by omega),bD (show j < B.length by omega),aCM A B (by omega) (by omega),aGO A B (by omega) (by omega)]
 ·rw [show rF A B j = true by assumption];rfl
 ·rw [show rF A B j = false by assumption];rfl
theorem aX9:Con.Holds Tryz.prog sX:=aT aY (aK pY aU) aWU fun x hx hp=>aVN x hx hp
noncomputable def bU:Con:=⟨115,(.pair tI aO),.bool,[.val ⟨false,tI,[]⟩,.val ⟨false,tI,[]⟩,.val ⟨false,tI,[]⟩],[⟨false,.bool,[0]⟩],false,none,
 ((fun _=>True):(Int × aM2)→Prop),
 ((fun x=>decide (x.2.1≤x.1) && decide (x.1≤x.2.2)):(Int × aM2)→(Bool))⟩
def aF1:T :=
 .prim (.cmp .geq .i64) (.mk2 tI tI (.p1 tI aO (.vr 0)) (aJ (.pair tI aO) 1 (.vr 0))) <|
 .ite (.vr 1) (
  .prim (.cmp .leq .i64) (.mk2 tI tI (.p1 tI aO (.vr 0)) (aQ (.pair tI aO) 2 (.vr 0))) <|
  .ret (.vr 2)) (
  .ret (.cb false))
set_option maxRecDepth 100000 in
theorem aXZ:bS Tryz.prog [] bU false 3000 ⟨[],[]⟩ = .ok aF1:=by kernel_rfl
theorem aZP (x:Int × aM2) (hx:okD (.pair tI aO) x) (hp:(fun _=>True) x):aF1.wp [] [⟨(.pair tI aO),x⟩] [] (fun v=>v.as .bool = (fun x=>decide (x.2.1≤x.1) && decide (x.1≤x.2.2)) x):=by
 delta aF1;refine eS ?_;try with_reducible exact True.intro
 (refine gR ?_;try with_reducible exact True.intro)
 constructor
 ·intro h;simp [h]
 ·intro h
  have:¬ x.2.1≤x.1:=by omega
  simp [this]
theorem jB:Con.Holds Tryz.prog bU:=aT aY aU aXZ fun x hx hp=>aZP x hx hp
noncomputable def mC:Con:=⟨199,(.pair aM aM),aM,[.val ⟨true,aM,[]⟩,.val ⟨true,aM,[]⟩],[⟨true,aM,[2,0,0]⟩],false,none,
 ((fun x=>iJ x.1∧iJ x.2):(fH × fH)→Prop),
 ((fun x=>gK x.1 x.2):(fH × fH)→(fH))⟩
def uJ:T :=
 .ite (aQ aM 2 (.p1 aM aM (.vr 0))) (
  .loop aC (.mk2 tI aG (.ci .i64 0) (.nl 188 aB)) <|
   .prim (.llen 188 aB) (.p1 aG (.pair tI .bool) (.p1 aM aM (.vr 0))) <|
   .prim (.cmp .lss .i64) (.mk2 tI tI (.p1 tI aG (.vr 1)) (.vr 2)) <|
   .ite (.vr 3) (
    .prim (.llen 188 aB) (aJ (.pair aM aM) 1 (.vr 0)) <|
    .prim (.cmp .lss .i64) (.mk2 tI tI (.p1 tI aG (.vr 1)) (.vr 4)) <|
    .ite (.vr 5) (
     .prim (.lidx 188 aB) (.mk2 aG tI (.p1 aG (.pair tI .bool) (.p1 aM aM (.vr 0))) (.p1 tI aG (.vr 1))) <|
     .prim (.lidx 188 aB) (.mk2 aG tI (aJ (.pair aM aM) 1 (.vr 0)) (.p1 tI aG (.vr 1))) <|
     .call 0 (.mk2 aB aB (.vr 6) (.vr 7)) <|
     .prim (.lit 188 aB 1) (.p1 aB .bool (.vr 8)) <|
     .prim (.lapp 188 aB 24) (.mk2 aG aG (aQ aC 1 (.vr 1)) (.vr 9)) <|
     .prim (.ar .add .i64) (.mk2 tI tI (.p1 tI aG (.vr 1)) (.ci .i64 1)) <|
     .again 0 (.mk2 tI aG (.vr 11) (.vr 10))) (
     .call 1 (.mk2 tI tI (aJ aM 1 (.p1 aM aM (.vr 0))) (aJ (.pair aM aM) 2 (.vr 0))) <|
     .ret (bF aM [(aQ aC 1 (.vr 1)),(.p1 tI .bool (.vr 6)),(.cb true)]))) (
    .call 1 (.mk2 tI tI (aJ aM 1 (.p1 aM aM (.vr 0))) (aJ (.pair aM aM) 2 (.vr 0))) <|
    .ret (bF aM [(aQ aC 1 (.vr 1)),(.p1 tI .bool (.vr 4)),(.cb true)]))) (
  .loop (.pair tI (.pair aG .bool)) (bF (.pair tI (.pair aG .bool)) [(.ci .i64 0),(.nl 188 aB),(aQ (.pair aM aM) 3 (.vr 0))]) <|
   .prim (.llen 188 aB) (.p1 aG (.pair tI .bool) (.p1 aM aM (.vr 0))) <|
   .prim (.cmp .lss .i64) (.mk2 tI tI (.p1 tI (.pair aG .bool) (.vr 1)) (.vr 2)) <|
   .ite (.vr 3) (
    .prim (.llen 188 aB) (aJ (.pair aM aM) 1 (.vr 0)) <|
    .prim (.cmp .lss .i64) (.mk2 tI tI (.p1 tI (.pair aG .bool) (.vr 1)) (.vr 4)) <|
    .ite (.vr 5) (
     .prim (.lidx 188 aB) (.mk2 aG tI (.p1 aG (.pair tI .bool) (.p1 aM aM (.vr 0))) (.p1 tI (.pair aG .bool) (.vr 1))) <|
     .prim (.lidx 188 aB) (.mk2 aG tI (aJ (.pair aM aM) 1 (.vr 0)) (.p1 tI (.pair aG .bool) (.vr 1))) <|
     .call 0 (.mk2 aB aB (.vr 6) (.vr 7)) <|
     .prim (.lit 188 aB 1) (.p1 aB .bool (.vr 8)) <|
     .prim (.lapp 188 aB 24) (.mk2 aG aG (aJ (.pair tI (.pair aG .bool)) 1 (.vr 1)) (.vr 9)) <|
     .ite (aQ (.pair tI (.pair aG .bool)) 2 (.vr 1)) (
      .prim (.ar .add .i64) (.mk2 tI tI (.p1 tI (.pair aG .bool) (.vr 1)) (.ci .i64 1)) <|
      .again 0 (bF (.pair tI (.pair aG .bool)) [(.vr 11),(.vr 10),(.cb true)])) (
      .prim (.ar .add .i64) (.mk2 tI tI (.p1 tI (.pair aG .bool) (.vr 1)) (.ci .i64 1)) <|
      .again 0 (bF (.pair tI (.pair aG .bool)) [(.vr 11),(.vr 10),(aQ (.pair aB .bool) 1 (.vr 8))]))) (
     .call 1 (.mk2 tI tI (aJ aM 1 (.p1 aM aM (.vr 0))) (aJ (.pair aM aM) 2 (.vr 0))) <|
     .ite (aQ (.pair tI (.pair aG .bool)) 2 (.vr 1)) (
      .ret (bF aM [(aJ (.pair tI (.pair aG .bool)) 1 (.vr 1)),(.p1 tI .bool (.vr 6)),(.cb true)])) (
      .ret (.mk2 aG (.pair tI .bool) (aJ (.pair tI (.pair aG .bool)) 1 (.vr 1)) (.vr 6))))) (
    .call 1 (.mk2 tI tI (aJ aM 1 (.p1 aM aM (.vr 0))) (aJ (.pair aM aM) 2 (.vr 0))) <|
    .ite (aQ (.pair tI (.pair aG .bool)) 2 (.vr 1)) (
     .ret (bF aM [(aJ (.pair tI (.pair aG .bool)) 1 (.vr 1)),(.p1 tI .bool (.vr 4)),(.cb true)])) (
     .ret (.mk2 aG (.pair tI .bool) (aJ (.pair tI (.pair aG .bool)) 1 (.vr 1)) (.vr 4)))))
set_option maxRecDepth 100000 in
theorem aKF:bS Tryz.prog [sX,dM] mC false 3000 ⟨[(2991,3001,mL 17 11 ++ [.dr 0,.dr 1,.tm 6 0,.sl 7]),(2991,2001,mL 17 11 ++ [.dr 0,.dr 1,.tm 6 0,.sl 7,.bx 5 2])],[(2980,15009,[],[8]),(2980,14009,[],[8])]⟩ = .ok uJ:=by kernel_rfl
theorem aLU (x:fH × fH) (hx:okD (.pair aM aM) x) (hp:(fun x=>iJ x.1∧iJ x.2) x):uJ.wp [sX,dM] [⟨(.pair aM aM),x⟩] [] (fun v=>v.as aM = (fun x=>gK x.1 x.2) x):=by
 obtain ⟨⟨a,la,sa⟩,⟨b,lb,sb⟩⟩:=x
 obtain ⟨⟨ha,ha'⟩,⟨hb,hb'⟩⟩:iJ (a,la,sa)∧iJ (b,lb,sb):=hp
 dsimp only at ha ha' hb hb'
 delta uJ sX dM;refine eS ?_;try with_reducible exact True.intro
 constructor
 ·intro hsat
  refine ⟨fun s=>∃ k:Nat,k≤a.length∧k≤b.length∧s = ((k:Int),(dQ a b).take k),fun s=>a.length - (s.1:Int).toNat,⟨0,by omega,by omega,by simp⟩,fun s _ hI=>?_⟩
  obtain ⟨k,hk1,hk2,rfl⟩:=hI
  dsimp only
  (refine gR ?_;try with_reducible exact True.intro)
  have fin:a.length≤k∨b.length≤k→∀ r:Int × Bool,r = dH la lb→((dQ a b).take k,(r.1,true)) = gK (a,la,sa) (b,lb,sb):=fun h r hr=>by
   rw [hr,vC (by rw [iT];omega)]
   unfold gK
   dsimp only at hsat ⊢
   rw [hsat]
   simp
  have hl2:List.length ((dQ a b).take k) = k:=by rw [List.length_take,iT];omega
  (repeat' first | intro _ | (with_reducible apply And.intro))
  all_goals first | omega | (unfold maxLen;omega) | (exact fin (by omega) _ rfl) | skip
  all_goals have h1:k < a.length:=by omega
  all_goals have h2:k < b.length:=by omega
  all_goals simp only [bD h1,bD h2]
  all_goals first | (exact ha' _ (List.getElem_mem h1)) | (exact hb' _ (List.getElem_mem h2)) | (exact ⟨k + 1,by omega,by omega,by rw [oQ a b h1 h2];rfl⟩)
 ·intro hsat
  refine ⟨fun s=>∃ k:Nat,k≤a.length∧k≤b.length∧s = ((k:Int),(dQ a b).take k,sb || kO a b k),fun s=>a.length - (s.1:Int).toNat,⟨0,by omega,by omega,by simp [kO]⟩,fun s _ hI=>?_⟩
  obtain ⟨k,hk1,hk2,rfl⟩:=hI
  dsimp only
  (refine gR ?_;try with_reducible exact True.intro)
  have fin:a.length≤k∨b.length≤k→∀ r:Int × Bool,r = dH la lb→((dQ a b).take k,(r.1,(sb || kO a b k) || r.2)) = gK (a,la,sa) (b,lb,sb):=fun h r hr=>by
   rw [hr,vC (by rw [iT];omega),aJB a b (by omega)]
   unfold gK
   dsimp only at hsat ⊢
   rw [hsat]
   simp
  have hl2:List.length ((dQ a b).take k) = k:=by rw [List.length_take,iT];omega
  (repeat' first | intro _ | (with_reducible apply And.intro))
  all_goals first | omega | (unfold maxLen;omega) | skip
  all_goals first | (rw [show (sb || kO a b k) = true by assumption] at fin;exact fin (by omega) _ rfl) | (rw [show (sb || kO a b k) = false by assumption] at fin;exact fin (by omega) _ rfl) | skip
  all_goals have h1:k < a.length:=by omega
  all_goals have h2:k < b.length:=by omega
  all_goals simp only [bD h1,bD h2]
  all_goals first | (exact ha' _ (List.getElem_mem h1)) | (exact hb' _ (List.getElem_mem h2)) | (refine ⟨k + 1,by omega,by omega,?_⟩)
  all_goals rw [oQ a b h1 h2,aGQ a b h1 h2,← Bool.or_assoc]
  ·rw [show (sb || kO a b k) = true by assumption];rfl
  ·rw [show (sb || kO a b k) = false by assumption];rfl
theorem aLH:Con.Holds Tryz.prog mC:=aT aY (aK aX9 (aK pY aU)) aKF fun x hx hp=>aLU x hx hp
end Go.Proofs.YtmfpkkbhnmkfdaaGreat
