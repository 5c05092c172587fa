/- Gr2: trees, and what they say. -/
import Derived.Test.YtahggdiafncdhaaFix2
namespace Go.Proofs.Ytahggdiafncdhaa
open Go.ChangeShapes Go.WideShapes Go.ChangeAt Go.RowKit Go.Deep
set_option linter.unusedVariables false
set_option linter.unusedSimpArgs false
def zipV (a b:List Int):List Int:=List.zipWith (fun x y=>(fixAdd x y).1) a b
def zipF (a b:List Int):Bool:=(a.zip b).any fun p=>(fixAdd p.1 p.2).2
def addRows (a b:List (List Int)):List (List Int):=List.zipWith zipV a b
def addRowsF (a b:List (List Int)):Bool:=(a.zip b).any fun p=>zipF p.1 p.2

def addGrads (a b:GradsD):GradsD:=(addRows a.1 b.1,((fixAdd a.2.1 b.2.1).1,a.2.2 || b.2.2 || addRowsF a.1 b.1 || (fixAdd a.2.1 b.2.1).2))
theorem zw_len {α β γ:Type} (f:α→β→γ) (a:List α) (b:List β):(List.zipWith f a b).length=min a.length b.length:=List.length_zipWith
theorem zw_next {α β γ:Type} (f:α→β→γ) (a:List α) (b:List β) {k:Nat} (h1:k<a.length) (h2:k<b.length):(List.zipWith f a b).take k++[f a[k] b[k]]=(List.zipWith f a b).take (k+1):=by
 have h:k<(List.zipWith f a b).length:=by rw[zw_len];omega
 rw[List.take_succ_eq_append_getElem h,List.getElem_zipWith]
theorem zw_all {α β γ:Type} (f:α→β→γ) (a:List α) (b:List β) {k:Nat} (h:min a.length b.length≤k):(List.zipWith f a b).take k=List.zipWith f a b:=List.take_of_length_le (by rw[zw_len];exact h)
theorem za_next {α β:Type} (F:α × β→Bool) (a:List α) (b:List β) {k:Nat} (h1:k<a.length) (h2:k<b.length):((a.zip b).take (k+1)).any F=(((a.zip b).take k).any F || F (a[k],b[k])):=by
 have h:k<(a.zip b).length:=by rw[List.length_zip];omega
 rw[List.take_succ_eq_append_getElem h,List.any_append]
 simp
theorem za_all {α β:Type} (a:List α) (b:List β) {k:Nat} (h:min a.length b.length≤k):(a.zip b).take k=a.zip b:=List.take_of_length_le (by rw[List.length_zip];exact h)
def GradsB (g:GradsD):Prop:=g.1.length≤1000000000∧∀ r∈g.1,r.length≤1000000000
theorem take_ge {α:Type} {l:List α} {k:Nat} (h:l.length≤k):l.take k=l:=List.take_of_length_le h
theorem addRows_len (a b:List (List Int)):(addRows a b).length=min a.length b.length:=List.length_zipWith
theorem zipV_len (a b:List Int):(zipV a b).length=min a.length b.length:=List.length_zipWith
theorem zipV_next (a b:List Int) {k:Nat} (h1:k<a.length) (h2:k<b.length):(zipV a b).take k++[(fixAdd a[k] b[k]).1]=(zipV a b).take (k+1):=zw_next _ a b h1 h2
theorem addRows_next (a b:List (List Int)) {k:Nat} (h1:k<a.length) (h2:k<b.length):(addRows a b).take k++[zipV a[k] b[k]]=(addRows a b).take (k+1):=zw_next _ a b h1 h2
def zipFk (a b:List Int) (k:Nat):Bool:=((a.zip b).take k).any fun p=>(fixAdd p.1 p.2).2
def addFk (a b:List (List Int)) (k:Nat):Bool:=((a.zip b).take k).any fun p=>zipF p.1 p.2
theorem zipFk_next (a b:List Int) {k:Nat} (h1:k<a.length) (h2:k<b.length):zipFk a b (k+1)=(zipFk a b k || (fixAdd a[k] b[k]).2):=za_next _ a b h1 h2
theorem addFk_next (a b:List (List Int)) {k:Nat} (h1:k<a.length) (h2:k<b.length):addFk a b (k+1)=(addFk a b k || zipF a[k] b[k]):=za_next _ a b h1 h2
theorem zipFk_all (a b:List Int) {k:Nat} (h:min a.length b.length≤k):zipFk a b k=zipF a b:=by unfold zipFk zipF;rw[za_all a b h]
theorem addFk_all (a b:List (List Int)) {k:Nat} (h:min a.length b.length≤k):addFk a b k=addRowsF a b:=by unfold addFk addRowsF;rw[za_all a b h]

/-! impl.copyGrads -/

noncomputable def c_i_copyGrads:Con:=⟨63,tGrads,tGrads,[.val ⟨true,tGrads,[]⟩],[⟨true,tGrads,[2,0,0]⟩],false,none,
 ((fun x=>GradsB x):(GradsD)→Prop),
 ((fun x=>x):(GradsD)→(GradsD))⟩
def t_i_copyGrads:T:=.call 0 (.p1 tRows (.pair tI .bool) (.vr 0)) <|.ret (.mk2 tRows (.pair tI .bool) (.vr 1) (prA tGrads 1 (.vr 0)))
set_option maxRecDepth 100000 in
theorem e_i_copyGrads:exFn Try.prog [c_i_copyRows] c_i_copyGrads false 3000 ⟨[],[]⟩ = .ok t_i_copyGrads:=by kernel_rfl
theorem v_i_copyGrads (x:GradsD) (hx:okD tGrads x) (hp:(fun x=>GradsB x) x):t_i_copyGrads.wp [c_i_copyRows] [⟨tGrads,x⟩] [] (fun v=>v.as tGrads=(fun x=>x) x):=by
 have hp:GradsB x:=hp
 delta t_i_copyGrads c_i_copyRows;refine vcx ?_;try with_reducible exact True.intro
 exact ⟨hp,fun _=>by first|rfl|trivial⟩
theorem h_i_copyGrads:Con.Holds Try.prog c_i_copyGrads:=tree_ok mixedP (consAt h_i_copyRows consNil) e_i_copyGrads fun x hx hp=>v_i_copyGrads x hx hp

/-! impl.AddGrads -/

noncomputable def c_i_AddGrads:Con:=⟨68,(.pair tGrads tGrads),tGrads,[.val ⟨true,tGrads,[]⟩,.val ⟨true,tGrads,[]⟩],[⟨true,tGrads,[2,0,0]⟩],false,none,
 ((fun x=>GradsB x.1∧GradsB x.2):(GradsD × GradsD)→Prop),
 ((fun x=>addGrads x.1 x.2):(GradsD × GradsD)→(GradsD))⟩
def t_i_AddGrads:T:=.ite (prA tGrads 2 (.p1 tGrads tGrads (.vr 0))) (.loop tSaved (.mk2 tI tRows (.ci .i64 0) (.nl 92 tInts)) <|.prim (.llen 92 tInts) (.p1 tRows (.pair tI .bool) (.p1 tGrads tGrads (.vr 0))) <|.prim (.cmp .lss .i64) (.mk2 tI tI (.p1 tI tRows (.vr 1)) (.vr 2)) <|.ite (.vr 3) (.prim (.llen 92 tInts) (pjA (.pair tGrads tGrads) 1 (.vr 0)) <|.prim (.cmp .lss .i64) (.mk2 tI tI (.p1 tI tRows (.vr 1)) (.vr 4)) <|.ite (.vr 5) (.loop tItem (.mk2 tI tInts (.ci .i64 0) (.nl 3 tI)) <|.prim (.lidx 92 tInts) (.mk2 tRows tI (.p1 tRows (.pair tI .bool) (.p1 tGrads tGrads (.vr 0))) (.p1 tI tRows (.vr 1))) <|.prim (.llen 3 tI) (.vr 7) <|.prim (.cmp .lss .i64) (.mk2 tI tI (.p1 tI tInts (.vr 6)) (.vr 8)) <|.ite (.vr 9) (.prim (.lidx 92 tInts) (.mk2 tRows tI (pjA (.pair tGrads tGrads) 1 (.vr 0)) (.p1 tI tRows (.vr 1))) <|.prim (.llen 3 tI) (.vr 10) <|.prim (.cmp .lss .i64) (.mk2 tI tI (.p1 tI tInts (.vr 6)) (.vr 11)) <|.ite (.vr 12) (.prim (.lidx 92 tInts) (.mk2 tRows tI (.p1 tRows (.pair tI .bool) (.p1 tGrads tGrads (.vr 0))) (.p1 tI tRows (.vr 1))) <|.prim (.lidx 3 tI) (.mk2 tInts tI (.vr 13) (.p1 tI tInts (.vr 6))) <|.prim (.lidx 92 tInts) (.mk2 tRows tI (pjA (.pair tGrads tGrads) 1 (.vr 0)) (.p1 tI tRows (.vr 1))) <|.prim (.lidx 3 tI) (.mk2 tInts tI (.vr 15) (.p1 tI tInts (.vr 6))) <|.call 0 (.mk2 tI tI (.vr 14) (.vr 16)) <|.prim (.lit 3 tI 1) (.p1 tI .bool (.vr 17)) <|.prim (.lapp 3 tI 8) (.mk2 tInts tInts (prA tItem 1 (.vr 6)) (.vr 18)) <|.prim (.ar .add .i64) (.mk2 tI tI (.p1 tI tInts (.vr 6)) (.ci .i64 1)) <|.again 0 (.mk2 tI tInts (.vr 20) (.vr 19))) (.prim (.lit 92 tInts 1) (prA tItem 1 (.vr 6)) <|.prim (.lapp 92 tInts 24) (.mk2 tRows tRows (prA tSaved 1 (.vr 1)) (.vr 13)) <|.prim (.ar .add .i64) (.mk2 tI tI (.p1 tI tRows (.vr 1)) (.ci .i64 1)) <|.again 1 (.mk2 tI tRows (.vr 15) (.vr 14)))) (.prim (.lit 92 tInts 1) (prA tItem 1 (.vr 6)) <|.prim (.lapp 92 tInts 24) (.mk2 tRows tRows (prA tSaved 1 (.vr 1)) (.vr 10)) <|.prim (.ar .add .i64) (.mk2 tI tI (.p1 tI tRows (.vr 1)) (.ci .i64 1)) <|.again 1 (.mk2 tI tRows (.vr 12) (.vr 11)))) (.call 0 (.mk2 tI tI (pjA tGrads 1 (.p1 tGrads tGrads (.vr 0))) (pjA (.pair tGrads tGrads) 2 (.vr 0))) <|.ret (mkA tGrads [(prA tSaved 1 (.vr 1)),(.p1 tI .bool (.vr 6)),(.cb true)]))) (.call 0 (.mk2 tI tI (pjA tGrads 1 (.p1 tGrads tGrads (.vr 0))) (pjA (.pair tGrads tGrads) 2 (.vr 0))) <|.ret (mkA tGrads [(prA tSaved 1 (.vr 1)),(.p1 tI .bool (.vr 4)),(.cb true)]))) (.loop (.pair tI (.pair tRows .bool)) (mkA (.pair tI (.pair tRows .bool)) [(.ci .i64 0),(.nl 92 tInts),(prA (.pair tGrads tGrads) 3 (.vr 0))]) <|.prim (.llen 92 tInts) (.p1 tRows (.pair tI .bool) (.p1 tGrads tGrads (.vr 0))) <|.prim (.cmp .lss .i64) (.mk2 tI tI (.p1 tI (.pair tRows .bool) (.vr 1)) (.vr 2)) <|.ite (.vr 3) (.prim (.llen 92 tInts) (pjA (.pair tGrads tGrads) 1 (.vr 0)) <|.prim (.cmp .lss .i64) (.mk2 tI tI (.p1 tI (.pair tRows .bool) (.vr 1)) (.vr 4)) <|.ite (.vr 5) (.loop (.pair tI (.pair tInts .bool)) (mkA (.pair tI (.pair tInts .bool)) [(.ci .i64 0),(.nl 3 tI),(prA (.pair tI (.pair tRows .bool)) 2 (.vr 1))]) <|.prim (.lidx 92 tInts) (.mk2 tRows tI (.p1 tRows (.pair tI .bool) (.p1 tGrads tGrads (.vr 0))) (.p1 tI (.pair tRows .bool) (.vr 1))) <|.prim (.llen 3 tI) (.vr 7) <|.prim (.cmp .lss .i64) (.mk2 tI tI (.p1 tI (.pair tInts .bool) (.vr 6)) (.vr 8)) <|.ite (.vr 9) (.prim (.lidx 92 tInts) (.mk2 tRows tI (pjA (.pair tGrads tGrads) 1 (.vr 0)) (.p1 tI (.pair tRows .bool) (.vr 1))) <|.prim (.llen 3 tI) (.vr 10) <|.prim (.cmp .lss .i64) (.mk2 tI tI (.p1 tI (.pair tInts .bool) (.vr 6)) (.vr 11)) <|.ite (.vr 12) (.prim (.lidx 92 tInts) (.mk2 tRows tI (.p1 tRows (.pair tI .bool) (.p1 tGrads tGrads (.vr 0))) (.p1 tI (.pair tRows .bool) (.vr 1))) <|.prim (.lidx 3 tI) (.mk2 tInts tI (.vr 13) (.p1 tI (.pair tInts .bool) (.vr 6))) <|.prim (.lidx 92 tInts) (.mk2 tRows tI (pjA (.pair tGrads tGrads) 1 (.vr 0)) (.p1 tI (.pair tRows .bool) (.vr 1))) <|.prim (.lidx 3 tI) (.mk2 tInts tI (.vr 15) (.p1 tI (.pair tInts .bool) (.vr 6))) <|.call 0 (.mk2 tI tI (.vr 14) (.vr 16)) <|.prim (.lit 3 tI 1) (.p1 tI .bool (.vr 17)) <|.prim (.lapp 3 tI 8) (.mk2 tInts tInts (pjA (.pair tI (.pair tInts .bool)) 1 (.vr 6)) (.vr 18)) <|.ite (prA (.pair tI (.pair tInts .bool)) 2 (.vr 6)) (.prim (.ar .add .i64) (.mk2 tI tI (.p1 tI (.pair tInts .bool) (.vr 6)) (.ci .i64 1)) <|.again 0 (mkA (.pair tI (.pair tInts .bool)) [(.vr 20),(.vr 19),(.cb true)])) (.prim (.ar .add .i64) (.mk2 tI tI (.p1 tI (.pair tInts .bool) (.vr 6)) (.ci .i64 1)) <|.again 0 (mkA (.pair tI (.pair tInts .bool)) [(.vr 20),(.vr 19),(prA (.pair tI .bool) 1 (.vr 17))]))) (.prim (.lit 92 tInts 1) (pjA (.pair tI (.pair tInts .bool)) 1 (.vr 6)) <|.prim (.lapp 92 tInts 24) (.mk2 tRows tRows (pjA (.pair tI (.pair tRows .bool)) 1 (.vr 1)) (.vr 13)) <|.prim (.ar .add .i64) (.mk2 tI tI (.p1 tI (.pair tRows .bool) (.vr 1)) (.ci .i64 1)) <|.again 1 (mkA (.pair tI (.pair tRows .bool)) [(.vr 15),(.vr 14),(prA (.pair tI (.pair tInts .bool)) 2 (.vr 6))]))) (.prim (.lit 92 tInts 1) (pjA (.pair tI (.pair tInts .bool)) 1 (.vr 6)) <|.prim (.lapp 92 tInts 24) (.mk2 tRows tRows (pjA (.pair tI (.pair tRows .bool)) 1 (.vr 1)) (.vr 10)) <|.prim (.ar .add .i64) (.mk2 tI tI (.p1 tI (.pair tRows .bool) (.vr 1)) (.ci .i64 1)) <|.again 1 (mkA (.pair tI (.pair tRows .bool)) [(.vr 12),(.vr 11),(prA (.pair tI (.pair tInts .bool)) 2 (.vr 6))]))) (.call 0 (.mk2 tI tI (pjA tGrads 1 (.p1 tGrads tGrads (.vr 0))) (pjA (.pair tGrads tGrads) 2 (.vr 0))) <|.ite (prA (.pair tI (.pair tRows .bool)) 2 (.vr 1)) (.ret (mkA tGrads [(pjA (.pair tI (.pair tRows .bool)) 1 (.vr 1)),(.p1 tI .bool (.vr 6)),(.cb true)])) (.ret (.mk2 tRows (.pair tI .bool) (pjA (.pair tI (.pair tRows .bool)) 1 (.vr 1)) (.vr 6))))) (.call 0 (.mk2 tI tI (pjA tGrads 1 (.p1 tGrads tGrads (.vr 0))) (pjA (.pair tGrads tGrads) 2 (.vr 0))) <|.ite (prA (.pair tI (.pair tRows .bool)) 2 (.vr 1)) (.ret (mkA tGrads [(pjA (.pair tI (.pair tRows .bool)) 1 (.vr 1)),(.p1 tI .bool (.vr 4)),(.cb true)])) (.ret (.mk2 tRows (.pair tI .bool) (pjA (.pair tI (.pair tRows .bool)) 1 (.vr 1)) (.vr 4)))))
set_option maxRecDepth 100000 in
theorem e_i_AddGrads:exFn Try.prog [c_i_FixAdd] c_i_AddGrads false 3000 ⟨[(2991,3001,drd 19 13++[.dr 0,.dr 1,.tm 6 0,.sl 7]),(2977,15006,[.tm 8 0,.sl 10]),(2991,2001,drd 19 13++[.dr 0,.dr 1,.tm 6 0,.sl 7,.bx 5 2]),(2977,14006,[.tm 8 0,.sl 10,.bx 5 2])],[(2971,47013,[],[10]),(2971,23010,[],[10]),(2971,46013,[],[10]),(2971,22010,[],[10])]⟩ = .ok t_i_AddGrads:=by kernel_rfl
/- loops: (Int) × (List (List (Int))) ¦ (Int) × (List (Int)) ¦ (Int) × ((List (List (Int))) × (Bool)) ¦ (Int) × ((List (Int)) × (Bool)) -/
theorem v_i_AddGrads (x:GradsD × GradsD) (hx:okD (.pair tGrads tGrads) x) (hp:(fun x=>GradsB x.1∧GradsB x.2) x):t_i_AddGrads.wp [c_i_FixAdd] [⟨(.pair tGrads tGrads),x⟩] [] (fun v=>v.as tGrads=(fun x=>addGrads x.1 x.2) x):=by
 obtain ⟨⟨a,la,sa⟩,⟨b,lb,sb⟩⟩:=x
 obtain ⟨⟨ha,ha'⟩,⟨hb,hb'⟩⟩:GradsB (a,la,sa)∧GradsB (b,lb,sb):=hp
 dsimp only at ha ha' hb hb'
 delta t_i_AddGrads c_i_FixAdd;refine vcx ?_;try with_reducible exact True.intro
 constructor
 ·intro hsat
  refine ⟨fun s=>∃ k:Nat,k≤a.length∧k≤b.length∧s=((k:Int),(addRows a b).take k),fun s=>a.length - (s.1:Int).toNat,⟨0,by omega,by omega,by simp⟩,fun s _ hI=>?_⟩
  obtain ⟨k,hk1,hk2,rfl⟩:=hI
  dsimp only
  (refine dcx ?_;try with_reducible exact True.intro)
  have fin:a.length≤k∨b.length≤k→∀ r:Int × Bool,r=fixAdd la lb→((addRows a b).take k,(r.1,true))=addGrads (a,la,sa) (b,lb,sb):=fun h r hr=>by
   rw[hr,take_ge (by rw[addRows_len];omega)]
   unfold addGrads
   dsimp only at hsat ⊢
   rw[hsat]
   simp
  (repeat' first|intro _|(with_reducible apply And.intro))
  rotate_left
  ·exact fin (by omega) _ rfl
  ·exact fin (by omega) _ rfl
  have h1:k<a.length:=by omega
  have h2:k<b.length:=by omega
  simp only[getD_at h1,getD_at h2]
  have mA:=ha' _ (List.getElem_mem h1)
  have mB:=hb' _ (List.getElem_mem h2)
  have e0:=addRows_next a b h1 h2
  generalize a[k]=A at *
  generalize b[k]=B at *
  refine ⟨fun s=>∃ j:Nat,j≤A.length∧j≤B.length∧s=((j:Int),(zipV A B).take j),fun s=>A.length - (s.1:Int).toNat,⟨0,by omega,by omega,by simp⟩,fun s _ hI=>?_⟩
  obtain ⟨j,hj1,hj2,rfl⟩:=hI
  dsimp only
  (refine dcx ?_;try with_reducible exact True.intro)
  have hl:List.length ((zipV A B).take j)=j:=by rw[List.length_take,zipV_len];omega
  have hl2:List.length ((addRows a b).take k)=k:=by rw[List.length_take,addRows_len];omega
  have out:A.length≤j∨B.length≤j→(addRows a b).take k++[(zipV A B).take j]=(addRows a b).take (k+1):=fun h=>by
   rw[take_ge (l:=zipV A B) (by rw[zipV_len];omega)];exact e0
  (repeat' first|intro _|(with_reducible apply And.intro))
  all_goals first|omega|(unfold maxLen;omega)|(exact ⟨j+1,by omega,by omega,by rw[getD_at (show j<A.length by omega),getD_at (show j<B.length by omega),zipV_next A B (by omega) (by omega)];rfl⟩)|(exact ⟨k+1,by omega,by omega,by rw[out (by omega)];rfl⟩)
 ·intro hsat
  refine ⟨fun s=>∃ k:Nat,k≤a.length∧k≤b.length∧s=((k:Int),(addRows a b).take k,sb || addFk a b k),fun s=>a.length - (s.1:Int).toNat,⟨0,by omega,by omega,by simp[addFk]⟩,fun s _ hI=>?_⟩
  obtain ⟨k,hk1,hk2,rfl⟩:=hI
  dsimp only
  (refine dcx ?_;try with_reducible exact True.intro)
  have fin:a.length≤k∨b.length≤k→∀ r:Int × Bool,r=fixAdd la lb→((addRows a b).take k,(r.1,(sb || addFk a b k) || r.2))=addGrads (a,la,sa) (b,lb,sb):=fun h r hr=>by
   rw[hr,take_ge (by rw[addRows_len];omega),addFk_all a b (by omega)]
   unfold addGrads
   dsimp only at hsat ⊢
   rw[hsat]
   simp
  (repeat' first|intro _|(with_reducible apply And.intro))
  rotate_left
  ·rw[show (sb || addFk a b k)=true by assumption] at fin;exact fin (by omega) _ rfl
  ·rw[show (sb || addFk a b k)=false by assumption] at fin;exact fin (by omega) _ rfl
  ·rw[show (sb || addFk a b k)=true by assumption] at fin;exact fin (by omega) _ rfl
  ·rw[show (sb || addFk a b k)=false by assumption] at fin;exact fin (by omega) _ rfl
  have h1:k<a.length:=by omega
  have h2:k<b.length:=by omega
  simp only[getD_at h1,getD_at h2]
  have mA:=ha' _ (List.getElem_mem h1)
  have mB:=hb' _ (List.getElem_mem h2)
  have e0:=addRows_next a b h1 h2
  have e1:(sb || addFk a b (k+1))=((sb || addFk a b k) || zipF a[k] b[k]):=by rw[addFk_next a b h1 h2,Bool.or_assoc]
  clear fin
  generalize (sb || addFk a b k)=f0 at *
  generalize a[k]=A at *
  generalize b[k]=B at *
  refine ⟨fun s=>∃ j:Nat,j≤A.length∧j≤B.length∧s=((j:Int),(zipV A B).take j,f0 || zipFk A B j),fun s=>A.length - (s.1:Int).toNat,⟨0,by omega,by omega,by simp[zipFk]⟩,fun s _ hI=>?_⟩
  obtain ⟨j,hj1,hj2,rfl⟩:=hI
  dsimp only
  (refine dcx ?_;try with_reducible exact True.intro)
  have hl:List.length ((zipV A B).take j)=j:=by rw[List.length_take,zipV_len];omega
  have hl2:List.length ((addRows a b).take k)=k:=by rw[List.length_take,addRows_len];omega
  have out:A.length≤j∨B.length≤j→((addRows a b).take k++[(zipV A B).take j],f0 || zipFk A B j)=((addRows a b).take (k+1),sb || addFk a b (k+1)):=fun h=>by
   rw[take_ge (l:=zipV A B) (by rw[zipV_len];omega),e0,e1,zipFk_all A B (by omega)]
  (repeat' first|intro _|(with_reducible apply And.intro))
  all_goals first|omega|(unfold maxLen;omega)|skip
  all_goals first|(exact ⟨k+1,by omega,by omega,by rw[← out (by omega)];rfl⟩)|(refine ⟨j+1,by omega,by omega,?_⟩)
  all_goals rw[getD_at (show j<A.length by omega),getD_at (show j<B.length by omega),zipV_next A B (by omega) (by omega),zipFk_next A B (by omega) (by omega),← Bool.or_assoc]
  ·rw[show (f0 || zipFk A B j)=true by assumption];rfl
  ·rw[show (f0 || zipFk A B j)=false by assumption];rfl
theorem h_i_AddGrads:Con.Holds Try.prog c_i_AddGrads:=tree_ok mixedP (consAt h_i_FixAdd consNil) e_i_AddGrads fun x hx hp=>v_i_AddGrads x hx hp

/-! spec.l2Sat -/

noncomputable def c_s_l2Sat:Con:=⟨121,tI,(.pair tI .bool),[.val ⟨false,tI,[]⟩],[⟨false,tI,[0]⟩,⟨false,.bool,[0]⟩],false,none,
 ((fun _=>True):(Int)→Prop),
 ((fun x=>satI x):(Int)→(Int × Bool))⟩
def t_s_l2Sat:T:=.prim (.cmp .gtr .i64) (.mk2 tI tI (.vr 0) (.ci .i64 2147483647)) <|.ite (.vr 1) (.ret (.mk2 tI .bool (.ci .i64 2147483647) (.cb true))) (.prim (.cmp .lss .i64) (.mk2 tI tI (.vr 0) (.ci .i64 (-2147483647))) <|.ite (.vr 2) (.ret (.mk2 tI .bool (.ci .i64 (-2147483647)) (.cb true))) (.ret (.mk2 tI .bool (.vr 0) (.cb false))))
set_option maxRecDepth 100000 in
theorem e_s_l2Sat:exFn Try.prog [] c_s_l2Sat false 3000 ⟨[],[]⟩ = .ok t_s_l2Sat:=by kernel_rfl
theorem v_s_l2Sat (x:Int) (hx:okD tI x) (hp:(fun _=>True) x):t_s_l2Sat.wp [] [⟨tI,x⟩] [] (fun v=>v.as (.pair tI .bool)=(fun x=>satI x) x):=by
 delta t_s_l2Sat;refine vcx ?_;try with_reducible exact True.intro
 unfold satI clampI
 (refine dcx ?_;try with_reducible exact True.intro)
 refine ⟨fun h=>?_,fun h=>⟨fun h2=>?_,fun h2=>?_⟩⟩
 ·have:min (max x (-2147483647)) 2147483647=2147483647:=by omega
  rw[this];simp;omega
 ·have:min (max x (-2147483647)) 2147483647 = -2147483647:=by omega
  rw[this];simp;omega
 ·have:min (max x (-2147483647)) 2147483647=x:=by omega
  rw[this];simp
theorem h_s_l2Sat:Con.Holds Try.prog c_s_l2Sat:=tree_ok mixedP consNil e_s_l2Sat fun x hx hp=>v_s_l2Sat x hx hp

/-! spec.l2In -/

noncomputable def c_s_l2In:Con:=⟨65,tI,tI,[.val ⟨false,tI,[]⟩],[⟨false,tI,[0]⟩],false,none,
 ((fun _=>True):(Int)→Prop),
 ((fun x=>clampI x):(Int)→(Int))⟩
def t_s_l2In:T:=.call 0 (.vr 0) <|.ret (.p1 tI .bool (.vr 1))
set_option maxRecDepth 100000 in
theorem e_s_l2In:exFn Try.prog [c_s_l2Sat] c_s_l2In false 3000 ⟨[],[]⟩ = .ok t_s_l2In:=by kernel_rfl
theorem v_s_l2In (x:Int) (hx:okD tI x) (hp:(fun _=>True) x):t_s_l2In.wp [c_s_l2Sat] [⟨tI,x⟩] [] (fun v=>v.as tI=(fun x=>clampI x) x):=by
 delta t_s_l2In c_s_l2Sat;refine vcx ?_;try with_reducible exact True.intro
 exact fun _=>rfl
theorem h_s_l2In:Con.Holds Try.prog c_s_l2In:=tree_ok mixedP (consAt h_s_l2Sat consNil) e_s_l2In fun x hx hp=>v_s_l2In x hx hp

/-! spec.FixAdd -/

noncomputable def c_s_FixAdd:Con:=⟨87,tIns,(.pair tI .bool),[.val ⟨false,tI,[]⟩,.val ⟨false,tI,[]⟩],[⟨false,tI,[0]⟩,⟨false,.bool,[0]⟩],false,none,
 ((fun _=>True):(Int × Int)→Prop),
 ((fun x=>fixAdd x.1 x.2):(Int × Int)→(Int × Bool))⟩
def t_s_FixAdd:T:=.call 0 (.p1 tI tI (.vr 0)) <|.call 0 (prA tIns 1 (.vr 0)) <|.prim (.ar .add .i64) (.mk2 tI tI (.vr 1) (.vr 2)) <|.call 1 (.vr 3) <|.ret (.vr 4)
set_option maxRecDepth 100000 in
theorem e_s_FixAdd:exFn Try.prog [c_s_l2In,c_s_l2Sat] c_s_FixAdd false 3000 ⟨[],[]⟩ = .ok t_s_FixAdd:=by kernel_rfl
theorem v_s_FixAdd (x:Int × Int) (hx:okD tIns x) (hp:(fun _=>True) x):t_s_FixAdd.wp [c_s_l2In,c_s_l2Sat] [⟨tIns,x⟩] [] (fun v=>v.as (.pair tI .bool)=(fun x=>fixAdd x.1 x.2) x):=by
 delta t_s_FixAdd c_s_l2In c_s_l2Sat;refine vcx ?_;try with_reducible exact True.intro
 intro _ _
 have h1:=clampI_b x.1
 have h2:=clampI_b x.2
 exact ⟨by omega,fun _ _=>rfl⟩
theorem h_s_FixAdd:Con.Holds Try.prog c_s_FixAdd:=tree_ok mixedP (consAt h_s_l2In (consAt h_s_l2Sat consNil)) e_s_FixAdd fun x hx hp=>v_s_FixAdd x hx hp

/-! spec.l11Rows -/

noncomputable def c_s_l11Rows:Con:=⟨83,tRows,tRows,[.val ⟨false,tRows,[]⟩],[⟨false,tRows,[2]⟩],false,none,
 ((fun x=>List.length x≤1000000000∧∀ y∈x,List.length y≤1000000000):(RowsD)→Prop),
 ((fun x=>x):(RowsD)→(RowsD))⟩
def t_s_l11Rows:T:=.loop tSaved (.mk2 tI tRows (.ci .i64 0) (.nl 92 tInts)) <|.prim (.llen 92 tInts) (.vr 0) <|.prim (.cmp .lss .i64) (.mk2 tI tI (.p1 tI tRows (.vr 1)) (.vr 2)) <|.ite (.vr 3) (.prim (.lidx 92 tInts) (.mk2 tRows tI (.vr 0) (.p1 tI tRows (.vr 1))) <|.prim (.lapp 3 tI 8) (.mk2 tInts tInts (.nl 3 tI) (.vr 4)) <|.prim (.lit 92 tInts 1) (.vr 5) <|.prim (.lapp 92 tInts 24) (.mk2 tRows tRows (prA tSaved 1 (.vr 1)) (.vr 6)) <|.prim (.ar .add .i64) (.mk2 tI tI (.p1 tI tRows (.vr 1)) (.ci .i64 1)) <|.again 0 (.mk2 tI tRows (.vr 8) (.vr 7))) (.ret (prA tSaved 1 (.vr 1)))
set_option maxRecDepth 100000 in
theorem e_s_l11Rows:exFn Try.prog [] c_s_l11Rows false 3000 ⟨[(2991,1001,[.dr 5,.tm 4 0,.on 3,.sl 1])],[(2983,3004,[19],[])]⟩ = .ok t_s_l11Rows:=by kernel_rfl
/- loops: (Int) × (List (List (Int))) -/
theorem v_s_l11Rows (x:RowsD) (hx:okD tRows x) (hp:(fun x=>List.length x≤1000000000∧∀ y∈x,List.length y≤1000000000) x):t_s_l11Rows.wp [] [⟨tRows,x⟩] [] (fun v=>v.as tRows=(fun x=>x) x):=by
 obtain ⟨hp1,hp2⟩:List.length x≤1000000000∧∀ y∈x,List.length y≤1000000000:=hp
 delta t_s_l11Rows;refine vcx ?_;try with_reducible exact True.intro
 refine ⟨fun s=>∃ k:Nat,k≤x.length∧s=((k:Int),x.take k),fun s=>x.length - (s.1:Int).toNat,⟨0,Nat.zero_le _,by simp⟩,fun s hs hI=>?_⟩
 obtain ⟨k,hk,rfl⟩:=hI
 dsimp only
 (refine dcx ?_;try with_reducible exact True.intro)
 intro _
 constructor
 ·intro hlt
  have hk':k<x.length:=by omega
  rw[getD_at hk']
  have hm:=hp2 _ (List.getElem_mem hk')
  have hl:(x.take k).length=k:=List.length_take_of_le hk
  (repeat' first|intro _|(with_reducible apply And.intro))
  all_goals first|omega|(unfold maxLen;omega)|(exact ⟨k+1,by omega,by rw[take_at hk'];rfl⟩)
 ·intro hge
  have:k=x.length:=by omega
  subst this
  show x.take x.length=x
  simp
theorem h_s_l11Rows:Con.Holds Try.prog c_s_l11Rows:=tree_ok mixedP consNil e_s_l11Rows fun x hx hp=>v_s_l11Rows x hx hp

/-! spec.l7Same -/

noncomputable def c_s_l7Same:Con:=⟨67,tGrads,tGrads,[.val ⟨true,tGrads,[]⟩],[⟨true,tGrads,[2,0,0]⟩],false,none,
 ((fun x=>GradsB x):(GradsD)→Prop),
 ((fun x=>x):(GradsD)→(GradsD))⟩
def t_s_l7Same:T:=.call 0 (.p1 tRows (.pair tI .bool) (.vr 0)) <|.ret (.mk2 tRows (.pair tI .bool) (.vr 1) (prA tGrads 1 (.vr 0)))
set_option maxRecDepth 100000 in
theorem e_s_l7Same:exFn Try.prog [c_s_l11Rows] c_s_l7Same false 3000 ⟨[],[]⟩ = .ok t_s_l7Same:=by kernel_rfl
theorem v_s_l7Same (x:GradsD) (hx:okD tGrads x) (hp:(fun x=>GradsB x) x):t_s_l7Same.wp [c_s_l11Rows] [⟨tGrads,x⟩] [] (fun v=>v.as tGrads=(fun x=>x) x):=by
 have hp:GradsB x:=hp
 delta t_s_l7Same c_s_l11Rows;refine vcx ?_;try with_reducible exact True.intro
 exact ⟨hp,fun _=>by first|rfl|trivial⟩
theorem h_s_l7Same:Con.Holds Try.prog c_s_l7Same:=tree_ok mixedP (consAt h_s_l11Rows consNil) e_s_l7Same fun x hx hp=>v_s_l7Same x hx hp

/-! spec.l7Add -/

noncomputable def c_s_l7Add:Con:=⟨122,tPair,(.pair tInts .bool),[.val ⟨false,tInts,[]⟩,.val ⟨false,tInts,[]⟩],[⟨false,tInts,[2]⟩,⟨false,.bool,[0]⟩],false,none,
 ((fun x=>List.length x.1≤1000000000∧List.length x.2≤1000000000):(PairD)→Prop),
 ((fun x=>(zipV x.1 x.2,zipF x.1 x.2)):(PairD)→(IntsD × Bool))⟩
def t_s_l7Add:T:=.loop (.pair tI (.pair .bool tInts)) (mkA (.pair tI (.pair .bool tInts)) [(.ci .i64 0),(.cb false),(.nl 3 tI)]) <|.prim (.llen 3 tI) (.p1 tInts tInts (.vr 0)) <|.prim (.cmp .lss .i64) (.mk2 tI tI (.p1 tI (.pair .bool tInts) (.vr 1)) (.vr 2)) <|.ite (.vr 3) (.prim (.llen 3 tI) (prA tPair 1 (.vr 0)) <|.prim (.cmp .lss .i64) (.mk2 tI tI (.p1 tI (.pair .bool tInts) (.vr 1)) (.vr 4)) <|.ite (.vr 5) (.prim (.lidx 3 tI) (.mk2 tInts tI (.p1 tInts tInts (.vr 0)) (.p1 tI (.pair .bool tInts) (.vr 1))) <|.prim (.lidx 3 tI) (.mk2 tInts tI (prA tPair 1 (.vr 0)) (.p1 tI (.pair .bool tInts) (.vr 1))) <|.call 0 (.mk2 tI tI (.vr 6) (.vr 7)) <|.prim (.lit 3 tI 1) (.p1 tI .bool (.vr 8)) <|.prim (.lapp 3 tI 8) (.mk2 tInts tInts (prA (.pair tI (.pair .bool tInts)) 2 (.vr 1)) (.vr 9)) <|.ite (pjA (.pair tI (.pair .bool tInts)) 1 (.vr 1)) (.prim (.ar .add .i64) (.mk2 tI tI (.p1 tI (.pair .bool tInts) (.vr 1)) (.ci .i64 1)) <|.again 0 (mkA (.pair tI (.pair .bool tInts)) [(.vr 11),(.cb true),(.vr 10)])) (.prim (.ar .add .i64) (.mk2 tI tI (.p1 tI (.pair .bool tInts) (.vr 1)) (.ci .i64 1)) <|.again 0 (mkA (.pair tI (.pair .bool tInts)) [(.vr 11),(prA (.pair tI .bool) 1 (.vr 8)),(.vr 10)]))) (.ret (.mk2 tInts .bool (prA (.pair tI (.pair .bool tInts)) 2 (.vr 1)) (pjA (.pair tI (.pair .bool tInts)) 1 (.vr 1))))) (.ret (.mk2 tInts .bool (prA (.pair tI (.pair .bool tInts)) 2 (.vr 1)) (pjA (.pair tI (.pair .bool tInts)) 1 (.vr 1))))
set_option maxRecDepth 100000 in
theorem e_s_l7Add:exFn Try.prog [c_s_FixAdd] c_s_l7Add false 3000 ⟨[(2989,1001,[.dr 11,.tm 8 0,.tm 7 0,.on 6,.sl 1])],[]⟩ = .ok t_s_l7Add:=by kernel_rfl
/- loops: (Int) × ((Bool) × (List (Int))) -/
theorem v_s_l7Add (x:PairD) (hx:okD tPair x) (hp:(fun x=>List.length x.1≤1000000000∧List.length x.2≤1000000000) x):t_s_l7Add.wp [c_s_FixAdd] [⟨tPair,x⟩] [] (fun v=>v.as (.pair tInts .bool)=(fun x=>(zipV x.1 x.2,zipF x.1 x.2)) x):=by
 obtain ⟨A,B⟩:=x
 obtain ⟨mA,mB⟩:List.length A≤1000000000∧List.length B≤1000000000:=hp
 delta t_s_l7Add c_s_FixAdd;refine vcx ?_;try with_reducible exact True.intro
 refine ⟨fun s=>∃ j:Nat,j≤A.length∧j≤B.length∧s=((j:Int),zipFk A B j,(zipV A B).take j),fun s=>A.length - (s.1:Int).toNat,⟨0,by omega,by omega,by simp[zipFk]⟩,fun s _ hI=>?_⟩
 obtain ⟨j,hj1,hj2,rfl⟩:=hI
 dsimp only
 (refine dcx ?_;try with_reducible exact True.intro)
 have hl:List.length ((zipV A B).take j)=j:=by rw[List.length_take,zipV_len];omega
 have out:A.length≤j∨B.length≤j→((zipV A B).take j,zipFk A B j)=(zipV A B,zipF A B):=fun h=>by
  rw[take_ge (l:=zipV A B) (by rw[zipV_len];omega),zipFk_all A B (by omega)]
 (repeat' first|intro _|(with_reducible apply And.intro))
 all_goals first|omega|(unfold maxLen;omega)|(exact out (by omega))|(refine ⟨j+1,by omega,by omega,?_⟩)
 all_goals rw[getD_at (show j<A.length by omega),getD_at (show j<B.length by omega),zipV_next A B (by omega) (by omega),zipFk_next A B (by omega) (by omega)]
 ·rw[show zipFk A B j=true by assumption];rfl
 ·rw[show zipFk A B j=false by assumption];rfl
theorem h_s_l7Add:Con.Holds Try.prog c_s_l7Add:=tree_ok mixedP (consAt h_s_FixAdd consNil) e_s_l7Add fun x hx hp=>v_s_l7Add x hx hp

/-! spec.l1In -/

noncomputable def c_s_l1In:Con:=⟨80,(.pair tI tIns),.bool,[.val ⟨false,tI,[]⟩,.val ⟨false,tI,[]⟩,.val ⟨false,tI,[]⟩],[⟨false,.bool,[0]⟩],false,none,
 ((fun _=>True):(Int × InsD)→Prop),
 ((fun x=>decide (x.2.1≤x.1)&&decide (x.1≤x.2.2)):(Int × InsD)→(Bool))⟩
def t_s_l1In:T:=.prim (.cmp .geq .i64) (.mk2 tI tI (.p1 tI tIns (.vr 0)) (pjA (.pair tI tIns) 1 (.vr 0))) <|.ite (.vr 1) (.prim (.cmp .leq .i64) (.mk2 tI tI (.p1 tI tIns (.vr 0)) (prA (.pair tI tIns) 2 (.vr 0))) <|.ret (.vr 2)) (.ret (.cb false))
set_option maxRecDepth 100000 in
theorem e_s_l1In:exFn Try.prog [] c_s_l1In false 3000 ⟨[],[]⟩ = .ok t_s_l1In:=by kernel_rfl
theorem v_s_l1In (x:Int × InsD) (hx:okD (.pair tI tIns) x) (hp:(fun _=>True) x):t_s_l1In.wp [] [⟨(.pair tI tIns),x⟩] [] (fun v=>v.as .bool=(fun x=>decide (x.2.1≤x.1)&&decide (x.1≤x.2.2)) x):=by
 delta t_s_l1In;refine vcx ?_;try with_reducible exact True.intro
 (refine dcx ?_;try with_reducible exact True.intro)
 constructor
 ·intro h;simp[h]
 ·intro h
  have:¬ x.2.1≤x.1:=by omega
  simp[this]
theorem h_s_l1In:Con.Holds Try.prog c_s_l1In:=tree_ok mixedP consNil e_s_l1In fun x hx hp=>v_s_l1In x hx hp

/-! spec.AddGrads -/

noncomputable def c_s_AddGrads:Con:=⟨69,(.pair tGrads tGrads),tGrads,[.val ⟨true,tGrads,[]⟩,.val ⟨true,tGrads,[]⟩],[⟨true,tGrads,[2,0,0]⟩],false,none,
 ((fun x=>GradsB x.1∧GradsB x.2):(GradsD × GradsD)→Prop),
 ((fun x=>addGrads x.1 x.2):(GradsD × GradsD)→(GradsD))⟩
def t_s_AddGrads:T:=.ite (prA tGrads 2 (.p1 tGrads tGrads (.vr 0))) (.loop tSaved (.mk2 tI tRows (.ci .i64 0) (.nl 92 tInts)) <|.prim (.llen 92 tInts) (.p1 tRows (.pair tI .bool) (.p1 tGrads tGrads (.vr 0))) <|.prim (.cmp .lss .i64) (.mk2 tI tI (.p1 tI tRows (.vr 1)) (.vr 2)) <|.ite (.vr 3) (.prim (.llen 92 tInts) (pjA (.pair tGrads tGrads) 1 (.vr 0)) <|.prim (.cmp .lss .i64) (.mk2 tI tI (.p1 tI tRows (.vr 1)) (.vr 4)) <|.ite (.vr 5) (.prim (.lidx 92 tInts) (.mk2 tRows tI (.p1 tRows (.pair tI .bool) (.p1 tGrads tGrads (.vr 0))) (.p1 tI tRows (.vr 1))) <|.prim (.lidx 92 tInts) (.mk2 tRows tI (pjA (.pair tGrads tGrads) 1 (.vr 0)) (.p1 tI tRows (.vr 1))) <|.call 0 (.mk2 tInts tInts (.vr 6) (.vr 7)) <|.prim (.lit 92 tInts 1) (.p1 tInts .bool (.vr 8)) <|.prim (.lapp 92 tInts 24) (.mk2 tRows tRows (prA tSaved 1 (.vr 1)) (.vr 9)) <|.prim (.ar .add .i64) (.mk2 tI tI (.p1 tI tRows (.vr 1)) (.ci .i64 1)) <|.again 0 (.mk2 tI tRows (.vr 11) (.vr 10))) (.call 1 (.mk2 tI tI (pjA tGrads 1 (.p1 tGrads tGrads (.vr 0))) (pjA (.pair tGrads tGrads) 2 (.vr 0))) <|.ret (mkA tGrads [(prA tSaved 1 (.vr 1)),(.p1 tI .bool (.vr 6)),(.cb true)]))) (.call 1 (.mk2 tI tI (pjA tGrads 1 (.p1 tGrads tGrads (.vr 0))) (pjA (.pair tGrads tGrads) 2 (.vr 0))) <|.ret (mkA tGrads [(prA tSaved 1 (.vr 1)),(.p1 tI .bool (.vr 4)),(.cb true)]))) (.loop (.pair tI (.pair tRows .bool)) (mkA (.pair tI (.pair tRows .bool)) [(.ci .i64 0),(.nl 92 tInts),(prA (.pair tGrads tGrads) 3 (.vr 0))]) <|.prim (.llen 92 tInts) (.p1 tRows (.pair tI .bool) (.p1 tGrads tGrads (.vr 0))) <|.prim (.cmp .lss .i64) (.mk2 tI tI (.p1 tI (.pair tRows .bool) (.vr 1)) (.vr 2)) <|.ite (.vr 3) (.prim (.llen 92 tInts) (pjA (.pair tGrads tGrads) 1 (.vr 0)) <|.prim (.cmp .lss .i64) (.mk2 tI tI (.p1 tI (.pair tRows .bool) (.vr 1)) (.vr 4)) <|.ite (.vr 5) (.prim (.lidx 92 tInts) (.mk2 tRows tI (.p1 tRows (.pair tI .bool) (.p1 tGrads tGrads (.vr 0))) (.p1 tI (.pair tRows .bool) (.vr 1))) <|.prim (.lidx 92 tInts) (.mk2 tRows tI (pjA (.pair tGrads tGrads) 1 (.vr 0)) (.p1 tI (.pair tRows .bool) (.vr 1))) <|.call 0 (.mk2 tInts tInts (.vr 6) (.vr 7)) <|.prim (.lit 92 tInts 1) (.p1 tInts .bool (.vr 8)) <|.prim (.lapp 92 tInts 24) (.mk2 tRows tRows (pjA (.pair tI (.pair tRows .bool)) 1 (.vr 1)) (.vr 9)) <|.ite (prA (.pair tI (.pair tRows .bool)) 2 (.vr 1)) (.prim (.ar .add .i64) (.mk2 tI tI (.p1 tI (.pair tRows .bool) (.vr 1)) (.ci .i64 1)) <|.again 0 (mkA (.pair tI (.pair tRows .bool)) [(.vr 11),(.vr 10),(.cb true)])) (.prim (.ar .add .i64) (.mk2 tI tI (.p1 tI (.pair tRows .bool) (.vr 1)) (.ci .i64 1)) <|.again 0 (mkA (.pair tI (.pair tRows .bool)) [(.vr 11),(.vr 10),(prA (.pair tInts .bool) 1 (.vr 8))]))) (.call 1 (.mk2 tI tI (pjA tGrads 1 (.p1 tGrads tGrads (.vr 0))) (pjA (.pair tGrads tGrads) 2 (.vr 0))) <|.ite (prA (.pair tI (.pair tRows .bool)) 2 (.vr 1)) (.ret (mkA tGrads [(pjA (.pair tI (.pair tRows .bool)) 1 (.vr 1)),(.p1 tI .bool (.vr 6)),(.cb true)])) (.ret (.mk2 tRows (.pair tI .bool) (pjA (.pair tI (.pair tRows .bool)) 1 (.vr 1)) (.vr 6))))) (.call 1 (.mk2 tI tI (pjA tGrads 1 (.p1 tGrads tGrads (.vr 0))) (pjA (.pair tGrads tGrads) 2 (.vr 0))) <|.ite (prA (.pair tI (.pair tRows .bool)) 2 (.vr 1)) (.ret (mkA tGrads [(pjA (.pair tI (.pair tRows .bool)) 1 (.vr 1)),(.p1 tI .bool (.vr 4)),(.cb true)])) (.ret (.mk2 tRows (.pair tI .bool) (pjA (.pair tI (.pair tRows .bool)) 1 (.vr 1)) (.vr 4)))))
set_option maxRecDepth 100000 in
theorem e_s_AddGrads:exFn Try.prog [c_s_l7Add,c_s_FixAdd] c_s_AddGrads false 3000 ⟨[(2991,3001,drd 17 11++[.dr 0,.dr 1,.tm 6 0,.sl 7]),(2991,2001,drd 17 11++[.dr 0,.dr 1,.tm 6 0,.sl 7,.bx 5 2])],[(2980,15009,[],[8]),(2980,14009,[],[8])]⟩ = .ok t_s_AddGrads:=by kernel_rfl
/- loops: (Int) × (List (List (Int))) ¦ (Int) × ((List (List (Int))) × (Bool)) -/
theorem v_s_AddGrads (x:GradsD × GradsD) (hx:okD (.pair tGrads tGrads) x) (hp:(fun x=>GradsB x.1∧GradsB x.2) x):t_s_AddGrads.wp [c_s_l7Add,c_s_FixAdd] [⟨(.pair tGrads tGrads),x⟩] [] (fun v=>v.as tGrads=(fun x=>addGrads x.1 x.2) x):=by
 obtain ⟨⟨a,la,sa⟩,⟨b,lb,sb⟩⟩:=x
 obtain ⟨⟨ha,ha'⟩,⟨hb,hb'⟩⟩:GradsB (a,la,sa)∧GradsB (b,lb,sb):=hp
 dsimp only at ha ha' hb hb'
 delta t_s_AddGrads c_s_l7Add c_s_FixAdd;refine vcx ?_;try with_reducible exact True.intro
 constructor
 ·intro hsat
  refine ⟨fun s=>∃ k:Nat,k≤a.length∧k≤b.length∧s=((k:Int),(addRows a b).take k),fun s=>a.length - (s.1:Int).toNat,⟨0,by omega,by omega,by simp⟩,fun s _ hI=>?_⟩
  obtain ⟨k,hk1,hk2,rfl⟩:=hI
  dsimp only
  (refine dcx ?_;try with_reducible exact True.intro)
  have fin:a.length≤k∨b.length≤k→∀ r:Int × Bool,r=fixAdd la lb→((addRows a b).take k,(r.1,true))=addGrads (a,la,sa) (b,lb,sb):=fun h r hr=>by
   rw[hr,take_ge (by rw[addRows_len];omega)]
   unfold addGrads
   dsimp only at hsat ⊢
   rw[hsat]
   simp
  have hl2:List.length ((addRows a b).take k)=k:=by rw[List.length_take,addRows_len];omega
  (repeat' first|intro _|(with_reducible apply And.intro))
  all_goals first|omega|(unfold maxLen;omega)|(exact fin (by omega) _ rfl)|skip
  all_goals have h1:k<a.length:=by omega
  all_goals have h2:k<b.length:=by omega
  all_goals simp only[getD_at h1,getD_at h2]
  all_goals first|(exact ha' _ (List.getElem_mem h1))|(exact hb' _ (List.getElem_mem h2))|(exact ⟨k+1,by omega,by omega,by rw[addRows_next a b h1 h2];rfl⟩)
 ·intro hsat
  refine ⟨fun s=>∃ k:Nat,k≤a.length∧k≤b.length∧s=((k:Int),(addRows a b).take k,sb || addFk a b k),fun s=>a.length - (s.1:Int).toNat,⟨0,by omega,by omega,by simp[addFk]⟩,fun s _ hI=>?_⟩
  obtain ⟨k,hk1,hk2,rfl⟩:=hI
  dsimp only
  (refine dcx ?_;try with_reducible exact True.intro)
  have fin:a.length≤k∨b.length≤k→∀ r:Int × Bool,r=fixAdd la lb→((addRows a b).take k,(r.1,(sb || addFk a b k) || r.2))=addGrads (a,la,sa) (b,lb,sb):=fun h r hr=>by
   rw[hr,take_ge (by rw[addRows_len];omega),addFk_all a b (by omega)]
   unfold addGrads
   dsimp only at hsat ⊢
   rw[hsat]
   simp
  have hl2:List.length ((addRows a b).take k)=k:=by rw[List.length_take,addRows_len];omega
  (repeat' first|intro _|(with_reducible apply And.intro))
  all_goals first|omega|(unfold maxLen;omega)|skip
  all_goals first|(rw[show (sb || addFk a b k)=true by assumption] at fin;exact fin (by omega) _ rfl)|(rw[show (sb || addFk a b k)=false by assumption] at fin;exact fin (by omega) _ rfl)|skip
  all_goals have h1:k<a.length:=by omega
  all_goals have h2:k<b.length:=by omega
  all_goals simp only[getD_at h1,getD_at h2]
  all_goals first|(exact ha' _ (List.getElem_mem h1))|(exact hb' _ (List.getElem_mem h2))|(refine ⟨k+1,by omega,by omega,?_⟩)
  all_goals rw[addRows_next a b h1 h2,addFk_next a b h1 h2,← Bool.or_assoc]
  ·rw[show (sb || addFk a b k)=true by assumption];rfl
  ·rw[show (sb || addFk a b k)=false by assumption];rfl
theorem h_s_AddGrads:Con.Holds Try.prog c_s_AddGrads:=tree_ok mixedP (consAt h_s_l7Add (consAt h_s_FixAdd consNil)) e_s_AddGrads fun x hx hp=>v_s_AddGrads x hx hp
end Go.Proofs.Ytahggdiafncdhaa
