/- Where what comes out is what should there is nothing to learn: plain law. No program in sight. -/
import Derived.Test.YtahggdiafncdhaaSeq5
import Derived.Test.YtahggdiafncdhaaLearn2
namespace Go.Proofs.Ytahggdiafncdhaa
open Go.ChangeShapes Go.WideShapes Go.ChangeAt Go.RowKit Go.Deep
set_option linter.unusedVariables false
set_option linter.unusedSimpArgs false
def Zs (l:List Int):Prop:=∀ v∈l,v=0
theorem Zs.at' {l:List Int} (h:Zs l) (i:Nat):l.getD i 0=0:=by
 rcases Nat.lt_or_ge i l.length with hi|hi
 ·rw[getD_at hi];exact h _ (List.getElem_mem hi)
 ·simp[List.getD_eq_getElem?_getD,List.getElem?_eq_none hi]
theorem Zs.nil:Zs []:=fun v h=>by cases h
theorem Zs.mp {n:Nat} {g:Nat→Int} (h:∀ i,g i=0):Zs (mp n g):=fun v hv=>by
 obtain ⟨i,_,rfl⟩:=List.mem_map.1 (show v∈(List.range n).map g from hv)
 exact h i
theorem Zs.app {a b:List Int} (ha:Zs a) (hb:Zs b):Zs (a++b):=fun v hv=>(List.mem_append.1 hv).elim (ha v) (hb v)
theorem an_no {n:Nat} {h:Nat→Bool} (e:∀ i,i<n→h i=false):an n h=false:=by
 rw[Bool.eq_false_iff]
 intro hc
 obtain ⟨i,h1,h2⟩:=List.any_eq_true.1 (show (List.range n).any h=true from hc)
 rw[e i (List.mem_range.1 h1)] at h2;cases h2
theorem satI_0:satI 0=(0,false):=by decide
theorem clampI_0:clampI 0=0:=by decide
theorem fm_r (a:Int):fixMul a 0=(0,false):=by
 unfold fixMul;rw[clampI_0,Int.mul_zero,Int.zero_fdiv];exact satI_0
theorem fm_l (a:Int):fixMul 0 a=(0,false):=by
 unfold fixMul;rw[clampI_0,Int.zero_mul,Int.zero_fdiv];exact satI_0
theorem fa_0:fixAdd 0 0=(0,false):=by decide
theorem fs_s (v:Int):fixSub v v=(0,false):=by
 unfold fixSub;rw[Int.sub_self];exact satI_0
theorem fs_r {v:Int} (h:fixB v=true):fixSub v 0=(v,false):=by
 have h1:=(fixB_iff v).1 h
 unfold fixSub satI
 rw[clampI_0,Int.sub_zero]
 have e:clampI v=v:=by unfold clampI;omega
 simp[e]
theorem dot0l {a b:List Int} (h:Zs a):(k:Nat)→dotK a b k=(0,false)
 | 0=>rfl
 | k+1=>by rw[dotK,dot0l h k,h.at',fm_l,fa_0];rfl
theorem dot0r {a b:List Int} (h:Zs b):(k:Nat)→dotK a b k=(0,false)
 | 0=>rfl
 | k+1=>by rw[dotK,dot0r h k,h.at',fm_r,fa_0];rfl
theorem vd0l {a b:List Int} (h:Zs a):vecDot a b=(0,false):=by
 unfold vecDot;split
 ·exact dot0l h _
 ·rfl
theorem vd0r {a b:List Int} (h:Zs b):vecDot a b=(0,false):=by
 unfold vecDot;split
 ·exact dot0r h _
 ·rfl
theorem vadd0 {a b:List Int} (ha:Zs a) (hb:Zs b):Zs (vecZ fixAdd a b).1:=by
 unfold vecZ;split
 ·exact Zs.mp fun i=>by rw[ha.at',hb.at',fa_0]
 ·exact Zs.nil
theorem vsub0 (a:List Int):Zs (vecZ fixSub a a).1:=by
 unfold vecZ;split
 ·exact Zs.mp fun i=>by rw[fs_s]
 ·exact Zs.nil
theorem vsc0 {c:Int} {a:List Int} (ha:Zs a):Zs (vecS1 c a).1:=by
 unfold vecS1;split
 ·exact Zs.mp fun i=>by rw[ha.at',fm_r]
 ·exact Zs.nil
theorem vmask0 {x d:List Int} (hd:Zs d):Zs (vecMask x d):=by
 unfold vecMask;split
 ·exact Zs.mp fun i=>by rw[hd.at'];split <;> rfl
 ·exact Zs.nil
theorem mback0 {m:MatD} {d:List Int} (hd:Zs d):Zs (matBack m d).1:=by
 unfold matBack;split
 ·exact Zs.mp fun i=>by rw[vd0r hd]
 ·exact Zs.nil
theorem catK0 {f:Nat→List Int} (h:∀ i,Zs (f i)):(n:Nat)→Zs (catK f n)
 | 0=>Zs.nil
 | n+1=>(catK0 h n).app (h n)
theorem outer0 {d x:List Int} (hd:Zs d):Zs (outer d x).1.2.2:=by
 unfold outer;split
 ·exact catK0 (fun i=>Zs.mp fun j=>by rw[hd.at',fm_l]) _
 ·exact Zs.nil
theorem bwd0 {o:OpD} {x d:List Int} (hd:Zs d):Zs (opBwd o x d).1∧Zs (opBwd o x d).2.1:=by
 unfold opBwd
 split
 ·exact ⟨Zs.nil,Zs.nil⟩
 ·split
  ·exact ⟨mback0 hd,outer0 hd⟩
  ·split
   ·exact ⟨hd,hd⟩
   ·split
    ·refine ⟨vsc0 hd,fun v hv=>?_⟩
     rw[List.mem_singleton.1 hv,vd0l hd]
    ·split
     ·exact ⟨vadd0 hd (mback0 hd),outer0 hd⟩
     ·exact ⟨vmask0 hd,Zs.nil⟩
theorem backK0 {m:List OpD} {r:RowsD} {d:List Int} (hd:Zs d) (n:Nat):(k:Nat)→(∀ g∈(backK m r d n k).1,Zs g)∧Zs (backK m r d n k).2.1
 | 0=>⟨fun g hg=>by rw[List.eq_of_mem_replicate (show g∈List.replicate n [] from hg)];exact Zs.nil,hd⟩
 | k+1=>by
  obtain ⟨h1,h2⟩:=backK0 (m:=m) (r:=r) hd n k
  have h3:=bwd0 (o:=m.getD (n - 1 - k) zOp) (x:=r.getD (n - 1 - k) []) h2
  refine ⟨fun g hg=>?_,h3.1⟩
  rcases List.mem_or_eq_of_mem_set (show g∈(backK m r d n k).1.set (n - 1 - k) _ from hg) with h|rfl
  ·exact h1 g h
  ·exact h3.2
theorem loss0 (y:List Int):(lossOf y y).1=0:=by
 unfold lossOf
 rw[vd0l (vsub0 y)];rfl
theorem rows_at {g:RowsD} (h:∀ r∈(g:List (List Int)),Zs r) (i:Nat):Zs ((g:List (List Int)).getD i []):=by
 rcases Nat.lt_or_ge i (List.length g) with hi|hi
 ·rw[getD_at hi];exact h _ (List.getElem_mem hi)
 ·rw[List.getD_eq_getElem?_getD,List.getElem?_eq_none hi];exact Zs.nil
theorem opB_fix {o:OpD} (h:opB o=true) (k:Nat) (hk:k<o.2.2.2.length):fixB (o.2.2.2.getD k 0)=true:=by
 rw[getD_at hk]
 exact List.all_eq_true.1 ((opB_iff o).1 h).2 _ (List.getElem_mem hk)
theorem learn0 {m:List OpD} {g:GradsD} (r:Int) (hz:∀ v∈g.1,Zs v):learnF m g r=(m,false):=by
 unfold learnF
 split
 ·rename_i h
  have hm:=(modelB_iff m).1 h.1
  have hop:∀ i,i<m.length→opB (m.getD i zOp)=true:=fun i hi=>by
   rw[getD_at hi];exact ((okAt_iff m hi).1 (hm.2.2 i hi)).1
  refine Prod.ext ?_ ?_
  ·show lrnK r m g.1 m.length=m
   unfold lrnK
   refine (mp_cong fun i hi=>?_).trans (mp_self m zOp)
   rw[if_pos hi]
   have e:lrnV r (m.getD i zOp).2.2.2 (g.1.getD i []) (m.getD i zOp).2.2.2.length=(m.getD i zOp).2.2.2:=by
    unfold lrnV
    refine (mp_cong fun k hk=>?_).trans (mp_self _ 0)
    rw[(rows_at hz i).at',fm_r,fs_r (opB_fix (hop i hi) k hk)]
   show ((m.getD i zOp).1,(m.getD i zOp).2.1,(m.getD i zOp).2.2.1,lrnV r (m.getD i zOp).2.2.2 (g.1.getD i []) (m.getD i zOp).2.2.2.length)=m.getD i zOp
   rw[e]
  ·show lrnA r m g.1 m.length=false
   refine an_no fun i hi=>an_no fun k hk=>?_
   rw[(rows_at hz i).at',fm_r,fs_r (opB_fix (hop i hi) k hk)];rfl
 ·rfl
/-! what goes ahead has its form -/
theorem fixB_c (x:Int):fixB (clampI x)=true:=(fixB_iff _).2 (clampI_b x)
theorem fix_sat (x:Int):fixB (satI x).1=true:=fixB_c x
theorem dotK_fix (a b:List Int):(k:Nat)→fixB (dotK a b k).1=true
 | 0=>by show fixB 0=true;decide
 | k+1=>fix_sat _
theorem vd_fix (a b:List Int):fixB (vecDot a b).1=true:=by
 unfold vecDot;split
 ·exact dotK_fix _ _ _
 ·show fixB 0=true;decide
theorem vecN_mp {n:Nat} {z:Int} {g:Nat→Int} (h1:1≤n) (h6:n≤6) (hz:(n:Int)=z) (h:∀ i,fixB (g i)=true):vecN (mp n g) z=true:=by
 refine (vecN_iff _ _).2 ⟨(vecB_iff _).2 ⟨by rw[mp_len];exact h1,by rw[mp_len];exact h6,List.all_eq_true.2 fun v hv=>?_⟩,by rw[mp_len];exact hz⟩
 obtain ⟨i,_,rfl⟩:=List.mem_map.1 (show v∈(List.range n).map g from hv)
 exact h i
theorem matB_of {o:OpD} (h:opB o=true) (hk:o.1=1∨o.1=5):matB (opMat o)=true:=by
 obtain ⟨⟨h1,h2,h3,h4,h5,h6,h7,h8⟩,h9⟩:=(opB_iff o).1 h
 refine (matB_iff _).2 ⟨⟨h5,h6,h3,h4,?_⟩,h9⟩
 show (o.2.2.2.length:Int)=o.2.2.1 * o.2.1
 rw[h8];unfold opSize
 rw[if_neg (by omega),if_pos hk,Int.mul_comm]
theorem reluFix (x:Int):fixB (reluI x)=true:=(fixB_iff _).2 (by have:=clampI_b x;unfold reluI;omega)
theorem fwd_N {o:OpD} {x:List Int} (h:opB o=true) (hx:vecN x o.2.1=true):vecN (opFwd o x).1 o.2.2.1=true:=by
 obtain ⟨⟨h1,h2,h3,h4,h5,h6,h7,h8⟩,h9⟩:=(opB_iff o).1 h
 obtain ⟨x1,x2⟩:=(vecN_iff x _).1 hx
 obtain ⟨x3,x4,x5⟩:=(vecB_iff x).1 x1
 have hmv:o.1=1∨o.1=5→vecN (matVec (opMat o) x).1 o.2.2.1=true:=fun hk=>by
  unfold matVec
  rw[if_pos ⟨matB_of h hk,hx⟩]
  exact vecN_mp (by show 1≤o.2.2.1.toNat;omega) (by show o.2.2.1.toNat≤6;omega) (by show (o.2.2.1.toNat:Int)=o.2.2.1;omega) fun i=>vd_fix _ _
 have hva:∀ b,o.2.1=o.2.2.1→vecN b o.2.1=true→vecN (vecZ fixAdd x b).1 o.2.2.1=true:=fun b he hb=>by
  unfold vecZ
  rw[if_pos ((pairB_iff _ _).2 ⟨x1,by rw[x2];exact hb⟩)]
  exact vecN_mp x3 x4 (by rw[x2,he]) fun i=>fix_sat _
 unfold opFwd
 rw[if_neg (fun hn=>hn ⟨h,hx⟩)]
 split
 ·rename_i hk;exact hmv (.inl hk)
 ·rename_i hk1
  have he:=h7 hk1
  split
  ·rename_i hk
   refine hva _ he ((vecN_iff _ _).2 ⟨(vecB_iff _).2 ?_,?_⟩)
   ·have hl:(o.2.2.2.length:Int)=o.2.1:=by rw[h8];unfold opSize;rw[if_neg (by omega),if_neg (by omega),if_pos hk]
    exact ⟨by omega,by omega,h9⟩
   ·rw[h8];unfold opSize;rw[if_neg (by omega),if_neg (by omega),if_pos hk]
  ·split
   ·rename_i hk
    unfold vecS1
    have hl:o.2.2.2.length=1:=by
     have:(o.2.2.2.length:Int)=1:=by rw[h8];unfold opSize;rw[if_neg (by omega),if_neg (by omega),if_neg (by omega),if_pos hk]
     omega
    rw[if_pos ⟨opB_fix h 0 (by omega),x1⟩]
    exact vecN_mp x3 x4 (by rw[x2,he]) fun i=>fix_sat _
   ·split
    ·rename_i hk
     exact hva _ he (by rw[he];exact hmv (.inr hk))
    ·unfold vecRelu
     rw[if_pos x1]
     exact vecN_mp x3 x4 (by rw[x2,he]) fun i=>reluFix _
/-- The row behind k operations. -/
def rowF (m:List OpD) (x:List Int):Nat→List Int
 | 0=>x
 | k+1=>(opFwd (m.getD k zOp) (rowF m x k)).1
theorem inK2_at (m : List OpD) (x : List Int) : (k i : Nat) → i ≤ k → (inK2 m x k).1.getD i [] = rowF m x i
  | 0, i, h => by obtain rfl : i = 0 := by omega
                  rfl
  | k + 1, i, h => by
    have hl := inK2_len m x k
    show ((inK2 m x k).1 ++ [(opFwd (m.getD k zOp) ((inK2 m x k).1.getD k [])).1]).getD i [] = _
    rcases Nat.lt_or_ge i (k + 1) with hi | hi
    · rw [List.getD_eq_getElem?_getD, List.getElem?_append_left (by omega), ← List.getD_eq_getElem?_getD]
      exact inK2_at m x k i (by omega)
    · obtain rfl : i = k + 1 := by omega
      rw [List.getD_eq_getElem?_getD, List.getElem?_append_right (by omega), hl, Nat.sub_self]
      show (opFwd (m.getD k zOp) ((inK2 m x k).1.getD k [])).1 = _
      rw [inK2_at m x k k (Nat.le_refl _)]; rfl
theorem rowF_N {m:List OpD} {x:List Int} (hm:modelB m=true) (hx:vecN x (inOf m)=true):(k:Nat)→k<m.length→vecN (rowF m x k) (m.getD k zOp).2.1=true∧vecN (rowF m x (k+1)) (m.getD k zOp).2.2.1=true
 | 0,h=>by
  have h1:=(modelB_iff m).1 hm
  have ho:opB (m.getD 0 zOp)=true:=by rw[getD_at h];exact ((okAt_iff m h).1 (h1.2.2 0 h)).1
  have h2:vecN x (m.getD 0 zOp).2.1=true:=by unfold inOf at hx;rwa [if_pos hm] at hx
  exact ⟨h2,fwd_N ho h2⟩
 | k+1,h=>by
  have h1:=(modelB_iff m).1 hm
  obtain ⟨g1,g2⟩:=(okAt_iff m h).1 (h1.2.2 (k+1) h)
  have hk:=(rowF_N hm hx k (by omega)).2
  have e:(m.getD k zOp).2.2.1=(m.getD (k+1) zOp).2.1:=by
   have:=g2.resolve_left (by omega)
   rw[getD_at (show k<m.length by omega),getD_at h]
   simpa using this
  rw[e] at hk
  exact ⟨hk,fwd_N (by rw[getD_at h];exact g1) hk⟩
theorem micro0 {m:List OpD} {x:List Int} (hm:modelB m=true) (hx:vecN x (inOf m)=true) :
  (microF m (x,rowF m x m.length)).1.length=m.length∧(∀ g∈(microF m (x,rowF m x m.length)).1,Zs g)∧(microF m (x,rowF m x m.length)).2.1=0:=by
 have h1:=(modelB_iff m).1 hm
 have hy:vecN (rowF m x m.length) (outOf m)=true:=by
  have:=(rowF_N hm hx (m.length - 1) (by omega)).2
  unfold outOf
  rw[if_pos hm]
  rwa [show m.length - 1+1=m.length by omega] at this
 have hp:pairOkB m (x,rowF m x m.length)=true:=by unfold pairOkB;rw[Bool.and_eq_true];exact ⟨hx,hy⟩
 have hi:(inputsF m x).1.getD m.length []=rowF m x m.length:=by
  unfold inputsF;rw[if_pos ⟨hm,hx⟩];exact inK2_at m x _ _ (Nat.le_refl _)
 unfold microF
 rw[if_pos ⟨hm,hp⟩]
 dsimp only
 rw[hi]
 exact ⟨by unfold backF;exact backK_len _ _ _ _ _,(backK0 (vsub0 _) _ _).1,loss0 _⟩
end Go.Proofs.Ytahggdiafncdhaa
