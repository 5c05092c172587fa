/- LawMo: trees, and what they say. -/
import Derived.Test.YtpafjioccjpmfaaGreatPrgJ
import Derived.Test.YtpafjioccjpmfaaGreatLawCk
namespace Go.Proofs.YtpafjioccjpmfaaGreat
noncomputable section
set_option maxRecDepth 100000
open Go.ChangeShapes Go.WideShapes Go.ChangeAt Go.RowKit Go.Deep
set_option linter.unusedVariables false
set_option linter.unusedSimpArgs false
theorem mostM_app (s:Int) (e:aUA):(l:List aUA)→fO (l++[e]) s=if e.1=s then max (fO l s) e.2 else fO l s
 | []=>by
  show (if e.1=s then max e.2 0 else 0)=if e.1=s then max 0 e.2 else 0
  split
  ·omega
  ·rfl
 | a :: l=>by
  have ih:=mostM_app s e l
  show (if a.1=s then max a.2 (fO (l++[e]) s) else fO (l++[e]) s)=if e.1=s then max (if a.1=s then max a.2 (fO l s) else fO l s) e.2 else (if a.1=s then max a.2 (fO l s) else fO l s)
  rw[ih]
  split <;> split <;> omega
theorem mostM_next {l:List aUA} {k:Nat} (s:Int) (h:k<l.length):fO (l.take (k+1)) s=if (l[k]).1=s then max (fO (l.take k) s) (l[k]).2 else fO (l.take k) s:=by
 rw[← mC h,mostM_app]
theorem mom_none {c:bB} {b:List cB} (h:¬ cE c b=0):(l:List Int)→mV (bA c b) l=[]
 | []=>rfl
 | s :: l=>by
  have e:bA c b=([],[],[],[]):=(bIJ h).symm
  have he:cC (bA c b) s=false:=(aVV (.inl (by
   rw[e]
   refine Bool.eq_false_iff.2 fun hh=>?_
   have:=(mJ.1 hh).1.1
   exact absurd this (by decide)))).symm
  rw[aF9,he,if_neg (by decide),rY he,List.nil_append]
  exact mom_none h l
theorem totF_N {c:bB} {b:List cB} (h:cE c b=0):totF c (b.length:Int)=(mT c b:Int):=by
 have hn:=kN h
 obtain ⟨a1,a2,a3,a4,a5,a6,a7,a8⟩:=iZ h
 have htK:∀ k,k≤(bA c b).2.1.length→totK c (b.length:Int) k=((oG (fun s=>(gE (bA c b) s).length) k:Nat):Int):=fun k=>by
  induction k with
  | zero=>intro _;rfl
  | succ k ih =>
   intro hk
   rw[totK,ih (by omega),oG,(nT h (show k<(bA c b).2.1.length by omega)).1];omega
 unfold totF
 rw[show min c.2.2.2.1.length (bC c.1 c.2.1).toNat=(bA c b).2.1.length by omega]
 exact htK _ (Nat.le_refl _)
theorem rrL_one {r k:Nat}:rrL r (k+1)=rrL r k++[((k % r:Nat):Int)]:=by
 unfold rrL;rw[List.range_succ,List.map_append];rfl
theorem rrL_len (r k:Nat):(rrL r k).length=k:=by unfold rrL;simp
theorem moments {c:bB} {b:List cB} (h:cE c b=0):(mV (bA c b) (rrL (bA c b).2.1.length (mT c b * (bA c b).2.1.length))).length=mT c b ∧
  (∀ e∈mV (bA c b) (rrL (bA c b).2.1.length (mT c b * (bA c b).2.1.length)),(0≤e.1∧e.1<((bA c b).2.1.length:Int))∧0≤e.2∧e.2≤jD c e.1 (b.length:Int)) ∧
  (yW c b).length=(bA c b).2.1.length∧∀ t,t<(bA c b).2.1.length→(yW c b).getD t 0=c.2.2.2.2.2.getD t 0 - fO (mV (bA c b) (rrL (bA c b).2.1.length (mT c b * (bA c b).2.1.length))) (t:Int) ∧
   0≤fO (mV (bA c b) (rrL (bA c b).2.1.length (mT c b * (bA c b).2.1.length))) (t:Int)∧fO (mV (bA c b) (rrL (bA c b).2.1.length (mT c b * (bA c b).2.1.length))) (t:Int)≤c.2.2.2.2.2.getD t 0∧c.2.2.2.2.2.getD t 0≤100000:=by
 obtain ⟨m,e,hb1,hm1,hm2,hm3,hall⟩:=aQ1 h
 obtain ⟨a1,a2,a3,a4,a5,a6,a7,a8⟩:=iZ h
 have hn:=kN h
 have hI:=aFE h
 have hS:=lP h
 have hrr:=bCI h rfl (mT c b)
 rw[Nat.mul_comm] at hrr
 have hrun:=hI.run hS (rrL (bA c b).2.1.length (mT c b * (bA c b).2.1.length))
 have hz:dD (hK (bA c b) (rrL (bA c b).2.1.length (mT c b * (bA c b).2.1.length)))=0:=by
  have:=aJ1 (hK (bA c b) (rrL (bA c b).2.1.length (mT c b * (bA c b).2.1.length)))
  omega
 have hlen:=bBB h (rrL (bA c b).2.1.length (mT c b * (bA c b).2.1.length)) hI
 rw[hz,aLU h] at hlen
 have hsl:(xB c b).2.2.1.length=(bA c b).2.1.length:=by rw[e];exact hm1
 refine ⟨by omega,bG5 h _ hI,by unfold yW;rw[fL];exact hsl,fun t ht=>?_⟩
 have h1:=aVX h ht (rrL (bA c b).2.1.length (mT c b * (bA c b).2.1.length)) hI
 rw[aRX hrun.tr hz ht,aFN h t ht] at h1
 have h2:=aYV h e hm3 ht
 have h3:=aJH (t:Int) (mV (bA c b) (rrL (bA c b).2.1.length (mT c b * (bA c b).2.1.length)))
 have h4:max (0:Int) (fO (mV (bA c b) (rrL (bA c b).2.1.length (mT c b * (bA c b).2.1.length))) (t:Int))=aCO (lA c b t) (gE (bA c b) t).length:=h1
 have h5:=(hall t ht).2.2.1
 unfold jF at a8
 rw[Bool.and_eq_true,decide_eq_true_eq] at a8
 have h6:=List.all_eq_true.1 a8.2 t (List.mem_range.2 (by omega))
 unfold aOF at h6
 rw[decide_eq_true_eq] at h6
 refine ⟨?_,h3,by omega,h6.2⟩
 unfold yW
 rw[aG7 _ _ _ (by omega),e]
 show c.2.2.2.2.2.getD t 0 - (iU (bA c b) m).getD t 0=_
 omega
def c_i_MostOf:Con:=⟨20,(.bPW (.slice 48 aD) tI),tI,[.val ⟨false,(.slice 48 aD),[]⟩,.val ⟨false,tI,[]⟩],[⟨false,tI,[0]⟩],false,none,
 ((fun x=>List.length x.1≤1000000):((List cP) × Int)→Prop),
 ((fun x=>fO x.1 x.2):((List cP) × Int)→(Int))⟩
def t_i_MostOf:T :=
 .bPX (.bQ0 48 aD) (.p1 (.slice 48 aD) tI (.Z 0)) <|
 .loop aD (.bPY tI tI (.ci .i64 0) (.ci .i64 0)) <|
  .bPX (.cmp .lss .i64) (.bPY tI tI (.p1 tI tI (.Z 2)) (.Z 1)) <|
  .ite (.Z 3) (
   .bPX (.bQ1 48 aD) (.bPY (.slice 48 aD) tI (.p1 (.slice 48 aD) tI (.Z 0)) (.p1 tI tI (.Z 2))) <|
   .bPX (.cmp .eql .i64) (.bPY tI tI (.p1 tI tI (.Z 4)) (aS (.bPW (.slice 48 aD) tI) 1 (.Z 0))) <|
   .ite (.Z 5) (
    .bPX (.mx .i64) (.bPY tI tI (aS aD 1 (.Z 2)) (aS aD 1 (.Z 4))) <|
    .bPX (.ar .add .i64) (.bPY tI tI (.p1 tI tI (.Z 2)) (.ci .i64 1)) <|
    .bPZ 0 (.bPY tI tI (.Z 7) (.Z 6))) (
    .bPX (.ar .add .i64) (.bPY tI tI (.p1 tI tI (.Z 2)) (.ci .i64 1)) <|
    .bPZ 0 (.bPY tI tI (.Z 6) (aS aD 1 (.Z 2))))) (
   .ret (aS aD 1 (.Z 2)))
theorem e_i_MostOf:bW Tryz.prog [] c_i_MostOf false 3000 ⟨[(2991,1002,[.dr 0,.tm 10 0,.tm 5 0])],[]⟩ = .ok t_i_MostOf:=by kernel_rfl
theorem v_i_MostOf (x:(List cP) × Int) (hx:okD (.bPW (.slice 48 aD) tI) x) (hp:(fun x=>List.length x.1≤1000000) x):t_i_MostOf.wp [] [⟨(.bPW (.slice 48 aD) tI),x⟩] [] (fun v=>v.as tI=(fun x=>fO x.1 x.2) x):=by
 obtain ⟨l,s⟩:=x
 change List aUA at l
 have hm:List.length l≤1000000:=hp
 delta t_i_MostOf;refine dY ?_
 refine eD ?_
 refine fun _=>eW (fun k=>((k:Int),fO (l.take k) s)) l.length rfl fun I μ k hk _ go=>?_
 try dsimp only
 try refine eD ?_
 refine ⟨fun hlt=>?_,fun hge=>?_⟩
 ·have hk':k<l.length:=by omega
  have e:=mostM_next s hk'
  simp only[aW hk']
  generalize l[k]=y at e ⊢
  have f1:y.1=s→max (fO (l.take k) s) y.2=fO (l.take (k+1)) s:=fun h=>by rw[e,if_pos h]
  have f2:¬ y.1=s→fO (l.take k) s=fO (l.take (k+1)) s:=fun h=>by rw[e,if_neg h]
  (repeat' first|intro _|(refine go2 _ ?_ ?_ ?_)|(refine go2 _ ?_ ?_)|(refine go _ ?_ ?_ ?_)|(refine go _ ?_ ?_)|(with_reducible apply And.intro))
  all_goals first|omega|exact pk (f1 (by assumption))|exact pk (f2 (by assumption))|skip
 ·have:k=l.length:=by omega
  subst this
  rw[List.take_length]
theorem h_i_MostOf:Con.Holds Tryz.prog c_i_MostOf:=aX aZ aT e_i_MostOf v_i_MostOf
def c_s_MostOf:Con:=⟨21,(.bPW (.slice 48 aD) tI),tI,[.val ⟨false,(.slice 48 aD),[]⟩,.val ⟨false,tI,[]⟩],[⟨false,tI,[0]⟩],false,none,
 ((fun x=>List.length x.1≤1000000):((List cP) × Int)→Prop),
 ((fun x=>fO x.1 x.2):((List cP) × Int)→(Int))⟩
def t_s_MostOf:T:=.loop aD (.bPY tI tI (.ci .i64 0) (.ci .i64 0)) <|
 .bPX (.bQ0 48 aD) (.p1 (.slice 48 aD) tI (.Z 0)) <|
 .bPX (.cmp .lss .i64) (.bPY tI tI (.p1 tI tI (.Z 1)) (.Z 2)) <|
 .ite (.Z 3) (
  .bPX (.bQ1 48 aD) (.bPY (.slice 48 aD) tI (.p1 (.slice 48 aD) tI (.Z 0)) (.p1 tI tI (.Z 1))) <|
  .bPX (.cmp .eql .i64) (.bPY tI tI (.p1 tI tI (.Z 4)) (aS (.bPW (.slice 48 aD) tI) 1 (.Z 0))) <|
  .ite (.Z 5) (
   .bPX (.bQ1 48 aD) (.bPY (.slice 48 aD) tI (.p1 (.slice 48 aD) tI (.Z 0)) (.p1 tI tI (.Z 1))) <|
   .bPX (.mx .i64) (.bPY tI tI (aS aD 1 (.Z 1)) (aS aD 1 (.Z 6))) <|
   .bPX (.ar .add .i64) (.bPY tI tI (.p1 tI tI (.Z 1)) (.ci .i64 1)) <|
   .bPZ 0 (.bPY tI tI (.Z 8) (.Z 7))) (
   .bPX (.ar .add .i64) (.bPY tI tI (.p1 tI tI (.Z 1)) (.ci .i64 1)) <|
   .bPZ 0 (.bPY tI tI (.Z 6) (aS aD 1 (.Z 1))))) (
  .ret (aS aD 1 (.Z 1)))
theorem e_s_MostOf:bW Tryz.prog [] c_s_MostOf false 3000 ⟨[(2991,1001,[.tm 6 0,.tm 5 0])],[]⟩ = .ok t_s_MostOf:=by kernel_rfl
theorem v_s_MostOf (x:(List cP) × Int) (hx:okD (.bPW (.slice 48 aD) tI) x) (hp:(fun x=>List.length x.1≤1000000) x):t_s_MostOf.wp [] [⟨(.bPW (.slice 48 aD) tI),x⟩] [] (fun v=>v.as tI=(fun x=>fO x.1 x.2) x):=by
 obtain ⟨l,s⟩:=x
 change List aUA at l
 have hm:List.length l≤1000000:=hp
 delta t_s_MostOf;refine dY ?_
 refine eD ?_
 refine eW (fun k=>((k:Int),fO (l.take k) s)) l.length rfl fun I μ k hk _ go=>?_
 try dsimp only
 try refine eD ?_
 refine fun _=>⟨fun hlt=>?_,fun hge=>?_⟩
 ·have hk':k<l.length:=by omega
  have e:=mostM_next s hk'
  simp only[aW hk']
  generalize l[k]=y at e ⊢
  have f1:y.1=s→max (fO (l.take k) s) y.2=fO (l.take (k+1)) s:=fun h=>by rw[e,if_pos h]
  have f2:¬ y.1=s→fO (l.take k) s=fO (l.take (k+1)) s:=fun h=>by rw[e,if_neg h]
  (repeat' first|intro _|(refine go2 _ ?_ ?_ ?_)|(refine go2 _ ?_ ?_)|(refine go _ ?_ ?_ ?_)|(refine go _ ?_ ?_)|(with_reducible apply And.intro))
  all_goals first|omega|exact pk (f1 (by assumption))|exact pk (f2 (by assumption))|skip
 ·have:k=l.length:=by omega
  subst this
  rw[List.take_length]
theorem h_s_MostOf:Con.Holds Tryz.prog c_s_MostOf:=aX aZ aT e_s_MostOf v_s_MostOf
def k_w_at:Con:=⟨43,(.bPW (.slice 5 (.int .u8)) tI),tI,[.val ⟨false,(.slice 5 (.int .u8)),[]⟩,.val ⟨false,tI,[]⟩],[⟨false,tI,[0]⟩],false,none,
 ((fun x=>0≤x.2∧x.2≤1000∧x.1.length≤1048576):(bK × Int)→Prop),
 ((fun _=>aP tI):(bK × Int)→(Int))⟩
def t_w_at:T :=
 .bPX (.bQ0 5 (.int .u8)) (.p1 (.slice 5 (.int .u8)) tI (.Z 0)) <|
 .bPX (.cmp .lss .i64) (.bPY tI tI (aS (.bPW (.slice 5 (.int .u8)) tI) 1 (.Z 0)) (.Z 1)) <|
 .ite (.Z 2) (
  .bPX (.bQ1 5 (.int .u8)) (.bPY (.slice 5 (.int .u8)) tI (.p1 (.slice 5 (.int .u8)) tI (.Z 0)) (aS (.bPW (.slice 5 (.int .u8)) tI) 1 (.Z 0))) <|
  .bPX (.conv .u8 .i64) (.Z 3) <|
  .ret (.Z 4)) (
  .bPX (.ar .mul .i64) (.bPY tI tI (aS (.bPW (.slice 5 (.int .u8)) tI) 1 (.Z 0)) (.ci .i64 37)) <|
  .bPX (.bQ0 5 (.int .u8)) (.p1 (.slice 5 (.int .u8)) tI (.Z 0)) <|
  .bPX (.ar .mul .i64) (.bPY tI tI (.Z 4) (.ci .i64 11)) <|
  .bPX (.ar .add .i64) (.bPY tI tI (.Z 3) (.Z 5)) <|
  .bPX (.rem .i64) (.bPY tI tI (.Z 6) (.ci .i64 256)) <|
  .ret (.Z 7))
theorem e_w_at (f:(bK × Int)→(Int)):bW Tryz.prog [] { k_w_at with fn:=f } false 3000 ⟨[],[]⟩ = .ok t_w_at:=by kernel_rfl
theorem v_w_at (x:bK × Int) (hx:okD (.bPW (.slice 5 (.int .u8)) tI) x) (hp:(fun x=>0≤x.2∧x.2≤1000∧x.1.length≤1048576) x):t_w_at.wp [] [⟨(.bPW (.slice 5 (.int .u8)) tI),x⟩] [] (fun v=>(fun x r=>0≤r∧r≤255:(bK × Int)→(Int)→Prop) x (v.as tI)):=by
 obtain ⟨l,i⟩:=x
 obtain ⟨h1,h2,h3⟩:0≤i∧i≤1000∧List.length l≤1048576:=hp
 have hel:=hx.1.2
 delta t_w_at;refine dY ?_
 refine eD ?_
 refine fun _=>⟨fun hlt=>⟨⟨h1,hlt⟩,fun _ _=>?_⟩,fun hge=>?_⟩
 ·have hk:i.toNat<List.length l:=by omega
  have hb:(0:Int)≤(l[i.toNat]:Int)∧(l[i.toNat]:Int)≤255:=hel _ (List.getElem_mem hk)
  rw[aW hk,uH (by show (-9223372036854775808:Int)≤_∧_≤(9223372036854775807:Int);omega)]
  exact hb
 ·have hz:=tmB (a:=i * 37+(List.length l:Int) * 11) (n:=256) (by omega) (by omega)
  (repeat' first|intro _|(with_reducible apply And.intro))
  all_goals first|omega|skip
theorem d_w_at:∃ f:(bK × Int)→(Int),(∀ x,okD (.bPW (.slice 5 (.int .u8)) tI) x→(fun x=>0≤x.2∧x.2≤1000∧x.1.length≤1048576) x→(fun x r=>0≤r∧r≤255:(bK × Int)→(Int)→Prop) x (f x))∧Con.Holds Tryz.prog { k_w_at with fn:=f }:=iX (C:=k_w_at) aZ aT e_w_at (fun x r=>0≤r∧r≤255:(bK × Int)→(Int)→Prop) v_w_at
def f_w_at:(bK × Int)→(Int):=Classical.choose d_w_at
def c_w_at:Con:=⟨43,(.bPW (.slice 5 (.int .u8)) tI),tI,[.val ⟨false,(.slice 5 (.int .u8)),[]⟩,.val ⟨false,tI,[]⟩],[⟨false,tI,[0]⟩],false,none,
 ((fun x=>0≤x.2∧x.2≤1000∧x.1.length≤1048576):(bK × Int)→Prop),
 ((f_w_at):(bK × Int)→(Int))⟩
theorem h_w_at:Con.Holds Tryz.prog c_w_at:=(Classical.choose_spec d_w_at).2
def k_w_picks:Con:=⟨18,(.bPW (.slice 5 (.int .u8)) tI),aB,[.val ⟨false,(.slice 5 (.int .u8)),[]⟩,.val ⟨false,tI,[]⟩],[⟨false,aB,[2]⟩],false,none,
 ((fun x=>x.1.length≤1048576):(bK × Int)→Prop),
 ((fun _=>aP aB):(bK × Int)→(List Int))⟩
def t_w_picks:T:=.loop aI (.bPY tI aB (.ci .i64 0) (.nl 3 tI)) <|
 .bPX (.cmp .lss .i64) (.bPY tI tI (.p1 tI aB (.Z 1)) (.ci .i64 60)) <|
 .ite (.Z 2) (
  .bPX (.cmp .gtr .i64) (.bPY tI tI (aS (.bPW (.slice 5 (.int .u8)) tI) 1 (.Z 0)) (.ci .i64 0)) <|
  .ite (.Z 3) (
   .call 0 (.bPY (.slice 5 (.int .u8)) tI (.p1 (.slice 5 (.int .u8)) tI (.Z 0)) (.p1 tI aB (.Z 1))) <|
   .bPX (.rem .i64) (.bPY tI tI (.Z 4) (aS (.bPW (.slice 5 (.int .u8)) tI) 1 (.Z 0))) <|
   .bPX (.lit 3 tI 1) (.Z 5) <|
   .bPX (.bQ3 3 tI 8) (.bPY aB aB (aS aI 1 (.Z 1)) (.Z 6)) <|
   .bPX (.ar .add .i64) (.bPY tI tI (.p1 tI aB (.Z 1)) (.ci .i64 1)) <|
   .bPZ 0 (.bPY tI aB (.Z 8) (.Z 7))) (
   .ret (aS aI 1 (.Z 1)))) (
  .ret (aS aI 1 (.Z 1)))
theorem e_w_picks (f:(bK × Int)→(List Int)):bW Tryz.prog [c_w_at] { k_w_picks with fn:=f } false 3000 ⟨[(2991,1001,[.dr 7,.tm 6 0,.on 5,.sl 1])],[]⟩ = .ok t_w_picks:=by kernel_rfl
theorem v_w_picks (x:bK × Int) (hx:okD (.bPW (.slice 5 (.int .u8)) tI) x) (hp:(fun x=>x.1.length≤1048576) x):t_w_picks.wp [c_w_at] [⟨(.bPW (.slice 5 (.int .u8)) tI),x⟩] [] (fun v=>(fun x r=>List.length r≤60:(bK × Int)→(List Int)→Prop) x (v.as aB)):=by
 obtain ⟨l,n⟩:=x
 have h3:List.length l≤1048576:=hp
 delta t_w_picks c_w_at;refine dY ?_
 refine eD ?_
 refine ⟨fun s=>∃ k:Nat,k≤60∧s.1=(k:Int)∧List.length s.2=k,fun s=>60 - (s.1:Int).toNat,⟨0,Nat.zero_le _,rfl,rfl⟩,fun s _ hI=>?_⟩
 obtain ⟨j,acc⟩:=s
 obtain ⟨k,hk,e1,e2⟩:=hI
 change Int at j
 change j=(k:Int) at e1
 subst e1
 change List.length acc=k at e2
 try dsimp only
 try refine eD ?_
 refine ⟨fun hlt=>⟨fun h0=>⟨⟨by omega,by omega,h3⟩,fun _=>⟨by omega,fun _ _=>⟨⟨by omega,by unfold maxLen;omega⟩,fun _=>⟨by omega,fun _=>⟨⟨k+1,by omega,rfl,by first|omega|(rw[List.length_append,e2];rfl)⟩,by omega⟩⟩⟩⟩⟩,fun _=>by omega⟩,fun _=>by omega⟩
theorem d_w_picks:∃ f:(bK × Int)→(List Int),(∀ x,okD (.bPW (.slice 5 (.int .u8)) tI) x→(fun x=>x.1.length≤1048576) x→(fun x r=>List.length r≤60:(bK × Int)→(List Int)→Prop) x (f x))∧Con.Holds Tryz.prog { k_w_picks with fn:=f }:=iX (C:=k_w_picks) aZ (aG h_w_at aT) e_w_picks (fun x r=>List.length r≤60:(bK × Int)→(List Int)→Prop) v_w_picks
def f_w_picks:(bK × Int)→(List Int):=Classical.choose d_w_picks
def c_w_picks:Con:=⟨18,(.bPW (.slice 5 (.int .u8)) tI),aB,[.val ⟨false,(.slice 5 (.int .u8)),[]⟩,.val ⟨false,tI,[]⟩],[⟨false,aB,[2]⟩],false,none,
 ((fun x=>x.1.length≤1048576):(bK × Int)→Prop),
 ((f_w_picks):(bK × Int)→(List Int))⟩
theorem h_w_picks:Con.Holds Tryz.prog c_w_picks:=(Classical.choose_spec d_w_picks).2
def k_s_DrawSpare:Con:=⟨15,(.slice 5 (.int .u8)),(.bPW aC aF),[.val ⟨false,(.slice 5 (.int .u8)),[]⟩],[⟨true,aC,[0,0,0,0,0,0]⟩,⟨false,aF,[0]⟩],false,none,
 ((fun x=>x.length≤1048576):(List Int)→Prop),
 ((fun _=>aP (.bPW aC aF)):(List Int)→(bB × bL))⟩
def t_s_DrawSpare:T:=.call 0 (.Z 0) <|.call 1 (.Z 1) <|.ret (.bPY aC aF (.p1 aC (.bPW aF (.bPW (.slice 5 (.int .u8)) aD)) (.Z 2)) (aH (.bPW aC (.bPW aF (.bPW (.slice 5 (.int .u8)) aD))) 1 (.Z 2)))
theorem e_s_DrawSpare (f:(List Int)→(bB × bL)):bW Tryz.prog [fI,nA] { k_s_DrawSpare with fn:=f } false 3000 ⟨[],[]⟩ = .ok t_s_DrawSpare:=by kernel_rfl
theorem v_s_DrawSpare (x:List Int) (hx:okD (.slice 5 (.int .u8)) x) (hp:(fun x=>x.length≤1048576) x):t_s_DrawSpare.wp [fI,nA] [⟨(.slice 5 (.int .u8)),x⟩] [] (fun v=>(fun x r=>uD 9 4 6 r.1 r.2:(List Int)→(bB × bL)→Prop) x (v.as (.bPW aC aF))):=by
 have hp':List.length x≤1048576:=hp
 delta t_s_DrawSpare fI nA;refine dY ?_
 refine eD ?_
 refine ⟨hp',fun hc=>⟨Int.le_refl _,fun _=>?_⟩⟩
 exact (aK2 (aMA x) hc (Int.le_refl _)).2
theorem d_s_DrawSpare:∃ f:(List Int)→(bB × bL),(∀ x,okD (.slice 5 (.int .u8)) x→(fun x=>x.length≤1048576) x→(fun x r=>uD 9 4 6 r.1 r.2:(List Int)→(bB × bL)→Prop) x (f x))∧Con.Holds Tryz.prog { k_s_DrawSpare with fn:=f }:=iX (C:=k_s_DrawSpare) aZ (aG aP1 (aG aEP aT)) e_s_DrawSpare (fun x r=>uD 9 4 6 r.1 r.2:(List Int)→(bB × bL)→Prop) v_s_DrawSpare
def f_s_DrawSpare:(List Int)→(bB × bL):=Classical.choose d_s_DrawSpare
def c_s_DrawSpare:Con:=⟨15,(.slice 5 (.int .u8)),(.bPW aC aF),[.val ⟨false,(.slice 5 (.int .u8)),[]⟩],[⟨true,aC,[0,0,0,0,0,0]⟩,⟨false,aF,[0]⟩],false,none,
 ((fun x=>x.length≤1048576):(List Int)→Prop),
 ((f_s_DrawSpare):(List Int)→(bB × bL))⟩
theorem p_s_DrawSpare:∀ x,okD (.slice 5 (.int .u8)) x→(fun x=>x.length≤1048576) x→(fun x r=>uD 9 4 6 r.1 r.2:(List Int)→(bB × bL)→Prop) x (f_s_DrawSpare x):=(Classical.choose_spec d_s_DrawSpare).1
theorem h_s_DrawSpare:Con.Holds Tryz.prog c_s_DrawSpare:=(Classical.choose_spec d_s_DrawSpare).2
theorem q_s_DrawSpare (x:List Int) (hx:okD (.slice 5 (.int .u8)) x) (hp:(fun x=>x.length≤1048576) x):okD (.bPW aC aF) (f_s_DrawSpare x)∧(fun x r=>uD 9 4 6 r.1 r.2:(List Int)→(bB × bL)→Prop) x (f_s_DrawSpare x):=⟨h_s_DrawSpare.ok x hp hx,p_s_DrawSpare x hx hp⟩
def c_w_FnMoments:Con:=⟨4,(.slice 5 (.int .u8)),.bool,[.val ⟨false,(.slice 5 (.int .u8)),[]⟩],[⟨false,.bool,[0]⟩],false,none,
 ((fun _=>True):(List Int)→Prop),
 ((fun _=>true):(List Int)→(Bool))⟩
def t_w_FnMoments:T:=.call 0 (.Z 0) <|.ite (.Z 1) (.ret (.cb true)) (.call 1 (.Z 0) <|.call 2 (.Z 2) <|.call 3 (.Z 2) <|
 .bPX (.cmp .neq .i64) (.bPY tI tI (.Z 4) (.ci .i64 0)) <|
 .ite (.Z 5) (
  .bPX (.bQ0 3 tI) (.Z 3) <|
  .bPX (.cmp .eql .i64) (.bPY tI tI (.Z 6) (.ci .i64 0)) <|
  .ite (.Z 7) (
   .call 4 (.bPY (.slice 5 (.int .u8)) tI (.Z 0) (.ci .i64 3)) <|
   .call 5 (bP (.bPW aC (.bPW aF aB)) [(.p1 aC aF (.Z 2)),(aS (.bPW aC aF) 1 (.Z 2)),(.Z 8)]) <|
   .bPX (.bQ0 48 aD) (.Z 9) <|
   .bPX (.cmp .eql .i64) (.bPY tI tI (.Z 10) (.ci .i64 0)) <|
   .ret (.Z 11)) (
   .ret (.cb false))) (
  .bPX (.bQ0 108 aQ) (aS (.bPW aC aF) 1 (.Z 2)) <|
  .bPX (.bQ0 4 .bool) (aH aC 3 (.p1 aC aF (.Z 2))) <|
  .call 6 (.bPY aC tI (.p1 aC aF (.Z 2)) (.Z 6)) <|
  .bPX (.ar .mul .i64) (.bPY tI tI (.Z 8) (.Z 7)) <|
  .loop aI (.bPY tI aB (.ci .i64 0) (.nl 3 tI)) <|
   .bPX (.cmp .lss .i64) (.bPY tI tI (.p1 tI aB (.Z 10)) (.Z 9)) <|
   .ite (.Z 11) (
    .bPX (.bQ0 4 .bool) (aH aC 3 (.p1 aC aF (.Z 2))) <|
    .bPX (.rem .i64) (.bPY tI tI (.p1 tI aB (.Z 10)) (.Z 12)) <|
    .bPX (.lit 3 tI 1) (.Z 13) <|
    .bPX (.bQ3 3 tI 8) (.bPY aB aB (aS aI 1 (.Z 10)) (.Z 14)) <|
    .bPX (.ar .add .i64) (.bPY tI tI (.p1 tI aB (.Z 10)) (.ci .i64 1)) <|
    .bPZ 0 (.bPY tI aB (.Z 16) (.Z 15))) (
    .call 5 (bP (.bPW aC (.bPW aF aB)) [(.p1 aC aF (.Z 2)),(aS (.bPW aC aF) 1 (.Z 2)),(aS aI 1 (.Z 10))]) <|
    .bPX (.bQ0 48 aD) (.Z 12) <|
    .bPX (.bQ0 108 aQ) (aS (.bPW aC aF) 1 (.Z 2)) <|
    .call 6 (.bPY aC tI (.p1 aC aF (.Z 2)) (.Z 14)) <|
    .bPX (.cmp .neq .i64) (.bPY tI tI (.Z 13) (.Z 15)) <|
    .ite (.Z 16) (
     .ret (.cb false)) (
     .bPX (.bQ0 3 tI) (.Z 3) <|
     .bPX (.bQ0 4 .bool) (aH aC 3 (.p1 aC aF (.Z 2))) <|
     .bPX (.cmp .neq .i64) (.bPY tI tI (.Z 17) (.Z 18)) <|
     .ite (.Z 19) (
      .ret (.cb false)) (
      .loop tI (.ci .i64 0) <|
       .bPX (.bQ0 48 aD) (.Z 12) <|
       .bPX (.cmp .lss .i64) (.bPY tI tI (.Z 20) (.Z 21)) <|
       .ite (.Z 22) (
        .bPX (.bQ1 48 aD) (.bPY (.slice 48 aD) tI (.Z 12) (.Z 20)) <|
        .bPX (.bQ1 48 aD) (.bPY (.slice 48 aD) tI (.Z 12) (.Z 20)) <|
        .bPX (.cmp .lss .i64) (.bPY tI tI (.p1 tI tI (.Z 24)) (.ci .i64 0)) <|
        .ite (.Z 25) (
         .ret (.cb false)) (
         .bPX (.bQ1 48 aD) (.bPY (.slice 48 aD) tI (.Z 12) (.Z 20)) <|
         .bPX (.bQ1 48 aD) (.bPY (.slice 48 aD) tI (.Z 12) (.Z 20)) <|
         .bPX (.bQ0 4 .bool) (aH aC 3 (.p1 aC aF (.Z 2))) <|
         .bPX (.cmp .geq .i64) (.bPY tI tI (.p1 tI tI (.Z 27)) (.Z 28)) <|
         .ite (.Z 29) (
          .ret (.cb false)) (
          .bPX (.bQ1 48 aD) (.bPY (.slice 48 aD) tI (.Z 12) (.Z 20)) <|
          .bPX (.bQ1 48 aD) (.bPY (.slice 48 aD) tI (.Z 12) (.Z 20)) <|
          .bPX (.cmp .lss .i64) (.bPY tI tI (aS aD 1 (.Z 31)) (.ci .i64 0)) <|
          .ite (.Z 32) (
           .ret (.cb false)) (
           .bPX (.bQ1 48 aD) (.bPY (.slice 48 aD) tI (.Z 12) (.Z 20)) <|
           .bPX (.bQ1 48 aD) (.bPY (.slice 48 aD) tI (.Z 12) (.Z 20)) <|
           .bPX (.bQ1 48 aD) (.bPY (.slice 48 aD) tI (.Z 12) (.Z 20)) <|
           .bPX (.bQ1 48 aD) (.bPY (.slice 48 aD) tI (.Z 12) (.Z 20)) <|
           .bPX (.bQ0 108 aQ) (aS (.bPW aC aF) 1 (.Z 2)) <|
           .call 7 (bP (.bPW aC aD) [(.p1 aC aF (.Z 2)),(.p1 tI tI (.Z 36)),(.Z 37)]) <|
           .bPX (.cmp .gtr .i64) (.bPY tI tI (aS aD 1 (.Z 34)) (.Z 38)) <|
           .ite (.Z 39) (
            .ret (.cb false)) (
            .bPX (.ar .add .i64) (.bPY tI tI (.Z 20) (.ci .i64 1)) <|
            .bPZ 0 (.Z 40)))))) (
        .loop tI (.ci .i64 0) <|
         .bPX (.bQ0 3 tI) (.Z 3) <|
         .bPX (.cmp .lss .i64) (.bPY tI tI (.Z 23) (.Z 24)) <|
         .ite (.Z 25) (
          .call 8 (.bPY (.slice 48 aD) tI (.Z 12) (.Z 23)) <|
          .bPX (.bQ1 3 tI) (.bPY aB tI (.Z 3) (.Z 23)) <|
          .bPX (.bQ1 3 tI) (.bPY aB tI (.Z 3) (.Z 23)) <|
          .bPX (.cmp .lss .i64) (.bPY tI tI (.Z 28) (.ci .i64 0)) <|
          .ite (.Z 29) (
           .ret (.cb false)) (
           .call 9 (.bPY (.slice 48 aD) tI (.Z 12) (.Z 23)) <|
           .bPX (.cmp .neq .i64) (.bPY tI tI (.Z 26) (.Z 30)) <|
           .ite (.Z 31) (
            .ret (.cb false)) (
            .bPX (.bQ1 3 tI) (.bPY aB tI (aS aC 5 (.p1 aC aF (.Z 2))) (.Z 23)) <|
            .bPX (.bQ1 3 tI) (.bPY aB tI (.Z 3) (.Z 23)) <|
            .bPX (.bQ1 3 tI) (.bPY aB tI (.Z 3) (.Z 23)) <|
            .bPX (.ar .sub .i64) (.bPY tI tI (.Z 32) (.Z 34)) <|
            .bPX (.cmp .neq .i64) (.bPY tI tI (.Z 26) (.Z 35)) <|
            .ite (.Z 36) (
             .ret (.cb false)) (
             .bPX (.ar .add .i64) (.bPY tI tI (.Z 23) (.ci .i64 1)) <|
             .bPZ 0 (.Z 37))))) (
          .ret (.cb true))))))))
theorem e_w_FnMoments:bW Tryz.prog [uX,c_s_DrawSpare,xF,nI,c_w_picks,aBE,c_s_Total,fB,c_i_MostOf,c_s_MostOf] c_w_FnMoments false 3000 ⟨[(2975,4010,[.dr 47,.dr 43,.dr 46,.dr 45,.dr 42,.dr 40,.dr 44,.dr 41,.dr 39]++jV 26 18++[.dr 15,.dr 17,.dr 16,.dr 14,.dr 13,.dr 0,.tm 8 0,.on 6,.sl 8]),(2958,32020,jV 79 61++jV 50 48++jV 8 6++[.tm 10 0]),(2948,64023,jV 83 80++[.dr 10,.dr 4,.tm 11 0])],[]⟩ = .ok t_w_FnMoments:=by kernel_rfl
theorem v_w_FnMoments (x:List Int) (hx:okD (.slice 5 (.int .u8)) x) (hp:(fun _=>True) x):t_w_FnMoments.wp [uX,c_s_DrawSpare,xF,nI,c_w_picks,aBE,c_s_Total,fB,c_i_MostOf,c_s_MostOf] [⟨(.slice 5 (.int .u8)),x⟩] [] (fun v=>v.as .bool=(fun _=>true) x):=by
 delta t_w_FnMoments uX c_s_DrawSpare xF nI c_w_picks aBE c_s_Total fB c_i_MostOf c_s_MostOf;refine dY ?_
 refine eD ?_
 refine ⟨fun _=>trivial,fun hb=>⟨by omega,fun _=>?_⟩⟩
 have hx':List.length x≤1048576:=by omega
 have q:=(q_s_DrawSpare x hx hx').2
 generalize f_s_DrawSpare x=r at q ⊢
 obtain ⟨c,b⟩:=r
 dsimp only at q ⊢
 have s1:=cf_sz q
 have hcp:dO c:=aAV (by omega)
 refine ⟨⟨by omega,by omega⟩,fun _=>⟨hcp,fun _=>⟨fun had=>?_,fun had=>?_⟩⟩⟩
 ·rw[← bC0 had]
  exact fun _=>⟨fun _=>⟨hx',fun _=>⟨⟨by omega,by omega⟩,fun _ _=>by rw[mom_none had];rfl⟩⟩,fun h=>absurd rfl h⟩
 ·obtain ⟨m1,m2,m3,m4⟩:=moments had
  obtain ⟨a1,a2,a3,a4,a5,a6,a7,a8⟩:=iZ had
  have hn:=kN had
  have hl:=pG had
  have htot:=aSO had
  rw[totF_N had]
  have hr:((List.length c.2.2.2.1:Nat):Int)=(((bA c b).2.1.length:Nat):Int):=by omega
  have hlim:(c.2.2.2.2.2.length:Int)=bC c.1 c.2.1:=by
   unfold jF at a8
   rw[Bool.and_eq_true,decide_eq_true_eq] at a8
   exact a8.1
  simp only[hr]
  generalize hP:bA c b=P at *
  generalize P.2.1.length=N at *
  have hmN:0≤(mT c b:Int) * (N:Int)∧(mT c b:Int) * (N:Int)≤1000:=⟨Int.mul_nonneg (by omega) (by omega),Int.le_trans (Int.mul_le_mul (show (mT c b:Int)≤240 by omega) (show (N:Int)≤4 by omega) (by omega) (by omega)) (by omega)⟩
  have hmm:((mT c b * N:Nat):Int)=(mT c b:Int) * (N:Int):=Int.natCast_mul _ _
  rw[← hmm] at hmN ⊢
  refine fun _ _=>⟨hcp,fun _=>⟨by omega,fun _=>?_⟩⟩
  refine eW (fun k=>((k:Int),rrL N k)) (mT c b * N) rfl fun I μ k hk _ go=>?_
  try dsimp only
  try refine eD ?_
  refine ⟨fun hlt=>?_,fun hge=>?_⟩
  ·have e1:=rrL_one (r:=N) (k:=k)
   have e2:=rrL_len N k
   simp only[bPR]
   (repeat' first|intro _|(refine go2 _ ?_ ?_ ?_)|(refine go2 _ ?_ ?_)|(refine go _ ?_ ?_ ?_)|(refine go _ ?_ ?_)|(with_reducible apply And.intro))
   all_goals first|omega|(unfold maxLen;omega)|exact Prod.ext (show ((k:Nat):Int)+1=((k+1:Nat):Int) from rfl) e1.symm|skip
  ·have hkE:k=mT c b * N:=by omega
   have e2:List.take 2000 (rrL N k)=rrL N (mT c b * N):=by rw[hkE];exact List.take_of_length_le (by rw[rrL_len];omega)
   clear go
   simp only[e2]
   generalize hO:mV P (rrL N (mT c b * N))=O at m1 m2 m4 ⊢
   generalize hSp:yW c b=Sp at m3 m4 ⊢
   refine ⟨⟨by omega,by omega⟩,fun _ _ _=>⟨hcp,fun _=>⟨fun h=>absurd (by omega) h,fun _ _ _=>⟨fun h=>absurd (by omega) h,fun _=>?_⟩⟩⟩⟩
   refine eW (fun j=>(j:Int)) O.length rfl fun I μ j hj _ go=>?_
   try dsimp only
   try refine eD ?_
   refine fun _=>⟨fun hlt2=>?_,fun hge2=>?_⟩
   ·have hj':j<O.length:=by omega
    have hmem:=m2 _ (List.getElem_mem hj')
    simp only[aW hj']
    generalize O[j]=y at hmem ⊢
    obtain ⟨⟨y1,y2⟩,y3,y4⟩:=hmem
    (repeat' first|intro _|(refine go2 _ ?_ ?_ ?_)|(refine go2 _ ?_ ?_)|(refine go _ ?_ ?_ ?_)|(refine go _ ?_ ?_)|(with_reducible apply And.intro))
    all_goals first|omega|exact hcp|rfl|skip
   ·clear go
    refine eW (fun j=>(j:Int)) N rfl fun I μ t ht _ go=>?_
    try dsimp only
    try refine eD ?_
    refine fun _=>⟨fun hlt3=>?_,fun hge3=>?_⟩
    ·have ht':t<N:=by omega
     obtain ⟨w1,w2,w3,w4⟩:=m4 t ht'
     have z1:Sp.getD t (aP tI)=Sp.getD t 0:=rfl
     have z2:List.getD c.2.2.2.2.2 t (aP tI)=List.getD c.2.2.2.2.2 t 0:=rfl
     simp only[z1,z2]
     generalize fO O (t:Int)=mo at *
     generalize Sp.getD t 0=sp at *
     generalize List.getD c.2.2.2.2.2 t 0=li at *
     (repeat' first|intro _|(refine go2 _ ?_ ?_ ?_)|(refine go2 _ ?_ ?_)|(refine go _ ?_ ?_ ?_)|(refine go _ ?_ ?_)|(with_reducible apply And.intro))
     all_goals first|omega|exact absurd trivial (by assumption)|rfl|skip
    ·trivial
theorem h_w_FnMoments:Con.Holds Tryz.prog c_w_FnMoments:=aX aZ (aG bCW (aG h_s_DrawSpare (aG bF0 (aG aPM (aG h_w_picks (aG bIL (aG h_s_Total (aG yU (aG h_i_MostOf (aG h_s_MostOf aT)))))))))) e_w_FnMoments v_w_FnMoments
end
end Go.Proofs.YtpafjioccjpmfaaGreat
