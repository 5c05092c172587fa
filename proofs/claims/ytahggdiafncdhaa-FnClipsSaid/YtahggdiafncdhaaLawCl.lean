/- LawCl: trees, and what they say. -/
import Derived.Test.YtahggdiafncdhaaDraw3
import Derived.Test.YtahggdiafncdhaaDraw2
import Derived.Test.YtahggdiafncdhaaClipC
namespace Go.Proofs.Ytahggdiafncdhaa
open Go.ChangeShapes Go.WideShapes Go.ChangeAt Go.RowKit Go.Deep
set_option linter.unusedVariables false
set_option linter.unusedSimpArgs false
def gst (m x:Int):Int:=max (max m (clampI x)) (-(clampI x))
def gRow (m:Int) (r:List Int):Int:=r.foldl gst m
def gAll (l:List (List Int)):Int:=l.foldl gRow 0
theorem gRow_next (m:Int) {l:List Int} {k:Nat} (h:k<l.length):gRow m (l.take (k+1))=gst (gRow m (l.take k)) l[k]:=by
 unfold gRow;rw[List.take_succ_eq_append_getElem h,List.foldl_append];rfl
def gA (l:List (List Int)) (k:Nat):Int:=(l.take k).foldl gRow 0
theorem gA_next {l:List (List Int)} {k:Nat} (h:k<l.length):gA l (k+1)=gRow (gA l k) l[k]:=by
 unfold gA;rw[List.take_succ_eq_append_getElem h,List.foldl_append];rfl
theorem gA_all (l:List (List Int)):gA l l.length=gAll l:=by unfold gA gAll;rw[List.take_length]
theorem gst_b {m x:Int} (h0:0≤m) (h1:m≤2147483647):m≤gst m x∧gst m x≤2147483647:=by
 have:=clampI_b x
 unfold gst;omega
theorem gRow_b:(r:List Int)→{m:Int}→0≤m→m≤2147483647→m≤gRow m r∧gRow m r≤2147483647
 | [],m,h0,h1=>⟨Int.le_refl _,h1⟩
 | x :: r,m,h0,h1=>by
  have:=gst_b (x:=x) h0 h1
  have h:=gRow_b r (m:=gst m x) (by omega) this.2
  exact ⟨by show m≤gRow (gst m x) r;omega,h.2⟩
theorem gF_b:(l:List (List Int))→{m:Int}→0≤m→m≤2147483647→m≤l.foldl gRow m∧l.foldl gRow m≤2147483647
 | [],m,h0,h1=>⟨Int.le_refl _,h1⟩
 | x :: r,m,h0,h1=>by
  have:=gRow_b x h0 h1
  have h:=gF_b r (m:=gRow m x) (by omega) this.2
  exact ⟨by show m≤r.foldl gRow (gRow m x);omega,h.2⟩
theorem gA_b (l:List (List Int)) (k:Nat):0≤gA l k∧gA l k≤2147483647:=gF_b _ (Int.le_refl _) (by omega)
theorem cl_eq (x:Int):cl x=clampI x:=by unfold cl clampI;omega
/-- Clipping numbers that are in the range. -/
theorem gst_clv {a v M:Int} (h0:0≤a) (h1:-2147483647≤v) (h2:v≤2147483647) (hM:0≤M) (hM2:M≤2147483647):gst (min a M) (clv M v)=min (gst a v) M:=by
 unfold gst clv clampI
 split
 ·omega
 ·split <;> omega
theorem gRow_clv {M:Int} (hM:0≤M) (hM2:M≤2147483647):(r:List Int)→{a:Int}→0≤a→a≤2147483647→(∀ v∈r,fixB v=true)→gRow (min a M) (r.map (clv M))=min (gRow a r) M
 | [],a,h0,h1,_=>rfl
 | x :: r,a,h0,h1,hr=>by
  have hx:=(fixB_iff x).1 (hr x (by simp))
  have hb:=gst_b (x:=x) h0 h1
  show gRow (gst (min a M) (clv M x)) (r.map (clv M))=min (gRow (gst a x) r) M
  rw[gst_clv h0 hx.1 hx.2 hM hM2]
  exact gRow_clv hM hM2 r (by omega) hb.2 (fun v hv=>hr v (List.mem_cons_of_mem _ hv))
theorem gF_clv {M:Int} (hM:0≤M) (hM2:M≤2147483647):(l:List (List Int))→{a:Int}→0≤a→a≤2147483647→(∀ r∈l,∀ v∈r,fixB v=true)→(l.map (fun r=>r.map (clv M))).foldl gRow (min a M)=min (l.foldl gRow a) M
 | [],a,h0,h1,_=>rfl
 | x :: r,a,h0,h1,hr=>by
  have hb:=gRow_b x h0 h1
  show (r.map (fun r=>r.map (clv M))).foldl gRow (gRow (min a M) (x.map (clv M)))=min (r.foldl gRow (gRow a x)) M
  rw[gRow_clv hM hM2 x h0 h1 (hr x (by simp))]
  exact gF_clv hM hM2 r (by omega) hb.2 (fun v hv=>hr v (List.mem_cons_of_mem _ hv))
theorem gst_ge {m x:Int}:clampI x≤gst m x∧-(clampI x)≤gst m x:=by unfold gst;omega
theorem gRow_ge:(r:List Int)→{m:Int}→0≤m→m≤2147483647→∀ v∈r,clampI v≤gRow m r∧-(clampI v)≤gRow m r
 | x :: r,m,h0,h1,v,hv=>by
  have hb:=gst_b (x:=x) h0 h1
  have hg:=gst_ge (m:=m) (x:=x)
  have hr:=gRow_b r (m:=gst m x) (by omega) hb.2
  show clampI v≤gRow (gst m x) r∧-(clampI v)≤gRow (gst m x) r
  rcases List.mem_cons.1 hv with rfl|hv
  ·omega
  ·exact gRow_ge r (by omega) hb.2 v hv
theorem gF_ge:(l:List (List Int))→{m:Int}→0≤m→m≤2147483647→∀ r∈l,∀ v∈r,clampI v≤l.foldl gRow m∧-(clampI v)≤l.foldl gRow m
 | x :: l,m,h0,h1,r,hr,v,hv=>by
  have hb:=gRow_b x h0 h1
  have hl:=gF_b l (m:=gRow m x) (by omega) hb.2
  show clampI v≤l.foldl gRow (gRow m x)∧-(clampI v)≤l.foldl gRow (gRow m x)
  rcases List.mem_cons.1 hr with rfl|hr
  ·have:=gRow_ge r h0 h1 v hv;omega
  ·exact gF_ge l (by omega) hb.2 r hr v hv
theorem clip_G {g:GradsD} {most:Int} (h:GF g) (h0:0≤most):gAll (clipD g most).1=min (gAll g.1) (min most 2147483647):=by
 have hc:cl most=min most 2147483647:=by unfold cl;omega
 unfold clipD
 rw[if_neg (by omega),hc]
 have h1:=gF_clv (M:=min most 2147483647) (by omega) (by omega) g.1 (a:=0) (by omega) (by omega) h
 rw[show min (0:Int) (min most 2147483647)=0 by omega] at h1
 exact h1
theorem clip_same {g:GradsD} {most:Int} (h:GF g) (hn:gAll g.1≤most):clipD g most=g:=by
 have h0:=(gF_b g.1 (m:=0) (by omega) (by omega)).1
 have h0':0≤gAll g.1:=h0
 have hc:cl most=min most 2147483647:=by unfold cl;omega
 unfold clipD
 rw[if_neg (by omega),hc]
 refine Prod.ext ?_ rfl
 show (g.1:List (List Int)).map (fun r=>r.map (clv (min most 2147483647)))=g.1
 refine Eq.trans (List.map_congr_left (g:=id) fun r hr=>?_) (List.map_id _)
 refine Eq.trans (List.map_congr_left (g:=id) fun v hv=>?_) (List.map_id _)
 have hv2:=(fixB_iff v).1 (h r hr v hv)
 have hge:=gF_ge g.1 (m:=0) (by omega) (by omega) r hr v hv
 have hge':clampI v≤gAll g.1∧-(clampI v)≤gAll g.1:=hge
 rw[clampI_id hv2.1 hv2.2] at hge'
 unfold clv
 rw[if_neg (by omega),if_neg (by omega)]
 rfl
theorem clip_twice {g:GradsD} {k most:Int} (h:GF g) (h0:0≤most) (hk:0≤k):clipD (clipD g most) k=clipD g (min k most):=by
 unfold clipD
 rw[if_neg (show ¬ most<0 by omega),if_neg (by omega),if_neg (by omega)]
 refine Prod.ext ?_ rfl
 show ((g.1:List (List Int)).map (fun r=>r.map (clv (cl most)))).map (fun r=>r.map (clv (cl k)))=(g.1:List (List Int)).map (fun r=>r.map (clv (cl (min k most))))
 rw[List.map_map]
 refine List.map_congr_left fun r hr=>?_
 show (r.map (clv (cl most))).map (clv (cl k))=r.map (clv (cl (min k most)))
 rw[List.map_map]
 refine List.map_congr_left fun v hv=>?_
 show clv (cl k) (clv (cl most) v)=clv (cl (min k most)) v
 have h1:cl most=min most 2147483647:=by unfold cl;omega
 have h2:cl k=min k 2147483647:=by unfold cl;omega
 have h3:cl (min k most)=min (min k most) 2147483647:=by unfold cl;omega
 rw[h1,h2,h3]
 unfold clv
 repeat' split
 all_goals omega
theorem clip_GB {g:GradsD} {n:Int} (h:GB g):GB (clipD g n):=by
 unfold clipD
 split
 ·exact h
 ·refine ⟨by rw[show List.length (clipR (cl n) g.1)=List.length g.1 from clipR_length _ _];exact h.1,fun r hr=>?_⟩
  obtain ⟨r0,h0,rfl⟩:=List.mem_map.1 (show r∈(g.1:List (List Int)).map (fun r=>r.map (clv (cl n))) from hr)
  rw[List.length_map];exact h.2 r0 h0
theorem clip_len (g:GradsD) (n:Int):List.length (clipD g n).1=List.length g.1∧(clipD g n).2=g.2:=by
 unfold clipD
 split
 ·exact ⟨rfl,rfl⟩
 ·exact ⟨clipR_length _ _,rfl⟩

/-! spec.FixNeg -/

noncomputable def c_s_FixNeg:Con:=⟨66,tI,tI,[.val ⟨false,tI,[]⟩],[⟨false,tI,[0]⟩],false,none,
 ((fun _=>True):(Int)→Prop),
 ((fun x=>-(clampI x)):(Int)→(Int))⟩
def t_s_FixNeg:T:=.call 0 (.vr 0) <|.prim (.neg .i64) (.vr 1) <|.ret (.vr 2)
set_option maxRecDepth 100000 in
theorem e_s_FixNeg:exFn Try.prog [c_s_l2In] c_s_FixNeg false 3000 ⟨[],[]⟩ = .ok t_s_FixNeg:=by kernel_rfl
theorem v_s_FixNeg (x:Int) (hx:okD tI x) (hp:(fun _=>True) x):t_s_FixNeg.wp [c_s_l2In] [⟨tI,x⟩] [] (fun v=>v.as tI=(fun x=>-(clampI x)) x):=by
 have hc:=clampI_b x
 delta t_s_FixNeg c_s_l2In;refine vcx ?_;try with_reducible exact True.intro
 exact fun _=>⟨by omega,fun _=>trivial⟩
theorem h_s_FixNeg:Con.Holds Try.prog c_s_FixNeg:=tree_ok mixedP (consAt h_s_l2In consNil) e_s_FixNeg fun x hx hp=>v_s_FixNeg x hx hp

/-! laws.at -/

noncomputable def k_w_at:Con:=⟨19,(.pair (.slice 5 (.int .u8)) tI),tI,[.val ⟨false,(.slice 5 (.int .u8)),[]⟩,.val ⟨false,tI,[]⟩],[⟨false,tI,[0]⟩],false,none,
 ((fun x=>x.2=0∧x.1.length≤1048576):(IntsD × Int)→Prop),
 ((fun _=>zeroD tI):(IntsD × Int)→(Int))⟩
def t_w_at:T:=.prim (.llen 5 (.int .u8)) (.p1 (.slice 5 (.int .u8)) tI (.vr 0)) <|.prim (.cmp .lss .i64) (.mk2 tI tI (prA (.pair (.slice 5 (.int .u8)) tI) 1 (.vr 0)) (.vr 1)) <|.ite (.vr 2) (.prim (.lidx 5 (.int .u8)) (.mk2 (.slice 5 (.int .u8)) tI (.p1 (.slice 5 (.int .u8)) tI (.vr 0)) (prA (.pair (.slice 5 (.int .u8)) tI) 1 (.vr 0))) <|.prim (.conv .u8 .i64) (.vr 3) <|.ret (.vr 4)) (.prim (.ar .mul .i64) (.mk2 tI tI (prA (.pair (.slice 5 (.int .u8)) tI) 1 (.vr 0)) (.ci .i64 37)) <|.prim (.llen 5 (.int .u8)) (.p1 (.slice 5 (.int .u8)) tI (.vr 0)) <|.prim (.ar .mul .i64) (.mk2 tI tI (.vr 4) (.ci .i64 11)) <|.prim (.ar .add .i64) (.mk2 tI tI (.vr 3) (.vr 5)) <|.prim (.rem .i64) (.mk2 tI tI (.vr 6) (.ci .i64 256)) <|.ret (.vr 7))
set_option maxRecDepth 100000 in
theorem e_w_at (f:(IntsD × Int)→(Int)):exFn Try.prog [] { k_w_at with fn:=f } false 3000 ⟨[],[]⟩ = .ok t_w_at:=by kernel_rfl
theorem v_w_at (x:IntsD × Int) (hx:okD (.pair (.slice 5 (.int .u8)) tI) x) (hp:(fun x=>x.2=0∧x.1.length≤1048576) x):t_w_at.wp [] [⟨(.pair (.slice 5 (.int .u8)) tI),x⟩] [] (fun v=>(fun x r=>0≤r∧r≤255:(IntsD × Int)→(Int)→Prop) x (v.as tI)):=by
 obtain ⟨l,i⟩:=x
 obtain ⟨rfl,hl⟩:i=0∧l.length≤1048576:=hp
 change List Int at l
 delta t_w_at;refine vcx ?_;try with_reducible exact True.intro
 (refine dcx ?_;try with_reducible exact True.intro)
 refine fun _=>⟨fun h=>⟨⟨by omega,h⟩,fun hk _=>?_⟩,fun h=>?_⟩
 ·have hk2:0≤(l.getD 0 (zeroD (Ty.int IntKind.u8)):Int)∧(l.getD 0 (zeroD (Ty.int IntKind.u8)):Int)≤255:=hk
  rw[wrap_in (by show (-9223372036854775808:Int)≤_∧_≤(9223372036854775807:Int);omega)]
  exact hk2
 ·(repeat' first|intro _|(with_reducible apply And.intro))
  all_goals first|omega|exact (tmB (by omega) (by omega)).1|(have:=tmB (a:=0 * 37+(l.length:Int) * 11) (n:=256) (by omega) (by omega);omega)
theorem d_w_at:∃ f:(IntsD × Int)→(Int),(∀ x,okD (.pair (.slice 5 (.int .u8)) tI) x→(fun x=>x.2=0∧x.1.length≤1048576) x→(fun x r=>0≤r∧r≤255:(IntsD × Int)→(Int)→Prop) x (f x))∧Con.Holds Try.prog { k_w_at with fn:=f }:=rel_ok (C:=k_w_at) mixedP consNil e_w_at (fun x r=>0≤r∧r≤255:(IntsD × Int)→(Int)→Prop) fun x hx hp=>v_w_at x hx hp
noncomputable def f_w_at:(IntsD × Int)→(Int):=Classical.choose d_w_at
noncomputable def c_w_at:Con:=⟨19,(.pair (.slice 5 (.int .u8)) tI),tI,[.val ⟨false,(.slice 5 (.int .u8)),[]⟩,.val ⟨false,tI,[]⟩],[⟨false,tI,[0]⟩],false,none,
 ((fun x=>x.2=0∧x.1.length≤1048576):(IntsD × Int)→Prop),
 ((f_w_at):(IntsD × Int)→(Int))⟩
theorem p_w_at:∀ x,okD (.pair (.slice 5 (.int .u8)) tI) x→(fun x=>x.2=0∧x.1.length≤1048576) x→(fun x r=>0≤r∧r≤255:(IntsD × Int)→(Int)→Prop) x (f_w_at x):=(Classical.choose_spec d_w_at).1
theorem h_w_at:Con.Holds Try.prog c_w_at:=(Classical.choose_spec d_w_at).2
theorem q_w_at (x:IntsD × Int) (hx:okD (.pair (.slice 5 (.int .u8)) tI) x) (hp:(fun x=>x.2=0∧x.1.length≤1048576) x):okD tI (f_w_at x)∧(fun x r=>0≤r∧r≤255:(IntsD × Int)→(Int)→Prop) x (f_w_at x):=⟨h_w_at.ok x hp hx,p_w_at x hx hp⟩

/-! impl.Greatest -/

noncomputable def c_i_Greatest:Con:=⟨16,tGrads,tI,[.val ⟨true,tGrads,[]⟩],[⟨false,tI,[0]⟩],false,none,
 ((fun _=>True):(GradsD)→Prop),
 ((fun x=>gAll x.1):(GradsD)→(Int))⟩
def t_i_Greatest:T:=.prim (.llen 92 tInts) (.p1 tRows (.pair tI .bool) (.vr 0)) <|.loop tIns (.mk2 tI tI (.ci .i64 0) (.ci .i64 0)) <|.prim (.cmp .lss .i64) (.mk2 tI tI (.p1 tI tI (.vr 2)) (.vr 1)) <|.ite (.vr 3) (.prim (.lidx 92 tInts) (.mk2 tRows tI (.p1 tRows (.pair tI .bool) (.vr 0)) (.p1 tI tI (.vr 2))) <|.prim (.llen 3 tI) (.vr 4) <|.loop tIns (.mk2 tI tI (.ci .i64 0) (prA tIns 1 (.vr 2))) <|.prim (.cmp .lss .i64) (.mk2 tI tI (.p1 tI tI (.vr 6)) (.vr 5)) <|.ite (.vr 7) (.prim (.lidx 3 tI) (.mk2 tInts tI (.vr 4) (.p1 tI tI (.vr 6))) <|.call 0 (.vr 8) <|.call 0 (.vr 8) <|.prim (.neg .i64) (.vr 10) <|.prim (.mx .i64) (.mk2 tI tI (prA tIns 1 (.vr 6)) (.vr 9)) <|.prim (.mx .i64) (.mk2 tI tI (.vr 12) (.vr 11)) <|.prim (.ar .add .i64) (.mk2 tI tI (.p1 tI tI (.vr 6)) (.ci .i64 1)) <|.again 0 (.mk2 tI tI (.vr 14) (.vr 13))) (.prim (.ar .add .i64) (.mk2 tI tI (.p1 tI tI (.vr 2)) (.ci .i64 1)) <|.again 1 (.mk2 tI tI (.vr 8) (prA tIns 1 (.vr 6))))) (.ret (prA tIns 1 (.vr 2)))
set_option maxRecDepth 100000 in
theorem e_i_Greatest:exFn Try.prog [c_i_clamp] c_i_Greatest false 3000 ⟨[(2991,1002,[.dr 8,.dr 1,.dr 0,.tm 11 0,.tm 3 0]),(2978,3006,[.tm 18 0,.tm 3 0])],[]⟩ = .ok t_i_Greatest:=by kernel_rfl
/- loops: (Int) × (Int) ¦ (Int) × (Int) -/
theorem v_i_Greatest (x:GradsD) (hx:okD tGrads x) (hp:(fun _=>True) x):t_i_Greatest.wp [c_i_clamp] [⟨tGrads,x⟩] [] (fun v=>v.as tI=(fun x=>gAll x.1) x):=by
 obtain ⟨l,y⟩:=x
 change List (List Int) at l
 have hl1:=lenM (show l.length≤maxLen from hx.1.1)
 have hl2:∀ k (hk:k<l.length),l[k].length≤9223372036854775807:=fun k hk=>lenM (hx.1.2 _ (List.getElem_mem hk)).1
 delta t_i_Greatest c_i_clamp;refine vcx ?_;try with_reducible exact True.intro
 refine fun _=>loopF (fun k=>((k:Int),gA l k)) l.length rfl fun I μ k hk _ go=>?_
 try dsimp only
 (refine dcx ?_;try with_reducible exact True.intro)
 have gb:=gA_b l k
 refine ⟨fun hlt=>?_,fun hge=>?_⟩
 ·have hk':k<l.length:=by omega
  rw[getD_at hk']
  have hl3:=hl2 k hk'
  have hgo:∀ y,y=((k:Int)+1,gRow (gA l k) l[k])→I y∧μ y<μ ((k:Int),gA l k):=fun y h=>go y hk' (h.trans (pk (gA_next hk').symm))
  refine ⟨⟨by omega,by omega⟩,fun _ _=>loopF (fun j=>((j:Int),gRow (gA l k) (l[k].take j))) l[k].length rfl fun I2 μ2 j hj _ go2=>?_⟩
  try dsimp only
  (refine dcx ?_;try with_reducible exact True.intro)
  refine ⟨fun hlt2=>?_,fun hge2=>?_⟩
  ·have hj':j<l[k].length:=by omega
   have e:=gRow_next (gA l k) hj'
   have hc:=clampI_b (l[k][j]'hj')
   rw[getD_at hj']
   have hgo2:=go2 _ hj' rfl
   rw[e] at hgo2
   (repeat' first|intro _|(with_reducible apply And.intro))
   all_goals first|omega|exact hgo2.1|exact hgo2.2|skip
  ·have:j=l[k].length:=by omega
   subst this
   rw[List.take_length]
   (repeat' first|intro _|(with_reducible apply And.intro))
   all_goals first|omega|exact (hgo _ rfl).1|exact (hgo _ rfl).2
 ·have:k=l.length:=by omega
  subst this
  exact gA_all l
theorem h_i_Greatest:Con.Holds Try.prog c_i_Greatest:=tree_ok mixedP (consAt h_i_clamp consNil) e_i_Greatest fun x hx hp=>v_i_Greatest x hx hp

/-! spec.Greatest -/

noncomputable def c_s_Greatest:Con:=⟨17,tGrads,tI,[.val ⟨true,tGrads,[]⟩],[⟨false,tI,[0]⟩],false,none,
 ((fun _=>True):(GradsD)→Prop),
 ((fun x=>gAll x.1):(GradsD)→(Int))⟩
def t_s_Greatest:T:=.loop tIns (.mk2 tI tI (.ci .i64 0) (.ci .i64 0)) <|.prim (.llen 92 tInts) (.p1 tRows (.pair tI .bool) (.vr 0)) <|.prim (.cmp .lss .i64) (.mk2 tI tI (.p1 tI tI (.vr 1)) (.vr 2)) <|.ite (.vr 3) (.loop tIns (.mk2 tI tI (.ci .i64 0) (prA tIns 1 (.vr 1))) <|.prim (.lidx 92 tInts) (.mk2 tRows tI (.p1 tRows (.pair tI .bool) (.vr 0)) (.p1 tI tI (.vr 1))) <|.prim (.llen 3 tI) (.vr 5) <|.prim (.cmp .lss .i64) (.mk2 tI tI (.p1 tI tI (.vr 4)) (.vr 6)) <|.ite (.vr 7) (.prim (.lidx 92 tInts) (.mk2 tRows tI (.p1 tRows (.pair tI .bool) (.vr 0)) (.p1 tI tI (.vr 1))) <|.prim (.lidx 3 tI) (.mk2 tInts tI (.vr 8) (.p1 tI tI (.vr 4))) <|.prim (.lidx 92 tInts) (.mk2 tRows tI (.p1 tRows (.pair tI .bool) (.vr 0)) (.p1 tI tI (.vr 1))) <|.prim (.lidx 3 tI) (.mk2 tInts tI (.vr 10) (.p1 tI tI (.vr 4))) <|.call 0 (.vr 9) <|.call 1 (.vr 11) <|.prim (.mx .i64) (.mk2 tI tI (.vr 12) (.vr 13)) <|.prim (.mx .i64) (.mk2 tI tI (prA tIns 1 (.vr 4)) (.vr 14)) <|.prim (.ar .add .i64) (.mk2 tI tI (.p1 tI tI (.vr 4)) (.ci .i64 1)) <|.again 0 (.mk2 tI tI (.vr 16) (.vr 15))) (.prim (.ar .add .i64) (.mk2 tI tI (.p1 tI tI (.vr 1)) (.ci .i64 1)) <|.again 1 (.mk2 tI tI (.vr 8) (prA tIns 1 (.vr 4))))) (.ret (prA tIns 1 (.vr 1)))
set_option maxRecDepth 100000 in
theorem e_s_Greatest:exFn Try.prog [c_s_l2In,c_s_FixNeg] c_s_Greatest false 3000 ⟨[(2991,1001,[.dr 0,.tm 4 0,.tm 3 0]),(2980,3004,[.tm 5 0,.tm 3 0])],[]⟩ = .ok t_s_Greatest:=by kernel_rfl
/- loops: (Int) × (Int) ¦ (Int) × (Int) -/
theorem v_s_Greatest (x:GradsD) (hx:okD tGrads x) (hp:(fun _=>True) x):t_s_Greatest.wp [c_s_l2In,c_s_FixNeg] [⟨tGrads,x⟩] [] (fun v=>v.as tI=(fun x=>gAll x.1) x):=by
 obtain ⟨l,y⟩:=x
 change List (List Int) at l
 have hl1:=lenM (show l.length≤maxLen from hx.1.1)
 have hl2:∀ k (hk:k<l.length),l[k].length≤9223372036854775807:=fun k hk=>lenM (hx.1.2 _ (List.getElem_mem hk)).1
 delta t_s_Greatest c_s_l2In c_s_FixNeg;refine vcx ?_;try with_reducible exact True.intro
 refine loopF (fun k=>((k:Int),gA l k)) l.length rfl fun I μ k hk _ go=>?_
 try dsimp only
 (refine dcx ?_;try with_reducible exact True.intro)
 have gb:=gA_b l k
 refine fun _=>⟨fun hlt=>?_,fun hge=>?_⟩
 ·have hk':k<l.length:=by omega
  rw[getD_at hk']
  have hl3:=hl2 k hk'
  have hgo:∀ y,y=((k:Int)+1,gRow (gA l k) l[k])→I y∧μ y<μ ((k:Int),gA l k):=fun y h=>go y hk' (h.trans (pk (gA_next hk').symm))
  refine loopF (fun j=>((j:Int),gRow (gA l k) (l[k].take j))) l[k].length rfl fun I2 μ2 j hj _ go2=>?_
  try dsimp only
  (refine dcx ?_;try with_reducible exact True.intro)
  refine ⟨⟨by omega,by omega⟩,fun _ _=>⟨fun hlt2=>?_,fun hge2=>?_⟩⟩
  ·have hj':j<l[k].length:=by omega
   have e:=gRow_next (gA l k) hj'
   have hc:=clampI_b (l[k][j]'hj')
   rw[getD_at hj']
   have hgo2:=go2 _ hj' rfl
   have em:∀ m:Int,max m (max (clampI (l[k][j]'hj')) (-clampI (l[k][j]'hj')))=gst m (l[k][j]'hj'):=fun m=>by unfold gst;omega
   rw[e] at hgo2
   rw[em]
   (repeat' first|intro _|(with_reducible apply And.intro))
   all_goals first|omega|exact hgo2.1|exact hgo2.2|skip
  ·have:j=l[k].length:=by omega
   subst this
   rw[List.take_length]
   (repeat' first|intro _|(with_reducible apply And.intro))
   all_goals first|omega|exact (hgo _ rfl).1|exact (hgo _ rfl).2
 ·have:k=l.length:=by omega
  subst this
  exact gA_all l
theorem h_s_Greatest:Con.Holds Try.prog c_s_Greatest:=tree_ok mixedP (consAt h_s_l2In (consAt h_s_FixNeg consNil)) e_s_Greatest fun x hx hp=>v_s_Greatest x hx hp

/-! laws.FnClips -/

noncomputable def c_w_FnClips:Con:=⟨4,(.slice 5 (.int .u8)),.bool,[.val ⟨false,(.slice 5 (.int .u8)),[]⟩],[⟨false,.bool,[0]⟩],false,none,
 ((fun _=>True):(List Int)→Prop),
 ((fun _=>true):(List Int)→(Bool))⟩
def t_w_FnClips:T:=.call 0 (.vr 0) <|.ite (.vr 1) (.ret (.cb true)) (.call 1 (.vr 0) <|.call 2 (.vr 2) <|.call 3 (.p1 tGrads tI (.vr 2)) <|.prim (.llen 92 tInts) (.p1 tRows (.pair tI .bool) (.vr 3)) <|.prim (.llen 92 tInts) (.p1 tRows (.pair tI .bool) (.p1 tGrads tI (.vr 2))) <|.prim (.cmp .neq .i64) (.mk2 tI tI (.vr 5) (.vr 6)) <|.ite (.vr 7) (.ret (.cb false)) (.prim (.cmp .neq .i64) (.mk2 tI tI (pjA tGrads 1 (.vr 3)) (pjA tGrads 1 (.p1 tGrads tI (.vr 2)))) <|.ite (.vr 8) (.ret (.cb false)) (.prim (.eqv true .bool) (.mk2 .bool .bool (prA tGrads 2 (.vr 3)) (prA tGrads 2 (.p1 tGrads tI (.vr 2)))) <|.ite (.vr 9) (.ret (.cb false)) (.call 4 (.p1 tGrads tI (.vr 2)) <|.prim (.cmp .neq .i64) (.mk2 tI tI (.vr 4) (.vr 10)) <|.ite (.vr 11) (.ret (.cb false)) (.prim (.cmp .lss .i64) (.mk2 tI tI (.vr 4) (.ci .i64 0)) <|.ite (.vr 12) (.ret (.cb false)) (.prim (.cmp .lss .i64) (.mk2 tI tI (prA (.pair tGrads tI) 1 (.vr 2)) (.ci .i64 0)) <|.ite (.vr 13) (.call 5 (.mk2 tGrads tGrads (.vr 3) (.p1 tGrads tI (.vr 2))) <|.ret (.vr 14)) (.call 6 (.mk2 (.slice 5 (.int .u8)) tI (.vr 0) (.ci .i64 0)) <|.prim (.ar .mul .i64) (.mk2 tI tI (.vr 14) (.ci .i64 999)) <|.call 2 (.mk2 tGrads tI (.vr 3) (.vr 15)) <|.prim (.mn .i64) (.mk2 tI tI (.vr 15) (prA (.pair tGrads tI) 1 (.vr 2))) <|.call 7 (.mk2 tGrads tI (.p1 tGrads tI (.vr 2)) (.vr 17)) <|.call 3 (.vr 3) <|.prim (.mn .i64) (.mk2 tI tI (prA (.pair tGrads tI) 1 (.vr 2)) (.ci .i64 2147483647)) <|.prim (.mn .i64) (.mk2 tI tI (.vr 4) (.vr 20)) <|.prim (.cmp .eql .i64) (.mk2 tI tI (.vr 19) (.vr 21)) <|.ite (.vr 22) (.prim (.cmp .gtr .i64) (.mk2 tI tI (.vr 4) (prA (.pair tGrads tI) 1 (.vr 2))) <|.ite (.vr 23) (.call 5 (.mk2 tGrads tGrads (.vr 16) (.vr 18)) <|.ret (.vr 24)) (.call 5 (.mk2 tGrads tGrads (.vr 3) (.p1 tGrads tI (.vr 2))) <|.ite (.vr 24) (.call 5 (.mk2 tGrads tGrads (.vr 16) (.vr 18)) <|.ret (.vr 25)) (.ret (.cb false)))) (.ret (.cb false)))))))))
set_option maxRecDepth 100000 in
theorem e_w_FnClips:exFn Try.prog [c_w_big,c_s_DrawClip,c_i_Clip,c_i_Greatest,c_s_Greatest,c_s_SameGrads,c_w_at,c_s_Clip] c_w_FnClips false 3000 ⟨[],[]⟩ = .ok t_w_FnClips:=by kernel_rfl
theorem v_w_FnClips (x:List Int) (hx:okD (.slice 5 (.int .u8)) x) (hp:(fun _=>True) x):t_w_FnClips.wp [c_w_big,c_s_DrawClip,c_i_Clip,c_i_Greatest,c_s_Greatest,c_s_SameGrads,c_w_at,c_s_Clip] [⟨(.slice 5 (.int .u8)),x⟩] [] (fun v=>v.as .bool=(fun _=>true) x):=by
 delta t_w_FnClips c_w_big c_s_DrawClip c_i_Clip c_i_Greatest c_s_Greatest c_s_SameGrads c_w_at c_s_Clip;refine vcx ?_;try with_reducible exact True.intro
 (refine dcx ?_;try with_reducible exact True.intro)
 refine ⟨fun _=>trivial,fun hb=>⟨by omega,fun _=>?_⟩⟩
 have q:=(q_s_DrawClip x hx (by show List.length x≤1048576;omega)).2
 have qa:=(q_w_at (x,0) ⟨hx,okI (by omega) (by omega)⟩ ⟨rfl,by show List.length x≤1048576;omega⟩).2
 generalize f_s_DrawClip x=r at q ⊢
 generalize f_w_at (x,0)=v at qa ⊢
 obtain ⟨g,most⟩:=r
 obtain ⟨hG,hF⟩:=q
 dsimp only at hG hF qa ⊢
 have hl:=clip_len g most
 have hGc:=clip_GB (n:=most) hG
 have hn0:0≤gAll g.1:=(gF_b g.1 (m:=0) (by omega) (by omega)).1
 have hbb:∀ b:Bool,beqD Ty.bool b b=true:=fun b=>by cases b <;> rfl
 rw[hl.1,hl.2,hbb]
 have f1:most<0→eqB (clipD g most) g=true:=fun h=>eqB_iff.2 (by unfold clipD;rw[if_pos h])
 have f2:0≤most→gAll (clipD g most).1=min (gAll g.1) (min most 2147483647):=fun h=>clip_G hF h
 have f3:0≤most→eqB (clipD (clipD g most) (v * 999)) (clipD g (min (v * 999) most))=true:=fun h=>eqB_iff.2 (clip_twice hF h (by omega))
 have f4:gAll g.1≤most→eqB (clipD g most) g=true:=fun h=>eqB_iff.2 (clip_same hF h)
 (repeat' first|intro _|(with_reducible apply And.intro))
 all_goals first|omega|exact hG|exact hGc|trivial|exact f1 (by assumption)|exact f3 (by assumption)|(exfalso;omega)|(exfalso;exact absurd rfl (by assumption))|(exfalso;exact absurd (f2 (by assumption)) (by assumption))|(exfalso;have h:=f4 (by assumption);simp_all;done)|skip
theorem h_w_FnClips:Con.Holds Try.prog c_w_FnClips:=tree_ok mixedP (consAt h_w_big (consAt h_s_DrawClip (consAt h_i_Clip (consAt h_i_Greatest (consAt h_s_Greatest (consAt h_s_SameGrads (consAt h_w_at (consAt h_s_Clip consNil)))))))) e_w_FnClips fun x hx hp=>v_w_FnClips x hx hp
end Go.Proofs.Ytahggdiafncdhaa
