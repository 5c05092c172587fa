/- Cd: lemmas. No conditions. -/
import Derived.Test.YtfmfeplebgbpmaaGreatCc
namespace Go.Proofs.YtfmfeplebgbpmaaGreat
open Go.ChangeShapes Go.WideShapes Go.ChangeAt Go.RowKit Go.Deep
set_option linter.unusedVariables false
set_option linter.unusedSimpArgs false
def SV.okv (v:SV):Prop:=okD v.1 v.2
theorem aP4:(t:Ty)->okD t (aK t)
 | .int k=>by cases k<;>exact⟨by decide,by decide⟩
 | .bool=>trivial
 | .str=>by show(ByteArray.size _)<=maxLen;decide
 | .slice e t=>⟨Nat.zero_le _,fun y hy=>by cases hy⟩
 | .cMV a b=>⟨aP4 a,aP4 b⟩
theorem wZ {t:Ty} {v:SV} (h:v.okv):okD t (v.as t):=by
 unfold SV.as
 split
 ·rename_i he
  obtain⟨u,x⟩:=v
  simp only at he
  subst he
  exact h
 ·exact aP4 t
theorem Ar.okv {env:List SV} (he:∀v∈env,v.okv):(a:Ar)->a.okc=true->(a.val env).okv
 | .Z n,_=>by
  simp only[Ar.val,aSJ]
  cases h:env[n]? with
  | none=>trivial
  | some v=>exact he v (List.mem_of_getElem? h)
 | .ci k n,h=>aXW h
 | .cb v,_=>trivial
 | .cs v,h=>show v.size<=maxLen from of_decide_eq_true h
 | .nl e t,_=>⟨Nat.zero_le _,fun y hy=>by cases hy⟩
 | .p1 a b p,h=>(wZ (t:=.cMV a b) (Ar.okv he p h)).1
 | .p2 a b p,h=>(wZ (t:=.cMV a b) (Ar.okv he p h)).2
 | .cMX a b p q,h=>by
  simp only[Ar.okc,Bool.and_eq_true] at h
  exact⟨wZ (Ar.okv he p h.1),wZ (Ar.okv he q h.2)⟩
theorem aWZ (k:IntKind) (n:Int):inK k (k.wrap n):=aXW (by
 have:=wrap_within k n
 simp[Lit.wf,this.1,this.2])
theorem aDM {k:IntKind} {x:Int}:inK k x↔k.min<=x/\x<=k.max:=by
 constructor
 ·intro h
  have:=xX h
  simpa [Lit.wf] using this
 ·intro h
  exact aXW (by simp[Lit.wf,h.1,h.2])
theorem bXI (k:IntKind):k.min<=0/\0<=k.max:=by cases k<;>decide
theorem bXG (t:Ty):(n:Nat)->(x:(aN9 t n).D)->okD (aN9 t n) x->(aPM t n x).length=n/\∀y∈aPM t n x,okD t y
 | 0,x,h=>⟨rfl,fun y hy=>by cases hy⟩
 | 1,x,h=>⟨rfl,fun y hy=>(List.mem_singleton.1 hy) ▸ h⟩
 | n+2,x,h=>by
  obtain⟨i1,i2⟩:=bXG t (n+1) x.2 h.2
  refine⟨by simp[aPM,i1],fun y hy=>?_⟩
  simp only[aPM,List.mem_cons] at hy
  rcases hy with rfl|hy
  ·exact h.1
  ·exact i2 y hy
theorem bJ9 (s:ByteArray) (i:Int):inK .u8 (lD s i):=by
 unfold lD
 have:=((s.data[i.toNat]?).getD 0).toNat_lt
 exact⟨by omega,by omega⟩
theorem bD5:(p:Prim)->p.okc=true->(v:p.ity.D)->okD p.ity v->p.cond v->okD p.oty (p.fn v)
 | .ar op k,_,v,hv,hc=>hc
 | .arw op k,_,v,hv,hc=>aWZ _ _
 | .quo k,_,v,hv,hc=>hc.2
 | .rem k,_,v,hv,hc=>by
  have h1:=aDM.1 hv.1
  have hk:=bXI k
  refine aDM.2 ?_
  show k.min<=Int.tmod v.1 v.2/\Int.tmod v.1 v.2<=k.max
  obtain⟨x,hx⟩:∃x:Int,v.1=x:=⟨_,rfl⟩
  obtain⟨y,hy⟩:∃y:Int,v.2=y:=⟨_,rfl⟩
  rw[hx] at h1⊢
  rw[hy]
  rcases Int.le_total 0 x with h0|h0
  ·have a1:=Int.tmod_nonneg y h0
   have a2:x.tmod y<=x:=by
    have:=Int.natAbs_tmod x y
    have:(x.tmod y).natAbs<=x.natAbs:=by rw[this];exact Nat.mod_le _ _
    omega
   omega
  ·have a1:(-x).tmod y = -(x.tmod y):=Int.neg_tmod x y
   have a2:=Int.tmod_nonneg (a:=-x) y (by omega)
   have a3:(x.tmod y).natAbs<=x.natAbs:=by rw[Int.natAbs_tmod];exact Nat.mod_le _ _
   omega
 | .shr k k2,_,v,hv,hc=>by
  have h1:=aDM.1 hv.1
  have hk:=bXI k
  refine aDM.2 ?_
  show k.min<=Int.fdiv v.1 (2 ^ min (v.2:Int).toNat k.bits)/\Int.fdiv v.1 (2 ^ min (v.2:Int).toNat k.bits)<=k.max
  obtain⟨x,hx⟩:∃x:Int,v.1=x:=⟨_,rfl⟩
  obtain⟨y,hy⟩:∃y:Nat,min (v.2:Int).toNat k.bits=y:=⟨_,rfl⟩
  rw[hx] at h1⊢
  rw[hy]
  have hp:(1:Int)<=2 ^ y:=by
   have:=Int.pow_pos (n:=2) (m:=y) (by omega)
   omega
  generalize (2:Int) ^ y=d at hp
  rw[Int.fdiv_eq_ediv_of_nonneg x (by omega)]
  have b1:=Int.ediv_mul_le x (b:=d) (by omega)
  have b2:=Int.lt_ediv_add_one_mul_self x (b:=d) (by omega)
  generalize x / d=q at b1 b2
  constructor
  ·rcases Int.lt_or_le q 0 with hq|hq
   ·have h3:(-(q+1)) * 1<=(-(q+1)) * d:=Int.mul_le_mul_of_nonneg_left hp (by omega)
    simp only[Int.neg_mul,Int.mul_one] at h3
    generalize (q+1) * d=r at b2 h3
    omega
   ·omega
  ·rcases Int.lt_or_le q 0 with hq|hq
   ·omega
   ·have h3:q * 1<=q * d:=Int.mul_le_mul_of_nonneg_left hp hq
    omega
 | .shl k k2,_,v,hv,hc=>aWZ _ _
 | .bits op k,_,v,hv,hc=>aWZ _ _
 | .cmp op k,_,v,hv,hc=>trivial
 | .not,_,v,hv,hc=>trivial
 | .neg k,_,v,hv,hc=>hc
 | .conv a k,_,v,hv,hc=>aWZ _ _
 | .mn k,_,v,hv,hc=>by
  have h1:=aDM.1 hv.1
  have h2:=aDM.1 hv.2
  obtain⟨x,hx⟩:∃x:Int,v.1=x:=⟨_,rfl⟩
  obtain⟨y,hy⟩:∃y:Int,v.2=y:=⟨_,rfl⟩
  have e:(Prim.mn k).fn v=(min x y:Int):=by rw[<-hx,<-hy];rfl
  rw[e]
  rw[hx] at h1
  rw[hy] at h2
  have g1:k.min<=x/\x<=k.max:=h1
  have g2:k.min<=y/\y<=k.max:=h2
  exact aDM.2 (by omega)
 | .mx k,_,v,hv,hc=>by
  have h1:=aDM.1 hv.1
  have h2:=aDM.1 hv.2
  obtain⟨x,hx⟩:∃x:Int,v.1=x:=⟨_,rfl⟩
  obtain⟨y,hy⟩:∃y:Int,v.2=y:=⟨_,rfl⟩
  have e:(Prim.mx k).fn v=(max x y:Int):=by rw[<-hx,<-hy];rfl
  rw[e]
  rw[hx] at h1
  rw[hy] at h2
  have g1:k.min<=x/\x<=k.max:=h1
  have g2:k.min<=y/\y<=k.max:=h2
  exact aDM.2 (by omega)
 | .sadd,_,v,hv,hc=>by
  show ByteArray.size ((v.1:ByteArray)++v.2)<=maxLen
  rw[ByteArray.size_append];exact hc
 | .seq n,_,v,hv,hc=>trivial
 | .slen,_,v,hv,hc=>by
  have h:(v:ByteArray).size<=maxLen:=hv
  show inK .i64 ((v:ByteArray).size:Int)
  generalize (v:ByteArray).size=n at h
  unfold maxLen at h
  exact⟨by omega,by omega⟩
 | .sidx,_,v,hv,hc=>bJ9 _ _
 | .ssub,_,v,hv,hc=>by
  have h:(v.1:ByteArray).size<=maxLen:=hv.1
  show ByteArray.size (ByteArray.extract v.1 _ _)<=maxLen
  rw[ByteArray.size_extract]
  generalize (v.1:ByteArray).size=n at h
  omega
 | .cMZ e t,_,v,hv,hc=>by
  have h:List.length (v:List t.D)<=maxLen:=hv.1
  show inK .i64 (List.length (v:List t.D):Int)
  generalize List.length (v:List t.D)=n at h
  unfold maxLen at h
  exact⟨by omega,by omega⟩
 | .cN0 e t,_,v,hv,hc=>by
  show okD t (List.getD (v.1:List t.D) _ (aK t))
  rw[List.getD_eq_getElem?_getD]
  cases h:(v.1:List t.D)[(v.2:Int).toNat]? with
  | none=>exact aP4 t
  | some x=>exact hv.1.2 x (List.mem_of_getElem? h)
 | .cN1 e t,_,v,hv,hc=>by
  have h:List.length (v.1:List t.D)<=maxLen:=hv.1.1
  refine⟨?_,fun y hy=>hv.1.2 y (List.mem_of_mem_take (List.mem_of_mem_drop hy))⟩
  show List.length (List.drop _ (List.take _ (v.1:List t.D)))<=maxLen
  rw[List.length_drop,List.length_take]
  generalize List.length (v.1:List t.D)=n at h
  omega
 | .cN2 e t b,_,v,hv,hc=>by
  refine⟨?_,fun y hy=>?_⟩
  ·show List.length ((v.1:List t.D)++v.2)<=maxLen
   rw[List.length_append];exact hc.2
  ·have hy':y∈(v.1:List t.D)++v.2:=hy
   rw[List.mem_append] at hy'
   exact hy'.elim (hv.1.2 y) (hv.2.2 y)
 | .lapps e,_,v,hv,hc=>by
  refine⟨?_,fun y hy=>?_⟩
  ·show List.length ((v.1:List Int)++lM v.2)<=maxLen
   rw[List.length_append]
   have h:(v.1:List Int).length+(v.2:ByteArray).size<=140737488355328:=hc
   have h2:(lM v.2).length=(v.2:ByteArray).size:=by simp only[lM,List.length_map,Array.length_toList];rfl
   rw[h2]
   unfold maxLen
   omega
  ·have hy':y∈(v.1:List Int)++lM v.2:=hy
   rw[List.mem_append] at hy'
   rcases hy' with h|h
   ·exact hv.1.2 y h
   ·simp only[lM,List.mem_map] at h
    obtain⟨b,_,rfl⟩:=h
    have:=b.toNat_lt
    exact⟨by omega,by omega⟩
 | .cN3 e t,_,v,hv,hc=>by
  refine⟨?_,fun y hy=>?_⟩
  ·show List.length (List.set (v.1:List t.D) _ v.2.2)<=maxLen
   rw[List.length_set];exact hv.1.1
  ·have hy':y∈List.set (v.1:List t.D) _ v.2.2:=hy
   rcases List.mem_or_eq_of_mem_set hy' with h|rfl
   ·exact hv.1.2 y h
   ·exact hv.2.2
 | .lit e t n,ho,v,hv,hc=>by
  obtain⟨h1,h2⟩:=bXG t n v hv
  have hn:n<=1000:=of_decide_eq_true ho
  refine⟨?_,h2⟩
  show List.length (aPM t n v)<=maxLen
  rw[h1]
  unfold maxLen
  omega
 | .rep e t b,_,v,hv,hc=>by
  obtain⟨z,hz⟩:∃z:Int,v=z:=⟨_,rfl⟩
  refine⟨?_,fun y hy=>?_⟩
  ·show List.length (List.replicate (Int.toNat v) (aK t))<=maxLen
   have h3:z<=4611686018427387904:=by rw[<-hz];exact hc.2.2
   rw[List.length_replicate,hz]
   unfold maxLen
   omega
  ·have hy':y∈List.replicate (Int.toNat v) (aK t):=hy
   rw[List.eq_of_mem_replicate hy']
   exact aP4 t
 | .b2s e,_,v,hv,hc=>by
  have h:List.length (v:List Int)<=maxLen:=hv.1
  show ByteArray.size (jG v)<=maxLen
  have:ByteArray.size (jG v)=List.length (v:List Int):=by
   show(List.map _ _).length=_
   exact List.length_map _
  rw[this];exact h
 | .eqv n t,_,v,hv,hc=>trivial
def RT.wp (Cs:List Con):RT->List SV->(St->List SV->Prop)->Prop
 | .leaf σ,env,K=>K σ env
 | .emit (.cMW p a) k,env,K=>p.cond ((a.val env).as p.ity)/\(okD p.oty (p.fn ((a.val env).as p.ity))->k.wp Cs (env++[⟨p.oty,p.fn ((a.val env).as p.ity)⟩]) K)
 | .emit (.call c a) k,env,K=>match Cs[c]? with
  | some C=>C.pre ((a.val env).as C.argTy)/\(okD C.resTy (C.fn ((a.val env).as C.argTy))->k.wp Cs (env++[⟨C.resTy,C.fn ((a.val env).as C.argTy)⟩]) K)
  | none=>False
 | .ite a x y,env,K=>((a.val env).as .bool=true->x.wp Cs env K)/\((a.val env).as .bool=false->y.wp Cs env K)
section
variable {P:Program} {Cs:List Con}
theorem aK4 {f:St->Except Err T} {L:List (SV->Prop)} {Q:SV->Prop}:(rt:RT)->{t:T}->{env:List SV}->aMG f rt = .ok t->t.wp Cs env L Q->rt.wp Cs env fun σ env'=>∃t',f σ = .ok t'/\t'.wp Cs env' L Q
 | .leaf σ,t,env,h,hw=>⟨t,h,hw⟩
 | .emit (.cMW p a) k,t,env,h,hw=>by
  simp only[aMG] at h
  split at h
  ·rename_i t' hk
   simp only[Except.ok.injEq] at h
   subst h
   exact⟨hw.1,fun ho=>aK4 k hk (hw.2 ho)⟩
  ·cases h
 | .emit (.call c a) k,t,env,h,hw=>by
  simp only[aMG] at h
  split at h
  ·rename_i t' hk
   simp only[Except.ok.injEq] at h
   subst h
   simp only[T.wp] at hw
   simp only[RT.wp]
   split at hw
   ·rename_i C hC
    rw[hC]
    exact⟨hw.1,fun ho=>aK4 k hk (hw.2 ho)⟩
   ·exact hw.elim
  ·cases h
 | .ite a x y,t,env,h,hw=>by
  simp only[aMG] at h
  split at h
  ·rename_i t1 h1
   split at h
   ·rename_i t2 h2
    simp only[Except.ok.injEq] at h
    subst h
    exact⟨fun ha=>aK4 x h1 (hw.1 ha),fun ha=>aK4 y h2 (hw.2 ha)⟩
   ·cases h
  ·cases h
inductive RTPath (Cs:List Con):RT->List SV->St->List SV->Prop
 | leaf (σ:St) (env:List SV):RTPath Cs (.leaf σ) env σ env
 | cMW (p:Prim) (a:Ar) (k:RT) (env:List SV) (σ:St) (e:List SV):a.bd env.length=true->p.cond ((a.val env).as p.ity)->okD p.oty (p.fn ((a.val env).as p.ity)) ->
  RTPath Cs k (env++[⟨p.oty,p.fn ((a.val env).as p.ity)⟩]) σ e->RTPath Cs (.emit (.cMW p a) k) env σ e
 | call (c:Nat) (C:Con) (a:Ar) (k:RT) (env:List SV) (σ:St) (e:List SV):a.bd env.length=true->Cs[c]?=some C->C.pre ((a.val env).as C.argTy)->okD C.resTy (C.fn ((a.val env).as C.argTy)) ->
  RTPath Cs k (env++[⟨C.resTy,C.fn ((a.val env).as C.argTy)⟩]) σ e->RTPath Cs (.emit (.call c a) k) env σ e
 | thn (a:Ar) (x y:RT) (env:List SV) (σ:St) (e:List SV):a.bd env.length=true->(a.val env).as .bool=true->RTPath Cs x env σ e->RTPath Cs (.ite a x y) env σ e
 | els (a:Ar) (x y:RT) (env:List SV) (σ:St) (e:List SV):a.bd env.length=true->(a.val env).as .bool=false->RTPath Cs y env σ e->RTPath Cs (.ite a x y) env σ e
theorem RTPath.ext {rt:RT} {env e:List SV} {σ:St} (h:RTPath Cs rt env σ e):∃x,e=env++x:=by
 induction h with
 | leaf σ env=>exact⟨[],by simp⟩
 | cMW p a k env σ e _ _ _ _ ih=>obtain⟨x,rfl⟩:=ih;exact⟨_,List.append_assoc _ _ _⟩
 | call c C a k env σ e _ _ _ _ _ ih=>obtain⟨x,rfl⟩:=ih;exact⟨_,List.append_assoc _ _ _⟩
 | thn a x y env σ e _ _ _ ih=>exact ih
 | els a x y env σ e _ _ _ ih=>exact ih
theorem aGW (hC:∀(c:Nat) (C:Con),Cs[c]?=some C->Con.Holds P C) {K:St->List SV->Prop}:(rt:RT)->{env:List SV}->rt.goodB env.length=true->(∀v∈env,v.okv)->rt.wp Cs env K ->
  ∃σ e,RTPath Cs rt env σ e/\K σ e/\(∀v∈e,v.okv)/\σ.nx=e.length
 | .leaf σ,env,hg,he,hw=>⟨σ,env,.leaf σ env,hw,he,by simpa [RT.goodB] using hg⟩
 | .emit (.cMW p a) k,env,hg,he,hw=>by
  simp only[RT.goodB,Let.bd,Bool.and_eq_true] at hg
  have ho:=bD5 p hg.1.2 _ (wZ (Ar.okv he a hg.1.1.2)) hw.1
  obtain⟨σ,e,h1,h2,h3,h4⟩:=aGW hC k (env:=env++[⟨p.oty,p.fn ((a.val env).as p.ity)⟩]) (by simpa using hg.2) (fun v hv=>by
   rw[List.mem_append,List.mem_singleton] at hv
   rcases hv with hv|rfl
   ·exact he v hv
   ·exact ho) (hw.2 ho)
  exact⟨σ,e,.cMW p a k env σ e hg.1.1.1 hw.1 ho h1,h2,h3,h4⟩
 | .emit (.call c a) k,env,hg,he,hw=>by
  simp only[RT.goodB,Let.bd,Bool.and_eq_true] at hg
  simp only[RT.wp] at hw
  split at hw
  ·rename_i C hc
   have ho:=(hC c C hc).ok _ hw.1 (wZ (Ar.okv he a hg.1.2))
   obtain⟨σ,e,h1,h2,h3,h4⟩:=aGW hC k (env:=env++[⟨C.resTy,C.fn ((a.val env).as C.argTy)⟩]) (by simpa using hg.2) (fun v hv=>by
    rw[List.mem_append,List.mem_singleton] at hv
    rcases hv with hv|rfl
    ·exact he v hv
    ·exact ho) (hw.2 ho)
   exact⟨σ,e,.call c C a k env σ e hg.1.1 hc hw.1 ho h1,h2,h3,h4⟩
  ·exact hw.elim
 | .ite a x y,env,hg,he,hw=>by
  simp only[RT.goodB,Bool.and_eq_true] at hg
  cases hb:(a.val env).as .bool with
  | true =>
   obtain⟨σ,e,h1,h2⟩:=aGW hC x hg.1.2 he (hw.1 hb)
   exact⟨σ,e,.thn a x y env σ e hg.1.1 hb h1,h2⟩
  | false =>
   obtain⟨σ,e,h1,h2⟩:=aGW hC y hg.2 he (hw.2 hb)
   exact⟨σ,e,.els a x y env σ e hg.1.1 hb h1,h2⟩
theorem aC9 {k:RT} {σ:St} {e:List SV}:(ls:List Let)->{env:List SV}->RTPath Cs (bH4 ls k) env σ e->iV Cs e env.length ls/\∃env',RTPath Cs k env' σ e/\env'.length=env.length+ls.length/\∃x,env'=env++x
 | [],env,h=>⟨trivial,env,h,rfl,[],by simp⟩
 | .cMW p a::ls,env,h=>by
  cases h with
  | cMW _ _ _ _ _ _ h1 h2 h3 h4 =>
   obtain⟨i1,env',i2,i3,x,rfl⟩:=aC9 ls h4
   obtain⟨y,rfl⟩:=h4.ext
   have hv:a.val (env++[⟨p.oty,p.fn ((a.val env).as p.ity)⟩]++y)=a.val env:=by rw[List.append_assoc];exact Ar.val_ext a h1
   refine⟨⟨⟨h1,by rw[hv];exact h2,by rw[hv];exact h3,?_⟩,by simpa using i1⟩,_,i2,by rw[i3];simp;omega,_,List.append_assoc _ _ _⟩
   rw[hv,List.append_assoc,List.getElem?_append_right (Nat.le_refl _)]
   simp
 | .call c a::ls,env,h=>by
  cases h with
  | call _ C _ _ _ _ _ h1 h0 h2 h3 h4 =>
   obtain⟨i1,env',i2,i3,x,rfl⟩:=aC9 ls h4
   obtain⟨y,rfl⟩:=h4.ext
   have hv:a.val (env++[⟨C.resTy,C.fn ((a.val env).as C.argTy)⟩]++y)=a.val env:=by rw[List.append_assoc];exact Ar.val_ext a h1
   refine⟨⟨⟨h1,C,h0,by rw[hv];exact h2,by rw[hv];exact h3,?_⟩,by simpa using i1⟩,_,i2,by rw[i3];simp;omega,_,List.append_assoc _ _ _⟩
   rw[hv,List.append_assoc,List.getElem?_append_right (Nat.le_refl _)]
   simp
end
structure StOK (X:Cx) (g0:Gh) (γ:Gh) (β:Bt) (e:List SV) (w:World) (σ:St) (a:Act):Prop where
 mem:MemOK X γ β e w σ.es
 keys:dB σ.es
 frame:FrameOK X w
 gh:lF γ
 len:σ.n=a.tmps.size
 vals:∀t,bU X γ (Os γ σ.es) e w (σ.at' t) (a.tmps.getD t undef)
 facts:∀p∈σ.facts,p.1.bd e.length=true/\(p.1.val e).as .bool=p.2
 fresh:∀r,σ.nr<=r->γ r=none
 nodef:a.defers=[]
 base:∀r v,g0 r=some v->γ r=some v
section
variable {P:Program} {Cs:List Con} {X:Cx} {g0 γ γ':Gh} {β β':Bt} {O O':List Nat} {e:List SV} {w w':World} {σ σ':St} {a a':Act}
theorem bCI {n d:Nat} {tm:Tm} {s:Sh} (h:d<n):bBV n tm (some d) s=(d,s)::tm:=by
 have hb:Nat.ble (d+1) n=true:=by rw[Nat.ble_eq];exact h
 simp only[bBV,hb]
theorem bEK {n d:Nat} {tm:Tm} {s:Sh} (h:n<=d):bBV n tm (some d) s=tm:=by
 have hb:Nat.ble (d+1) n=false:=by
  cases hb:Nat.ble (d+1) n
  ·rfl
  ·rw[Nat.ble_eq] at hb;omega
 simp only[bBV,hb]
theorem aA1 {d:Nat} {tm:Tm} {s:Sh}:gX ((d,s)::tm) d=s:=by simp[gX]
theorem uV {d t:Nat} {tm:Tm} {s:Sh} (h:d≠t):gX ((d,s)::tm) t=gX tm t:=by
 have hb:Nat.beq d t=false:=by
  cases hb:Nat.beq d t
  ·rfl
  ·exact absurd (Nat.eq_of_beq_eq_true hb) h
 simp only[gX,hb]
theorem cBZ (hlen:σ.n=a.tmps.size) (h:∀t,bU X γ O e w (σ.at' t) (a.tmps.getD t undef)) {dst:Option Nat} {s:Sh} {v:Value} (hv:bU X γ O e w s v) :
  (σ.put dst s).n=(a.put dst v).tmps.size/\∀t,bU X γ O e w ((σ.put dst s).at' t) ((a.put dst v).tmps.getD t undef):=by
 cases dst with
 | none=>exact⟨hlen,h⟩
 | some d =>
  refine⟨by show σ.n=_;simp[Act.put,hlen],fun t=>?_⟩
  have h0:=h t
  show bU X γ O e w (gX (bBV σ.n σ.tm (some d) s) t) _
  have h0':bU X γ O e w (gX σ.tm t) (a.tmps.getD t undef):=h0
  by_cases hb:d<σ.n
  ·rw[bCI hb]
   have hb':d<a.tmps.size:=by omega
   by_cases hd:d=t
   ·subst hd
    rw[aA1]
    simpa [Act.put,Array.getD_eq_getD_getElem?,Array.getElem?_setIfInBounds,hb'] using hv
   ·rw[uV hd]
    have e2:(a.put (some d) v).tmps.getD t undef=a.tmps.getD t undef:=by
     simp[Act.put,Array.getD_eq_getD_getElem?,Array.getElem?_setIfInBounds,hd]
    rw[e2];exact h0'
  ·rw[bEK (by omega)]
   have e2:(a.put (some d) v).tmps=a.tmps:=by
    apply Array.ext'
    simp only[Act.put,Array.toList_setIfInBounds]
    exact List.set_eq_of_length_le (by simp;omega)
   rw[e2];exact h0'
theorem aOJ (hf:∀p∈σ.facts,p.1.bd e.length=true/\(p.1.val e).as .bool=p.2) {k:Ar} {v:Bool} (h:bD9 σ.facts k=some v):(k.val e).as .bool=v:=by
 unfold bD9 at h
 split at h
 ·simp only[eW] at h
  subst h
  simp[Ar.val]
 ·simp only[Option.map_eq_some_iff] at h
  obtain⟨p,h1,rfl⟩:=h
  have h2:=List.find?_some h1
  have:=Ar.beq_eq h2
  rw[<-this]
  exact(hf p (List.mem_of_find?_eq_some h1)).2
theorem StOK.next (h:StOK X g0 γ β e w σ a) {es':Es} {nx nr:Nat} {cr:List (Nat×Nat)} {dst:Option Nat} {s:Sh} {v:Value} (hm:MemOK X γ' β' e w' es') (hk:dB es') (hl:Later X γ (Os γ σ.es) e w γ' (Os γ' es') e w') (hf:FrameOK X w') (hg:lF γ')
  (Aa:∀r,nr<=r->γ' r=none) (hv:bU X γ' (Os γ' es') e w' s v):StOK X g0 γ' β' e w' ((σ.put dst s).upd es' nx nr cr) (a.put dst v):=by
 obtain⟨h1,h2⟩:=cBZ (σ:=σ) (a:=a) h.len (fun t=>bU.later hl (h.vals t)) (dst:=dst) hv
 refine⟨hm,hk,hf,hg,?_,fun t=>?_,?_,Aa,?_,fun r v hr=>hl.gh r v (h.base r v hr)⟩
 ·exact h1
 ·exact h2 t
 ·exact h.facts
 ·cases dst<;>exact h.nodef
theorem aFA.upon {o:Oper} {next:Act->World->Prop} {Q:Exit->Act->World->Prop} {Post:Value->World->Prop} (h:aFA P a.eval o w Post) (hn:∀v w',Post v w'->next (a.put o.dst v) w'):o.wp P a w next Q:=by
 unfold Oper.wp
 rcases h with⟨v,w',h1,h2⟩|⟨w',h1,h2⟩|⟨f,args,h1,h2⟩
 ·rw[h1];exact hn v w' h2
 ·rw[h1];exact hn _ w' h2
 ·rw[h1]
  refine Calls.mono' h2 fun e w' ⟨v,he,hp⟩=>?_
  subst he
  exact hn v w' hp
variable {wr:Bool} {D:List Nat} {i:Nat} {o:Oper} {d d':Dr} {ls:List Let}
theorem aXT (hC:∀(c:Nat) (C:Con),Cs[c]?=some C->Con.Holds P C) (h:StOK X g0 γ β e w σ a) (hd:d.draw=false/\d.trn=false) (hx:aGM P Cs wr D i o σ d=some (ls,σ',d')) (hl:iV Cs e σ.nx ls) :
  (d'.draw=false/\d'.trn=false)/\aFA P a.eval o w fun v w'=>∃γ' β',StOK X g0 γ' β' e w' σ' (a.put o.dst v):=by
 have hs:∀x,bU X γ (Os γ σ.es) e w (aGI (d.tm σ i) x) (a.eval x):=aFQ fun t=>by
  have:d.tm σ i t=σ.at' t:=by simp[Dr.tm,hd.1]
  rw[this];exact h.vals t
 have hlk:d.lk σ i=fL σ.es:=by funext r;simp[Dr.lk,hd.1]
 unfold aGM at hx
 simp only at hx
 split at hx
 ·rename_i ls' s hp
  simp only[eW,nB] at hx
  obtain⟨rfl,rfl,rfl⟩:=hx
  obtain⟨r,h1,h2⟩:=bIZ (P:=P) (Cs:=Cs) h.gh hp hl hs
  refine⟨hd,.inl ⟨r,w,h1,γ,β,?_⟩⟩
  have:=h.next (nx:=σ.nx+ls'.length) (nr:=σ.nr) (cr:=σ.cr) (dst:=o.dst) h.mem h.keys .refl h.frame h.gh h.fresh h2
  exact this
 ·split at hx
  ·rename_i hq
   simp[hd.1] at hq
  have still:∀{s new n},aWG P Cs D o (aGI (d.tm σ i)) (fL σ.es) σ.nx σ.nr=some (ls,s,new,n)->∀{σ2:St},σ2=(σ.put o.dst s).upd (new++σ.es) (σ.nx+ls.length) n (new.map (fun p=>(p.1,o.dst.getD 0))++σ.cr) ->
    aFA P a.eval o w fun v w'=>∃γ' β',StOK X g0 γ' β' e w' σ2 (a.put o.dst v):=fun {s new n} hst {σ2} he=>by
   subst he
   refine(aUD hC h.mem h.keys h.frame h.gh hs (fun r e hr=>mN hr) hst hl (fun r h1 h2=>h.fresh r h1)).mono fun v w' ⟨γ',β',S⟩=>⟨γ',β',?_⟩
   have:=h.next (nx:=σ.nx+ls.length) (nr:=n) (cr:=new.map (fun p=>(p.1,o.dst.getD 0))++σ.cr) (dst:=o.dst) S.mem S.keys S.later S.frame S.gh (fun r hr=>by rw[(S.same r (.inr hr)).1];exact h.fresh r (Nat.le_trans S.le hr)) S.val
   exact this
  split at hx
  ·rename_i ls' s new n hst
   split at hx
   case isFalse=>cases hx
   simp only[eW,nB] at hx
   obtain⟨rfl,rfl,rfl⟩:=hx
   rw[hd.2] at hst
   simp only[Bool.false_eq_true,if_false] at hst
   rw[hlk] at hst
   exact⟨hd,still hst rfl⟩
  ·split at hx
   ·split at hx
    ·rename_i ls' s new n hst
     split at hx
     case isFalse=>cases hx
     simp only[eW,nB] at hx
     obtain⟨rfl,rfl,rfl⟩:=hx
     exact⟨⟨hd.1,hd.1⟩,still hst rfl⟩
    ·split at hx
     ·rename_i ls' s es' n hst
      split at hx
      case isFalse=>cases hx
      simp only[eW,nB] at hx
      obtain⟨rfl,rfl,rfl⟩:=hx
      refine⟨⟨hd.1,hd.1⟩,(bKZ hC h.mem h.keys h.frame h.gh hs hst hl (fun r h1 h2=>h.fresh r h1)).mono fun v w' ⟨γ',β',S⟩=>⟨γ',β',?_⟩⟩
      exact h.next (nx:=σ.nx+ls'.length) (nr:=n) (cr:=(bOF s).map (fun r=>(r,o.dst.getD 0))++σ.cr) (dst:=o.dst) S.mem S.keys S.later S.frame S.gh (fun r hr=>by rw[S.same r (.inr hr)];exact h.fresh r (Nat.le_trans S.le hr)) S.val
     ·cases hx
   ·cases hx
end
section
variable {P:Program} {Cs:List Con} {X:Cx} {g0 γ γ':Gh} {β β':Bt} {O O':List Nat} {e:List SV} {w w':World} {σ σ':St} {a a':Act}
variable {wr:Bool} {D:List Nat} {i:Nat} {o:Oper} {d d':Dr} {ls:List Let}
theorem aR6 (hx:aGM P Cs wr D i o σ d=some (ls,σ',d')):σ'.nx=σ.nx+ls.length:=by
 unfold aGM at hx
 simp only at hx
 split at hx
 ·simp only[eW,nB] at hx
  obtain⟨rfl,rfl,rfl⟩:=hx
  rfl
 ·split at hx
  ·simp only[eW,nB] at hx
   obtain⟨rfl,rfl,rfl⟩:=hx
   rfl
  split at hx
  ·split at hx
   case isFalse=>cases hx
   simp only[eW,nB] at hx
   obtain⟨rfl,rfl,rfl⟩:=hx
   rfl
  ·split at hx
   ·split at hx
    ·split at hx
     case isFalse=>cases hx
     simp only[eW,nB] at hx
     obtain⟨rfl,rfl,rfl⟩:=hx
     rfl
    ·split at hx
     ·split at hx
      case isFalse=>cases hx
      simp only[eW,nB] at hx
      obtain⟨rfl,rfl,rfl⟩:=hx
      rfl
     ·cases hx
   ·cases hx
theorem StOK.fact (h:StOK X g0 γ β e w σ a) {k:Ar} {v:Bool} (hb:k.bd e.length=true) (hk:(k.val e).as .bool=v):StOK X g0 γ β e w (σ.fact k v) a :=
 ⟨h.mem,h.keys,h.frame,h.gh,h.len,h.vals,fun p hp=>by
  simp only[St.fact,List.mem_cons] at hp
  rcases hp with rfl|hp
  ·exact⟨hb,hk⟩
  ·exact h.facts p hp,h.fresh,h.nodef,h.base⟩
theorem StOK.put (h:StOK X g0 γ β e w σ a) {dst:Option Nat} {s:Sh} {v:Value} (hv:bU X γ (Os γ σ.es) e w s v):StOK X g0 γ β e w (σ.put dst s) (a.put dst v):=by
 have:=h.next (nx:=σ.nx) (nr:=σ.nr) (cr:=σ.cr) (dst:=dst) h.mem h.keys .refl h.frame h.gh h.fresh hv
 exact this
theorem StOK.sealed (h:StOK X g0 γ β e w σ a):∃β',StOK X g0 γ β' e w (σ.upd (rU σ.es) σ.nx σ.nr σ.cr) a:=by
 obtain⟨β',m,k,l⟩:=bV7 h.mem h.keys h.frame
 exact⟨β',m,k,h.frame,h.gh,h.len,fun t=>bU.later l (h.vals t),h.facts,h.fresh,h.nodef,h.base⟩
theorem bLM (s:Sh) (dst:Option Nat):(σ.put dst s).nx=σ.nx:=rfl
theorem bG9 {k:Ar} {x y:RT} {env:List SV} {σF:St} (h:RTPath Cs (.ite k x y) env σF e):((k.val e).as .bool=true/\RTPath Cs x env σF e)\/((k.val e).as .bool=false/\RTPath Cs y env σF e):=by
 cases h with
 | thn _ _ _ _ _ _ h1 h2 h3 =>
  obtain⟨z,rfl⟩:=h3.ext
  rw[Ar.val_ext k h1]
  exact .inl ⟨h2,h3⟩
 | els _ _ _ _ _ _ h1 h2 h3 =>
  obtain⟨z,rfl⟩:=h3.ext
  rw[Ar.val_ext k h1]
  exact .inr ⟨h2,h3⟩
theorem dtm (hd:d.draw=false/\d.trn=false) (σ:St) (i:Nat):d.tm σ i=σ.at':=by funext t;simp[Dr.tm,hd.1]
theorem bQ2 {c x y:Operand} (hop:o.op = .pick c x y) {ρ:Operand->Value} {b:Bool} (hc:ρ c = .bool b):(execOp ρ o).run P w = .ok (.value (if b then ρ x else ρ y)) w:=by
 simp[execOp,hop,hc,asBool]
theorem aW7 (hC:∀(c:Nat) (C:Con),Cs[c]?=some C->Con.Holds P C) {ops:Array Oper} {Q:Exit->Act->World->Prop} {σF:St} (hQ:∀a' w',(∃γ' β',StOK X g0 γ' β' e w' σF a')->Q .normal a' w'):(rest:List (Nat×Oper))->{σ:St}->{d:Dr}->{rt:RT}->{env:List SV}->{γ:Gh}->{β:Bt}->{a:Act}->{w:World} ->
  rW P Cs wr D ops rest σ d = .ok rt->RTPath Cs rt env σF e->env.length=σ.nx->(d.draw=false/\d.trn=false)->StOK X g0 γ β e w σ a->(∀p∈rest,ops[p.1]?=some p.2)->wpOps P ops Q (rest.map (·.1)) a w
 | [],σ,d,rt,env,γ,β,a,w,h,hp,hn,hd,hst,hr=>by
  simp only[rW,Except.ok.injEq] at h
  subst h
  cases hp
  obtain⟨β',h'⟩:=hst.sealed
  exact hQ _ _ ⟨γ,β',h'⟩
 | (i,o)::rest,σ,d,rt,env,γ,β,a,w,h,hp,hn,hd,hst,hr=>by
  have hi:ops[i]?=some o:=hr (i,o) (by simp)
  have hr':∀p∈rest,ops[p.1]?=some p.2:=fun p hp=>hr p (by simp[hp])
  have skip:∀{σ1:St} {rt1:RT},rW P Cs wr D ops rest (σ1.put o.dst .und) d = .ok rt1->RTPath Cs rt1 env σF e->σ1.nx=σ.nx->StOK X g0 γ β e w σ1 a->Region.wanted o (yielded ops a.tmps)=false->wpOps P ops Q (i::rest.map (·.1)) a w:=fun {σ1 rt1} h1 h2 h3 h4 h5=>by
   simp only[wpOps,hi,h5,Bool.false_eq_true,if_false]
   exact aW7 hC hQ rest h1 h2 (by rw[bLM,h3];exact hn) hd (h4.put (v:=undef) (s:=.und) rfl) hr'
  have go:∀{σ1:St} {rt1:RT},(match o.op with
    | .pick c x y=>match aGI (d.tm σ1 i) c with
     | .one (.d k .bool _ _)=>match bD9 σ1.facts k with
      | some v=>rW P Cs wr D ops rest (σ1.put o.dst (aGI (d.tm σ1 i) (if v then x else y))) d
      | none=>match rW P Cs wr D ops rest ((σ1.fact k true).put o.dst (aGI (d.tm σ1 i) x)) d with
       | .ok x'=>match rW P Cs wr D ops rest ((σ1.fact k false).put o.dst (aGI (d.tm σ1 i) y)) d with
        | .ok y'=>.ok (.ite k x' y')
        | .error e=>.error e
       | .error e=>.error e
     | _=>.error (.bad 2 i)
    | _=>match aGM P Cs wr D i o σ1 d with
     | some (ls,σ',d')=>match rW P Cs wr D ops rest σ' d' with
      | .ok x=>.ok (bH4 ls x)
      | .error e=>.error e
     | none=>.error (cBJ ops o σ1 d i))=Except.ok rt1->RTPath Cs rt1 env σF e->σ1.nx=σ.nx->StOK X g0 γ β e w σ1 a->Region.wanted o (yielded ops a.tmps)=true->wpOps P ops Q (i::rest.map (·.1)) a w:=fun {σ1 rt1} h1 h2 h3 h4 h5=>by
   simp only[wpOps,hi,h5,if_true]
   left
   have hs:∀x,bU X γ (Os γ σ1.es) e w (aGI (d.tm σ1 i) x) (a.eval x):=aFQ fun t=>by rw[dtm hd];exact h4.vals t
   split at h1
   ·rename_i c x y hop
    split at h1
    ·rename_i k f1 f2 hsc
     have hc:=hs c
     rw[hsc] at hc
     have hcv:=aAY hc
     have pick:∀{σ2:St} {rt2:RT} (b:Bool),σ2.nx=σ.nx->StOK X g0 γ β e w σ2 a->σ2.es=σ1.es->(k.val e).as .bool=b->rW P Cs wr D ops rest (σ2.put o.dst (aGI (d.tm σ1 i) (if b then x else y))) d = .ok rt2->RTPath Cs rt2 env σF e->o.wp P a w (wpOps P ops Q (rest.map (·.1))) Q:=fun {σ2 rt2} b q1 q2 q0 q3 q4 q5=>by
      refine aFA.upon (Post:=fun v w'=>w'=w/\v=(if b then a.eval x else a.eval y)) (.inl ⟨_,w,bQ2 hop (b:=b) (by rw[hcv,q3]),rfl,rfl⟩) fun v w' ⟨hw,hv⟩=>?_
      subst hw hv
      refine aW7 hC hQ rest q4 q5 (by rw[bLM,q1];exact hn) hd (q2.put ?_) hr'
      rw[q0]
      cases b
      ·exact hs y
      ·exact hs x
     split at h1
     ·rename_i v hkn
      exact pick v h3 h4 rfl (aOJ h4.facts hkn) h1 h2
     ·split at h1
      ·rename_i x' hx'
       split at h1
       ·rename_i y' hy'
        simp only[Except.ok.injEq] at h1
        subst h1
        rcases bG9 h2 with⟨q1,q2⟩|⟨q1,q2⟩
        ·exact pick (σ2:=σ1.fact k true) true h3 (h4.fact hc.1 q1) rfl q1 hx' q2
        ·exact pick (σ2:=σ1.fact k false) false h3 (h4.fact hc.1 q1) rfl q1 hy' q2
       ·cases h1
      ·cases h1
    ·cases h1
   ·split at h1
    ·rename_i ls σ' d' hx
     split at h1
     ·rename_i x hox
      simp only[Except.ok.injEq] at h1
      subst h1
      obtain⟨q1,env',q2,q3,_⟩:=aC9 ls h2
      rw[hn,<-h3] at q1
      obtain⟨g1,g2⟩:=aXT hC h4 hd hx q1
      refine g2.upon fun v w' ⟨γ',β',h'⟩=>?_
      exact aW7 hC hQ rest hox q2 (by rw[q3,aR6 hx,hn,h3]) g1 h' hr'
     ·cases h1
    ·cases h1
  simp only[List.map_cons]
  simp only[rW] at h
  split at h
  ·rename_i hgd
   exact go h hp rfl hst (by simp[Region.wanted,hgd])
  ·rename_i j want hgd
   split at h
   ·rename_i t ht
    have Dx:yielded ops a.tmps j=match a.tmps[t]? with|some (.bool b)=>some b|_=>none:=by unfold yielded;rw[ht];rfl
    have C1:=hst.vals t
    split at h
    ·rename_i hsh
     rw[dtm hd] at hsh
     rw[hsh] at C1
     have hvu:a.tmps.getD t undef=undef:=C1
     refine skip h hp rfl hst ?_
     simp only[Region.wanted,hgd,Dx]
     cases hat:a.tmps[t]? with
     | none=>rfl
     | some v =>
      rw[Array.getD_eq_getD_getElem?,hat] at hvu
      simp only[Option.getD_some] at hvu
      subst hvu
      rfl
    ·rename_i k f1 f2 hsh
     rw[dtm hd] at hsh
     rw[hsh] at C1
     have hvb:=aAY C1
     have hw:Region.wanted o (yielded ops a.tmps)=((k.val e).as .bool==want):=by
      simp only[Region.wanted,hgd,Dx]
      cases hat:a.tmps[t]? with
      | none =>
       rw[Array.getD_eq_getD_getElem?,hat] at hvb
       cases hvb
      | some v =>
       rw[Array.getD_eq_getD_getElem?,hat] at hvb
       simp only[Option.getD_some] at hvb
       subst hvb
       simp
     split at h
     ·rename_i v hkn
      have hv:=aOJ hst.facts hkn
      rw[hv] at hw
      split at h
      ·rename_i D1
       exact go h hp rfl hst (by rw[hw,D1];simp)
      ·rename_i D1
       exact skip h hp rfl hst (by rw[hw];simpa using D1)
     ·split at h
      ·rename_i x hx
       split at h
       ·rename_i y hy
        simp only[Except.ok.injEq] at h
        subst h
        rcases bG9 hp with⟨q1,q2⟩|⟨q1,q2⟩
        ·rw[q1] at hw
         cases want with
         | true=>exact go (σ1:=σ.fact k true) hx q2 rfl (hst.fact C1.1 q1) (by rw[hw];rfl)
         | false=>exact skip (σ1:=σ.fact k true) hx q2 rfl (hst.fact C1.1 q1) (by rw[hw];rfl)
        ·rw[q1] at hw
         cases want with
         | true=>exact skip (σ1:=σ.fact k false) hy q2 rfl (hst.fact C1.1 q1) (by rw[hw];rfl)
         | false=>exact go (σ1:=σ.fact k false) hy q2 rfl (hst.fact C1.1 q1) (by rw[hw];rfl)
       ·cases h
      ·cases h
    ·cases h
   ·cases h
end
section
variable {P:Program} {Cs:List Con} {X:Cx} {g0 γ γ':Gh} {β β':Bt} {O O':List Nat} {e:List SV} {w w':World} {σ σ':St} {a a':Act}
theorem cJQ {f:Sh->Sh} (hf:f .no = .no) (tm:Tm) (t:Nat):gX (tm.map fun p=>(p.1,f p.2)) t=f (gX tm t):=by
 induction tm with
 | nil=>exact hf.symm
 | cons p tm ih =>
  by_cases h:p.1=t
  ·subst h
   rw[List.map_cons,aA1]
   exact congrArg f (aA1 (s:=p.2) (tm:=tm)).symm
  ·rw[List.map_cons,uV h,ih]
   exact congrArg f (uV (s:=p.2) (tm:=tm) h).symm
theorem StOK.frz (h:StOK X g0 γ β e w σ a) {r:Nat} (hz:σ.frz r=some σ'):∃β',StOK X g0 γ β' e w σ' a/\σ'.nx=σ.nx/\σ'.nr=σ.nr:=by
 unfold St.frz at hz
 split at hz
 ·rename_i ar t fr uq hfz
  simp only[eW] at hz
  subst hz
  obtain⟨β',v,f1,f2,f3,f4,f5⟩:=bSL h.mem h.keys hfz
  refine⟨β',⟨f2,f3,h.frame,h.gh,h.len,fun q=>?_,h.facts,h.fresh,h.nodef,h.base⟩,rfl,rfl⟩
  show bU X γ _ e w (gX (σ.tm.map fun p=>(p.1,bKY r ar t fr (if uq then r else 0) p.2)) q) _
  rw[cJQ rfl]
  exact bSJ f4 f1 f5 (h.vals q)
 ·cases hz
theorem StOK.frzAll:(rs:List Nat)->{σ:St}->{β:Bt}->StOK X g0 γ β e w σ a->∃β',StOK X g0 γ β' e w (frzAll rs σ) a/\(Go.Proofs.YtfmfeplebgbpmaaGreat.frzAll rs σ).nx=σ.nx/\(Go.Proofs.YtfmfeplebgbpmaaGreat.frzAll rs σ).nr=σ.nr
 | [],σ,β,h=>⟨β,h,rfl,rfl⟩
 | r::rs,σ,β,h=>by
  simp only[Go.Proofs.YtfmfeplebgbpmaaGreat.frzAll]
  split
  ·rename_i σ1 h1
   obtain⟨β1,i1,i2,i3⟩:=h.frz h1
   obtain⟨β2,j1,j2,j3⟩:=StOK.frzAll rs i1
   exact⟨β2,j1,j2.trans i2,j3.trans i3⟩
  ·exact StOK.frzAll rs h
end
structure NilsOK (γ γ':Gh) (n n':Nat) (es:Es):Prop where
 gh:lF γ'
 ext:∀r v,γ r=some v->γ' r=some v
 fresh:∀r,n'<=r->γ' r=none
 le:n<=n'
 ids:∀p∈es,(n<=p.1/\p.1<n')/\(∃q,γ' p.1=some (.slice q 0 0))/\∃e t,p.2 = .sl e t (.nl e t) true true
 nd:(es.map (·.1)).Nodup
section
variable {P:Program} {Cs:List Con} {X:Cx} {g0 γ γ' γ2:Gh} {β β':Bt} {O O':List Nat} {e:List SV} {w w':World} {σ σ':St} {a a':Act}
theorem NilsOK.refl (hg:lF γ) {n:Nat} (h:∀r,n<=r->γ r=none):NilsOK γ γ n n []:=⟨hg,fun _ _ h=>h,h,Nat.le_refl _,fun p hp=>by simp at hp,by simp⟩
theorem NilsOK.trans {n n1 n2:Nat} {e1 e2:Es} (h:NilsOK γ γ' n n1 e1) (k:NilsOK γ' γ2 n1 n2 e2):NilsOK γ γ2 n n2 (e1++e2):=by
 refine⟨k.gh,fun r v hr=>k.ext r v (h.ext r v hr),k.fresh,Nat.le_trans h.le k.le,fun p hp=>?_,?_⟩
 ·rw[List.mem_append] at hp
  have:=h.le
  have:=k.le
  rcases hp with hp|hp
  ·obtain⟨a1,⟨q,a2⟩,a3⟩:=h.ids p hp
   exact⟨by omega,⟨q,k.ext _ _ a2⟩,a3⟩
  ·obtain⟨a1,a2,a3⟩:=k.ids p hp
   exact⟨by omega,a2,a3⟩
 ·rw[List.map_append,List.nodup_append]
  refine⟨h.nd,k.nd,fun x hx y hy he=>?_⟩
  subst he
  simp only[List.mem_map] at hx hy
  obtain⟨p,hp,rfl⟩:=hx
  obtain⟨q,hq,he⟩:=hy
  have h1:=(h.ids p hp).1
  have h2:=(k.ids q hq).1
  omega
theorem NilsOK.one (hg:lF γ) {n:Nat} (h:∀r,n<=r->γ r=none) (e:TypeId) (t:Ty) (p:Option Addr):NilsOK γ (γ.upd n (.slice p 0 0)) n (n+1) [(n,.sl e t (.nl e t) true true)] :=
 ⟨hg.upd rfl,Gh.upd_mono (h n (Nat.le_refl _)),fun r hr=>by rw[Gh.upd_other (by omega)];exact h r (by omega),Nat.le_succ _,fun q hq=>by
  simp only[List.mem_singleton] at hq
  subst hq
  exact⟨⟨Nat.le_refl _,Nat.lt_succ_self _⟩,⟨p,by simp⟩,e,t,rfl⟩,by simp⟩
theorem NilsOK.later {n n':Nat} {es:Es} (h:NilsOK γ γ' n n' es):Later X γ O e w γ' O e w:=⟨h.ext,⟨[],by simp⟩,Nat.le_refl _,fun b _ h _=>⟨rfl,h⟩⟩
theorem aWX:(hs bs:List Leaf)->{n:Nat}->{γ:Gh}->{cs:List Value}->lF γ->(∀r,n<=r->γ r=none)->bG X γ O e w bs cs ->
  ∃γ',NilsOK γ γ' n (nM hs bs n).2.2 (nM hs bs n).2.1/\bG X γ' O e w (nM hs bs n).1 cs:=by
 intro hs
 induction hs with
 | nil=>intro bs n γ cs hg hf h;exact⟨γ,.refl hg hf,h⟩
 | cons x hs ih =>
  intro bs n γ cs hg hf h
  have own:∀(e':TypeId) (t:Ty) (bs':List Leaf),bG X γ O e w (.nl e' t::bs') cs->∃γ',NilsOK γ γ' n (nM hs bs' (n+1)).2.2 ((n,.sl e' t (.nl e' t) true true)::(nM hs bs' (n+1)).2.1)/\bG X γ' O e w (.own n::(nM hs bs' (n+1)).1) cs:=fun e' t bs' h=>by
   obtain⟨c,cs',rfl,⟨p,rfl⟩,h2⟩:=h
   have h1:=NilsOK.one hg hf e' t p
   obtain⟨γ2,i1,i2⟩:=ih bs' h1.gh h1.fresh (bG.later h1.later h2)
   exact⟨γ2,h1.trans i1,_,_,rfl,i1.ext _ _ (by simp),i2⟩
  have skip:∀(b:Leaf) (bs':List Leaf),bG X γ O e w (b::bs') cs->∃γ',NilsOK γ γ' n (nM hs bs' n).2.2 (nM hs bs' n).2.1/\bG X γ' O e w (b::(nM hs bs' n).1) cs:=fun b bs' h=>by
   obtain⟨c,cs',rfl,h1,h2⟩:=h
   obtain⟨γ2,i1,i2⟩:=ih bs' hg hf h2
   exact⟨γ2,i1,_,_,rfl,kJ.later i1.later h1,i2⟩
  cases bs with
  | nil=>cases x with
   | d _ _ _ k=>cases k<;>exact⟨γ,.refl hg hf,h⟩
   | _=>exact⟨γ,.refl hg hf,h⟩
  | cons b bs' =>
   cases x with
   | own r=>cases b with
    | nl e' t=>exact own e' t bs' h
    | _=>exact skip _ bs' h
   | nl _ _=>exact skip b bs' h
   | d a t fr k=>cases k with
    | zero=>exact skip b bs' h
    | succ k=>cases b with
     | nl e' t=>exact own e' t bs' h
     | _=>exact skip _ bs' h
theorem cF4 (h0:Sh) {s:Sh} {n:Nat} {v:Value} (hg:lF γ) (hf:∀r,n<=r->γ r=none) (h:bU X γ O e w s v) :
  ∃γ',NilsOK γ γ' n (aI2 h0 s n).2.2 (aI2 h0 s n).2.1/\bU X γ' O e w (aI2 h0 s n).1 v:=by
 have same:aI2 h0 s n=(s,[],n)->∃γ',NilsOK γ γ' n (aI2 h0 s n).2.2 (aI2 h0 s n).2.1/\bU X γ' O e w (aI2 h0 s n).1 v:=fun he=>by
  rw[he];exact⟨γ,.refl hg hf,h⟩
 cases h0 with
 | one x=>cases s with
  | one b =>
   obtain⟨γ',i1,i2⟩:=aWX (X:=X) (O:=O) (e:=e) (w:=w) [x] [b] (n:=n) (cs:=[v]) hg hf ⟨v,[],rfl,h,rfl⟩
   have e1:aI2 (.one x) (.one b) n=(match nM [x] [b] n with|([b'],es,n')=>(.one b',es,n')|_=>(.one b,[],n)):=rfl
   match hn:nM [x] [b] n,i1,i2 with
   | ([b'],es,n'),i1,i2 =>
    rw[e1,hn]
    obtain⟨c,cs',hc,j1,j2⟩:=i2
    simp only[List.cons.injEq] at hc
    obtain⟨rfl,rfl⟩:=hc
    exact⟨γ',i1,j1⟩
   | ([],es,n'),i1,i2=>exact same (by rw[e1,hn])
   | (_::_::_,es,n'),i1,i2=>exact same (by rw[e1,hn])
  | _=>exact same rfl
 | agg x=>cases s with
  | agg b =>
   obtain⟨cs,rfl,hl⟩:=h
   obtain⟨γ',i1,i2⟩:=aWX x b hg hf hl
   exact⟨γ',i1,cs,rfl,i2⟩
  | _=>exact same rfl
 | _=>exact same rfl
end
section
variable {P:Program} {Cs:List Con} {X:Cx} {g0 γ γ' γ2:Gh} {β β':Bt} {O O':List Nat} {e:List SV} {w w':World} {σ σ':St} {a a':Act}
theorem bK9 (tm:Tm):(hs:Tm)->{n:Nat}->{γ:Gh}->{vs:Nat->Value}->lF γ->(∀r,n<=r->γ r=none)->(∀t,bU X γ O e w (gX tm t) (vs t)) ->
  ∃γ',NilsOK γ γ' n (aAA hs tm n).2.2 (aAA hs tm n).2.1/\∀t,bU X γ' O e w (gX (aAA hs tm n).1 t) (vs t)
 | [],n,γ,vs,hg,hf,h=>⟨γ,.refl hg hf,fun t=>trivial⟩
 | x::hs,n,γ,vs,hg,hf,h=>by
  obtain⟨γ1,i1,i2⟩:=cF4 x.2 hg hf (h x.1)
  obtain⟨γ2,j1,j3⟩:=bK9 tm hs (vs:=vs) i1.gh i1.fresh (fun t=>bU.later i1.later (h t))
  have e1:aAA (x::hs) tm n=((x.1,(aI2 x.2 (gX tm x.1) n).1)::(aAA hs tm (aI2 x.2 (gX tm x.1) n).2.2).1,(aI2 x.2 (gX tm x.1) n).2.1++(aAA hs tm (aI2 x.2 (gX tm x.1) n).2.2).2.1,(aAA hs tm (aI2 x.2 (gX tm x.1) n).2.2).2.2):=rfl
  rw[e1]
  refine⟨γ2,i1.trans j1,fun t=>?_⟩
  by_cases ht:x.1=t
  ·subst ht
   rw[aA1]
   exact bU.later j1.later i2
  ·rw[uV ht]
   exact j3 t
theorem StOK.nilFix (h:StOK X g0 γ β e w σ a) (hs:Tm):∃γ' β',StOK X g0 γ' β' e w (nilFix hs σ) a/\(Go.Proofs.YtfmfeplebgbpmaaGreat.nilFix hs σ).nx=σ.nx:=by
 obtain⟨γ',i1,i3⟩:=bK9 (X:=X) (O:=Os γ σ.es) (e:=e) (w:=w) σ.tm hs (n:=σ.nr) (vs:=fun t=>a.tmps.getD t undef) h.gh h.fresh h.vals
 have e1:Go.Proofs.YtfmfeplebgbpmaaGreat.nilFix hs σ = { σ with tm:=(aAA hs σ.tm σ.nr).1,es:=(aAA hs σ.tm σ.nr).2.1++σ.es,nr:=(aAA hs σ.tm σ.nr).2.2 }:=rfl
 rw[e1]
 let β':Bt:=fun q=>if σ.nr<=q then [] else β q
 have hold:∀p∈σ.es,p.1<σ.nr:=fun p hp=>by
  obtain⟨v,hv⟩:=(h.mem.ent p hp).gh
  rcases Nat.lt_or_ge p.1 σ.nr with h1|h1
  ·exact h1
  ·rw[h.fresh p.1 h1] at hv;cases hv
 have hβn:∀p∈(aAA hs σ.tm σ.nr).2.1,β' p.1=[]:=fun p hp=>by
  have:=(i1.ids p hp).1
  simp only[β'];rw[if_pos this.1]
 obtain⟨z1,z2⟩:=bKN (β:=β') (fun p hp=>(i1.ids p hp).2) hβn
 obtain⟨m1,m2⟩:=h.mem.grow (γ':=γ') (β':=β') (w':=w) (new:=(aAA hs σ.tm σ.nr).2.1) h.frame.B_le (fun _ _=>rfl) (Nat.le_refl _) i1.ext (fun p hp=>by have:=hold p hp;simp only[β'];rw[if_neg (by omega)])
  (by rw[z1,z2];simp) (by rw[z1,z2];simp) (fun hlat p hp=>by
   obtain⟨a1,⟨q,a2⟩,e',t,a3⟩:=i1.ids p hp
   obtain⟨r,en⟩:=p
   simp only at a2 a3
   subst a3
   exact bNT a2 (hβn _ hp))
 refine⟨γ',β',⟨m1,?_,h.frame,i1.gh,h.len,fun t=>?_,h.facts,i1.fresh,h.nodef,fun r v hr=>i1.ext r v (h.base r v hr)⟩,rfl⟩
 ·unfold dB
  rw[List.map_append,List.nodup_append]
  refine⟨i1.nd,h.keys,fun x hx y hy he=>?_⟩
  subst he
  simp only[List.mem_map] at hx hy
  obtain⟨p,hp,rfl⟩:=hx
  obtain⟨q,hq,he⟩:=hy
  have h1:=(i1.ids p hp).1
  have h2:=hold q hq
  omega
 ·have hlat:Later X γ' (Os γ σ.es) e w γ' (Os γ' ((aAA hs σ.tm σ.nr).2.1++σ.es)) e w:=⟨fun _ _ h=>h,⟨[],by simp⟩,Nat.le_refl _,m2.block⟩
  exact bU.later hlat (i3 t)
theorem StOK.prep (h:StOK X g0 γ β e w σ a) (hs:Tm) (he:Es):∃γ' β',StOK X g0 γ' β' e w (prep hs he σ) a/\(Go.Proofs.YtfmfeplebgbpmaaGreat.prep hs he σ).nx=σ.nx:=by
 obtain⟨γ1,β1,i1,i2⟩:=h.nilFix hs
 obtain⟨β2,j1,j2,_⟩:=StOK.frzAll ((hs.flatMap fun p=>cJB p.2 (gX (Go.Proofs.YtfmfeplebgbpmaaGreat.nilFix hs σ).tm p.1))++he.flatMap fun p=>match p.2,fL (Go.Proofs.YtfmfeplebgbpmaaGreat.nilFix hs σ).es (mpF (aKB hs (Go.Proofs.YtfmfeplebgbpmaaGreat.nilFix hs σ).tm he (Go.Proofs.YtfmfeplebgbpmaaGreat.nilFix hs σ).es) p.1) with
  | .box _ a,some (.box _ b)=>bK0 a b
  | _,_=>[]) i1
 exact⟨γ1,β2,j1,j2.trans i2⟩
end
theorem cB4 (a b:Ty) (p:Ar) (env:List SV):((cKY a b p).val env).as a=((p.val env).as (.cMV a b)).1:=by
 unfold cKY
 split
 ·rename_i a' b' p' q'
  split
  ·rename_i h
   obtain⟨rfl,rfl⟩:=h
   simp[Ar.val]
  ·simp only[Ar.val,SV.as_self]
 ·simp only[Ar.val,SV.as_self]
theorem cF0 (a b:Ty) (p:Ar) (env:List SV):((cKS a b p).val env).as b=((p.val env).as (.cMV a b)).2:=by
 unfold cKS
 split
 ·rename_i a' b' p' q'
  split
  ·rename_i h
   obtain⟨rfl,rfl⟩:=h
   simp[Ar.val]
  ·simp only[Ar.val];exact SV.as_self _ _
 ·simp only[Ar.val];exact SV.as_self _ _
theorem Ar.sub_val {n:Nat} {t0:Ty} {q:Ar} {env:List SV} (hn:n<=env.length):(a:Ar)->(t:Ty)->a.bd (n+1)=true->Ar.wt n t0 t a=true->((Ar.sub n q a).val env).as t=(a.val (env.take n++[⟨t0,(q.val env).as t0⟩])).as t
 | .Z k,t,h,hw=>by
  simp only[Ar.bd,decide_eq_true_eq] at h
  simp only[Ar.wt,Bool.or_eq_true,bne_iff_ne,ne_eq,decide_eq_true_eq] at hw
  simp only[Ar.sub]
  have hl:(env.take n).length=n:=List.length_take_of_le hn
  split
  ·rename_i hk
   subst hk
   simp only[Ar.val,aSJ]
   rw[List.getElem?_append_right (by omega),hl]
   obtain rfl:=hw.resolve_left (fun h=>h rfl)
   simp
  ·rename_i hk
   simp only[Ar.val,aSJ]
   rw[List.getElem?_append_left (by omega),List.getElem?_take,if_pos (by omega)]
 | .ci _ _,_,_,_=>rfl
 | .cb _,_,_,_=>rfl
 | .cs _,_,_,_=>rfl
 | .nl _ _,_,_,_=>rfl
 | .p1 x y p,t,h,hw=>by
  simp only[Ar.wt,Bool.and_eq_true,decide_eq_true_eq] at hw
  obtain⟨rfl,hw⟩:=hw
  have:=Ar.sub_val (t0:=t0) (q:=q) hn p (.cMV t y) (by simpa [Ar.bd] using h) hw
  simp only[Ar.sub]
  rw[cB4,this]
  simp only[Ar.val,SV.as_self]
 | .p2 x y p,t,h,hw=>by
  simp only[Ar.wt,Bool.and_eq_true,decide_eq_true_eq] at hw
  obtain⟨rfl,hw⟩:=hw
  have:=Ar.sub_val (t0:=t0) (q:=q) hn p (.cMV x t) (by simpa [Ar.bd] using h) hw
  simp only[Ar.sub]
  rw[cF0,this]
  simp only[Ar.val]
  exact(SV.as_self _ _).symm
 | .cMX x y p r,t,h,hw=>by
  simp only[Ar.bd,Bool.and_eq_true] at h
  simp only[Ar.wt,Bool.and_eq_true,decide_eq_true_eq] at hw
  obtain⟨⟨rfl,w1⟩,w2⟩:=hw
  have h1:=Ar.sub_val (t0:=t0) (q:=q) hn p x h.1 w1
  have h2:=Ar.sub_val (t0:=t0) (q:=q) hn r y h.2 w2
  simp only[Ar.sub]
  rw[zS,h1,h2]
  simp[Ar.val]
section
variable {X:Cx} {γ:Gh} {O O':List Nat} {env:List SV} {w:World} {m:Nat->Nat} {n:Nat} {t0:Ty} {q:Ar}
theorem bJ7 (hn:n<=env.length) (hO:∀b,b ∉ O->b ∉ O'):{h c:Leaf}->{v:Value}->aIT m n t0 q h c=true->kJ X γ O env w c v->kJ X (fun r=>γ (m r)) O' (env.take n++[⟨t0,(q.val env).as t0⟩]) w h v:=by
 intro h c v hle hc
 have hlen:(env.take n++[(⟨t0,(q.val env).as t0⟩:SV)]).length=n+1:=by simp;omega
 cases h with
 | d a t fr k =>
  cases c with
  | d b u f j =>
   simp only[aIT,Bool.and_eq_true,decide_eq_true_eq] at hle
   obtain⟨⟨⟨⟨⟨h1,rfl⟩,h3⟩,h4⟩,h5⟩,h6⟩:=hle
   have hb:=Ar.beq_eq h1
   obtain⟨c1,c2,c3⟩:=hc
   refine⟨by rw[hlen];exact h5,?_,fun hk=>?_⟩
   ·rw[<-Ar.sub_val hn a t h5 h6,hb]
    have c2':kS (Gd X O' w f) t w [v] ((b.val env).as t):=c2.mono (fun b hb=>⟨hb.1,hO b hb.2.1,hb.2.2⟩) (fun _ _=>rfl)
    cases hfl:t.flat
    ·exact c2'.mono (fun b hb=>hb.mono (fun h=>by rw[hfl,h] at h3;simpa using h3)) (fun _ _=>rfl)
    ·exact c2'.flat hfl
   ·simp only[Bool.or_eq_true,Bool.and_eq_true,beq_iff_eq,bne_iff_ne,ne_eq] at h4
    rcases h4 with h4|h4
    ·exact absurd h4 hk
    ·show γ (m k)=some v
     rw[h4.2];exact c3 h4.1
  | nl e u =>
   cases k with
   | zero =>
    simp only[aIT,Bool.and_eq_true,decide_eq_true_eq] at hle
    obtain⟨⟨⟨h1,rfl⟩,h5⟩,h6⟩:=hle
    have hb:=Ar.beq_eq h1
    obtain⟨p,rfl⟩:=hc
    refine⟨by rw[hlen];exact h5,?_,fun hk=>absurd rfl hk⟩
    rw[<-Ar.sub_val hn a (.slice e u) h5 h6,hb]
    simp only[Ar.val,SV.as_self]
    exact⟨p,0,0,rfl,rfl,Nat.le_refl _,Nat.zero_le _,fun _=>rfl,fun k hk=>by simp at hk⟩
   | succ k=>simp[aIT] at hle
  | own s=>cases k<;>simp[aIT] at hle
 | own r =>
  cases c with
  | own s =>
   simp only[aIT,beq_iff_eq] at hle
   show γ (m r)=some v
   rw[hle];exact hc
  | _=>simp[aIT] at hle
 | nl e t =>
  cases c with
  | nl f u=>exact hc
  | _=>simp[aIT] at hle
theorem aOP (hn:n<=env.length) (hO:∀b,b ∉ O->b ∉ O'):{h c:List Leaf}->{vs:List Value}->aHF m n t0 q h c=true->bG X γ O env w c vs->bG X (fun r=>γ (m r)) O' (env.take n++[⟨t0,(q.val env).as t0⟩]) w h vs
 | [],[],_,_,hc=>hc
 | a::h,b::c,_,hle,⟨v,vs',hv,h1,h2⟩=>by
  simp only[aHF,Bool.and_eq_true] at hle
  exact⟨v,vs',hv,bJ7 hn hO hle.1 h1,aOP hn hO hle.2 h2⟩
 | [],_::_,_,hle,_=>by simp[aHF] at hle
 | _::_,[],_,hle,_=>by simp[aHF] at hle
end
section
variable {X:Cx} {γ:Gh} {O O':List Nat} {env:List SV} {w:World} {m:Nat->Nat} {n:Nat} {t0:Ty} {q:Ar}
theorem bWG (hn:n<=env.length) (hO:∀b,b ∉ O->b ∉ O') {h c:Sh} {v:Value} (hle:aF6 m n t0 q h c=true) (hc:bU X γ O env w c v):bU X (fun r=>γ (m r)) O' (env.take n++[⟨t0,(q.val env).as t0⟩]) w h v:=by
 cases h with
 | no=>trivial
 | one a =>
  cases c with
  | one b=>exact bJ7 hn hO hle hc
  | _=>simp[aF6] at hle
 | agg a =>
  cases c with
  | agg b=>obtain⟨cs,hv,hl⟩:=hc;exact⟨cs,hv,aOP hn hO hle hl⟩
  | _=>simp[aF6] at hle
 | nilS =>
  cases c with
  | nilS=>exact hc
  | _=>simp[aF6] at hle
 | pbox r f =>
  cases c with
  | pbox s g =>
   simp only[aF6,Bool.and_eq_true,beq_iff_eq] at hle
   obtain⟨h1,rfl⟩:=hle
   obtain⟨b,hb,hv⟩:=hc
   exact⟨b,by show γ (m r)=_;rw[h1];exact hb,hv⟩
  | _=>simp[aF6] at hle
 | fn f =>
  cases c with
  | fn g =>
   simp only[aF6,beq_iff_eq] at hle
   subst hle
   exact hc
  | _=>simp[aF6] at hle
 | und =>
  cases c with
  | und=>exact hc
  | _=>simp[aF6] at hle
 | pelem r e t i o=>cases c<;>simp[aF6] at hle
 | cut r e t i o=>cases c<;>simp[aF6] at hle
 | pro ls=>cases c<;>simp[aF6] at hle
 | tup ls=>cases c<;>simp[aF6] at hle
end
section
variable {X:Cx} {γ:Gh} {β:Bt} {O O':List Nat} {env:List SV} {w:World} {m:Nat->Nat} {n:Nat} {t0:Ty} {q:Ar} {es hs:Es} {G G':Nat->Prop}
theorem bGQ {α δ:Type} {f g:α->List δ}:{l:List α}->(∀x∈l,f x=g x)->l.flatMap f=l.flatMap g
 | [],_=>rfl
 | x::l,h=>by
  simp only[List.flatMap_cons]
  rw[h x (by simp),bGQ fun y hy=>h y (by simp[hy])]
theorem bQ1 {es:Es} (hk:dB es) {p:Nat×Ent} (hp:p∈es):fL es p.1=some p.2:=by
 induction es with
 | nil=>simp at hp
 | cons x es ih =>
  have hk':dB es:=(List.nodup_cons.1 hk).2
  have hx:x.1 ∉ es.map (·.1):=(List.nodup_cons.1 hk).1
  rw[List.mem_cons] at hp
  rcases hp with rfl|hp
  ·simp[fL]
  ·have hne:x.1≠p.1:=fun h=>hx (by rw[h];exact List.mem_map_of_mem hp)
   have:fL (x::es) p.1=fL es p.1:=by
    simp only[fL,List.find?_cons]
    rw[show(x.1==p.1)=false by simpa using hne]
   rw[this];exact ih hk' hp
theorem bSK {es:Es} {r s:Nat} (h:s≠r):fL (cV es [r]) s=fL es s:=by
 induction es with
 | nil=>rfl
 | cons x es ih =>
  simp only[cV] at ih⊢
  by_cases hx:x.1=r
  ·rw[List.filter_cons_of_neg (by simp[hx]),ih]
   simp only[fL,List.find?_cons]
   rw[show(x.1==s)=false by simpa using fun h'=>h (by rw[<-h',hx])]
  ·rw[List.filter_cons_of_pos (by simpa using hx)]
   simp only[fL,List.find?_cons] at ih⊢
   cases x.1==s
   ·exact ih
   ·rfl
theorem bK5 (d:Ent):(ks:List Nat)->{es:Es}->dB es->ks.Nodup->(∀k∈ks,∃e,fL es k=some e)->∃rest,es.Perm (ks.map (fun k=>(k,(fL es k).getD d))++rest)
 | [],es,hk,hn,h=>⟨es,.refl _⟩
 | k::ks,es,hk,hn,h=>by
  obtain⟨e,he⟩:=h k (by simp)
  obtain⟨h1,h2⟩:=tV hk he
  have hne:∀j∈ks,j≠k:=fun j hj hjk=>(List.nodup_cons.1 hn).1 (hjk ▸ hj)
  obtain⟨rest,hr⟩:=bK5 d ks (hk.sub (oP es [k])) (List.nodup_cons.1 hn).2 (fun j hj=>by rw[bSK (hne j hj)];exact h j (by simp[hj]))
  refine⟨rest,?_⟩
  have e1:ks.map (fun j=>(j,(fL (cV es [k]) j).getD d))=ks.map (fun j=>(j,(fL es j).getD d)):=List.map_congr_left fun j hj=>by rw[bSK (hne j hj)]
  rw[e1] at hr
  simp only[List.map_cons,he,Option.getD_some,List.cons_append]
  exact h1.trans (hr.cons _)
theorem wU.flat' {e:TypeId} {t:Ty} {v:Value} {l:List t.D} (hf:t.flat=true) (h:wU G w e t v l):wU G' w e t v l:=by
 rcases h with h|⟨b,cap,cur,hv,h0,hh,h1,h2,h3,h4⟩
 ·exact .inl h
 ·exact .inr ⟨b,cap,cur,hv,h0,hh,h1,h2,h3,fun k hk=>(h4 k hk).flat hf⟩
def aPH (m:Nat->Nat) (β:Bt) (hs:Es):Bt:=fun r=>match fL hs r with
 | some (.sl _ _ _ _ false)=>[]
 | _=>β (m r)
theorem bWU (hn:n<=env.length) (hm:MemOK X γ β env w es) (hk:dB es) (hle:bLN m n t0 q hs es=true) :
  MemOK X (fun r=>γ (m r)) (aPH m β hs) (env.take n++[⟨t0,(q.val env).as t0⟩]) w hs/\dB hs/\∀b,b ∉ Os γ es->b ∉ Os (fun r=>γ (m r)) hs:=by
 have hlen:(env.take n++[(⟨t0,(q.val env).as t0⟩:SV)]).length=n+1:=by simp;omega
 simp only[bLN,Bool.and_eq_true,decide_eq_true_eq,List.all_eq_true] at hle
 obtain⟨hall,hnd⟩:=hle
 have hkh:dB hs:=by
  unfold dB
  have:hs.map (fun p=>m p.1)=(hs.map (·.1)).map m:=by simp
  rw[this] at hnd
  exact List.Pairwise.of_map m (fun a b hab h=>hab (by rw[h])) hnd
 let d:Ent:=.box 0 []
 have hsome:∀p∈hs,∃e,fL es (m p.1)=some e/\aKF m n t0 q p.2 e=true:=fun p hp=>by
  have:=hall p hp
  split at this
  ·rename_i e he;exact⟨e,he,this⟩
  ·cases this
 let f:Nat×Ent->Nat×Ent:=fun p=>(m p.1,(fL es (m p.1)).getD d)
 obtain⟨rest,hr⟩:=bK5 d (hs.map fun p=>m p.1) hk hnd (fun k hk'=>by
  rw[List.mem_map] at hk'
  obtain⟨p,hp,rfl⟩:=hk'
  obtain⟨e,he,_⟩:=hsome p hp
  exact⟨e,he⟩)
 have hf:(hs.map fun p=>m p.1).map (fun k=>(k,(fL es k).getD d))=hs.map f:=by simp[f]
 rw[hf] at hr
 obtain⟨m1,l1⟩:=hm.perm hr.symm
 obtain⟨m2,l2⟩:=m1.sub (List.sublist_append_left (hs.map f) rest)
 have Bd:Os (fun r=>γ (m r)) hs=Os γ (hs.map f):=by
  simp only[Os,List.flatMap_map]
  refine bGQ fun p hp=>?_
  obtain⟨e,he,hl⟩:=hsome p hp
  obtain⟨r,en⟩:=p
  simp only at he hl
  simp only[f,he,Option.getD_some]
  cases en with
  | box T a=>cases e<;>first|rfl|simp[aKF] at hl
  | sl e1 t a fr uq=>cases e<;>first|rfl|simp[aKF] at hl
  | uq t a fr=>cases e<;>first|rfl|simp[aKF] at hl
  | arr e1 t a fr ls=>cases e<;>simp[aKF] at hl
 have Br:(Us (aPH m β hs) hs).Sublist (Us β (hs.map f)):=by
  simp only[Us,List.flatMap_map,f]
  have:∀r,aPH m β hs r=[]\/aPH m β hs r=β (m r):=fun r=>by
   unfold aPH
   split
   ·exact .inl rfl
   ·exact .inr rfl
  clear hr m1 l1 m2 l2 Bd hf f hsome hkh hall hnd
  generalize aPH m β hs=β' at this⊢
  induction hs with
  | nil=>exact .slnil
  | cons p hs ih =>
   simp only[List.flatMap_cons]
   refine List.Sublist.append ?_ ih
   rcases this p.1 with h|h
   ·rw[h];exact List.nil_sublist _
   ·rw[h];exact List.Sublist.refl _
 refine⟨⟨?_,fun b hb=>m2.at' b (Bd ▸ hb),fun b hb=>by rw[Bd];exact m2.good b (Br.subset hb),fun p hp=>?_⟩,hkh,fun b hb=>?_⟩
 ·rw[Bd]
  exact m2.nd.sublist ((List.Sublist.refl _).append Br)
 ·rw[Bd]
  obtain⟨e,he,hl⟩:=hsome p hp
  have hent:=m2.ent (f p) (List.mem_map_of_mem hp)
  have hlk:=bQ1 hkh hp
  obtain⟨r,en⟩:=p
  simp only at he hl hlk⊢
  simp only[f,he,Option.getD_some] at hent
  cases en with
  | box T a =>
   cases e with
   | box U c =>
    simp only[aKF,Bool.and_eq_true,beq_iff_eq] at hl
    obtain⟨rfl,hl⟩:=hl
    obtain⟨b,cs,h1,h2,h3,h4⟩:=hent
    exact⟨b,cs,h1,h2,aOP hn (fun _ h=>h) hl h3,by simp only[aPH,hlk];exact h4⟩
   | _=>simp[aKF] at hl
  | sl e1 t a fr uq =>
   cases e with
   | sl e2 u c g up =>
    simp only[aKF,Bool.and_eq_true,beq_iff_eq,decide_eq_true_eq] at hl
    obtain⟨⟨⟨⟨⟨⟨rfl,rfl⟩,h3⟩,h4⟩,h5⟩,h6⟩,h7⟩:=hl
    have hb:=Ar.beq_eq h3
    have hval:(a.val (env.take n++[⟨t0,(q.val env).as t0⟩])).as (.slice e1 t)=(c.val env).as (.slice e1 t):=by rw[<-Ar.sub_val hn a _ h6 h7,hb]
    obtain⟨c1,v,c2,c3,c4,c5⟩:=hent
    refine⟨by rw[hlen];exact h6,v,c2,?_,fun hq=>?_,fun hq=>?_⟩
    ·rw[hval]
     cases hfl:t.flat
     ·exact c3.mono (fun b hb=>hb.mono (fun h=>by rw[hfl,h] at h4;simpa using h4)) (fun _ _=>rfl) (fun _ _ _ _ _=>rfl)
     ·exact c3.flat' hfl
    ·subst hq
     have hup:up=true:=by simpa using h5
     rw[hval]
     simp only[aPH,hlk]
     exact c4 hup
    ·subst hq
     simp only[aPH,hlk]
   | _=>simp[aKF] at hl
  | uq t a fr =>
   cases e with
   | uq u c g =>
    simp only[aKF,Bool.and_eq_true,beq_iff_eq,decide_eq_true_eq] at hl
    obtain⟨⟨⟨⟨rfl,h3⟩,h4⟩,h6⟩,h7⟩:=hl
    have hb:=Ar.beq_eq h3
    have hval:(a.val (env.take n++[⟨t0,(q.val env).as t0⟩])).as t=(c.val env).as t:=by rw[<-Ar.sub_val hn a _ h6 h7,hb]
    obtain⟨c1,v,c2,c3⟩:=hent
    refine⟨by rw[hlen];exact h6,v,c2,?_⟩
    rw[hval]
    simp only[aPH,hlk]
    exact c3
   | _=>simp[aKF] at hl
  | arr e1 t a fr ls=>cases e<;>simp[aKF] at hl
 ·rw[Bd]
  intro hb'
  rw[xS] at hb'
  obtain⟨p,hp,h⟩:=hb'
  exact hb (xS.2 ⟨p,hr.symm.subset (List.mem_append_left _ hp),h⟩)
end
section
variable {X:Cx} {g0 γ:Gh} {β:Bt} {O O':List Nat} {e:List SV} {w:World} {m:Nat->Nat} {n:Nat} {t0:Ty} {q:Ar} {es hs:Es} {σ σh:St} {a:Act}
theorem StOK.ext (h:StOK X g0 γ β e w σ a) (x:List SV):StOK X g0 γ β (e++x) w σ a:=by
 have hl:Later X γ (Os γ σ.es) e w γ (Os γ σ.es) (e++x) w:=⟨fun _ _ h=>h,⟨x,rfl⟩,Nat.le_refl _,fun b _ h _=>⟨rfl,h⟩⟩
 refine⟨⟨h.mem.nd,h.mem.at',h.mem.good,fun p hp=>jS.later hl rfl (fun _ _=>rfl) (fun _ _=>rfl) (h.mem.ent p hp)⟩,h.keys,h.frame,h.gh,h.len,fun t=>bU.later hl (h.vals t),fun p hp=>?_,h.fresh,h.nodef,h.base⟩
 obtain⟨h1,h2⟩:=h.facts p hp
 exact⟨Ar.bd_mono (by simp) _ h1,by rw[Ar.val_ext _ h1];exact h2⟩
theorem bDN:{hs cs:Tm}->aWL m n t0 q hs cs=true->∀t,aF6 m n t0 q (gX hs t) (gX cs t)=true
 | [],cs,h,t=>rfl
 | x::hs,cs,h,t=>by
  simp only[aWL,List.all_cons,Bool.and_eq_true] at h
  by_cases ht:x.1=t
  ·subst ht
   rw[show gX (x::hs) x.1=x.2 from aA1]
   exact h.1
  ·rw[show gX (x::hs) t=gX hs t from uV ht]
   exact bDN (hs:=hs) h.2 t
theorem cG9 {N M:Nat} {l:List (Nat×Nat)} {r:Nat} (h:N<=r):mpN N M l r=M+r:=by simp[mpN];omega
theorem StOK.head (h:StOK X g0 γ β e w σ a) {l:List (Nat×Nat)} (hn:n<=e.length) (h1:aWL (mpN σh.nr σ.nr l) n t0 q σh.tm σ.tm=true) (h2:(σh.n==σ.n)=true)
  (h3:bLN (mpN σh.nr σ.nr l) n t0 q σh.es σ.es=true) (hg:∀r v,g0 r=some v->mpN σh.nr σ.nr l r=r) (hf:∀p∈σh.facts,p.1.bd n=true/\(p.1.val (e.take n)).as .bool=p.2) :
  ∃γ' β',StOK X g0 γ' β' (e.take n++[⟨t0,(q.val e).as t0⟩]) w σh a:=by
 obtain⟨m1,m2,m3⟩:=bWU hn h.mem h.keys h3
 refine⟨_,_,m1,m2,h.frame,fun r v hr=>h.gh _ v hr,?_,fun t=>?_,fun p hp=>?_,fun r hr=>?_,h.nodef,fun r v hr=>?_⟩
 ·rw[beq_iff_eq] at h2
  rw[h2];exact h.len
 ·exact bWG hn m3 (bDN h1 t) (h.vals t)
 ·obtain⟨f1,f2⟩:=hf p hp
  have hl:(e.take n).length=n:=List.length_take_of_le hn
  refine⟨Ar.bd_mono (by simp;omega) _ f1,?_⟩
  rw[Ar.val_ext _ (by rw[hl];exact f1)]
  exact f2
 ·show γ (mpN σh.nr σ.nr l r)=none
  rw[cG9 hr]
  exact h.fresh _ (Nat.le_add_right _ _)
 ·show γ (mpN σh.nr σ.nr l r)=some v
  rw[hg r v hr]
  exact h.base r v hr
end
section
variable {P:Program} {Cs:List Con} {X:Cx} {g0 γ γ':Gh} {β β':Bt} {O O':List Nat} {e env:List SV} {w w':World} {σ σ':St} {a a':Act}
variable {wr:Bool} {D:List Nat} {i:Nat} {o:Oper} {d d':Dr} {ls:List Let} {ops:Array Oper}
theorem aV1 {α:Type}:{l:List α}->{n:Nat}->{p:Nat×α}->p∈wC n l->n<=p.1/\l[p.1 - n]?=some p.2
 | [],n,p,h=>by simp[wC] at h
 | x::l,n,p,h=>by
  simp only[wC,List.mem_cons] at h
  rcases h with rfl|h
  ·exact⟨Nat.le_refl _,by simp⟩
  ·obtain⟨h1,h2⟩:=aV1 h
   refine⟨by omega,?_⟩
   rw[show p.1 - n=(p.1 - (n+1))+1 by omega]
   simpa using h2
theorem bSF {α:Type}:(l:List α)->(n:Nat)->(wC n l).map (·.1)=(List.range l.length).map (· + n)
 | [],n=>rfl
 | x::l,n=>by
  simp only[wC,List.map_cons,bSF l (n+1),List.length_cons,List.range_succ_eq_map,List.map_map]
  simp only[Nat.zero_add,List.cons.injEq,true_and]
  apply List.map_congr_left
  intro k _
  simp only[Function.comp]
  omega
def aRD (X:Cx) (g0:Gh) (e:List SV) (σF:St):Exit->Act->World->Prop:=fun ex a w=>ex = .normal/\∃γ β,StOK X g0 γ β e w σF a
theorem cAH (hC:∀(c:Nat) (C:Con),Cs[c]?=some C->Con.Holds P C) {σF:St} {rt:RT} {id:Nat} (h:rW P Cs wr D ops (wC 0 ops.toList) σ (bIO ops false) = .ok rt) (hp:RTPath Cs rt env σF e) (hn:env.length=σ.nx) (hst:StOK X g0 γ β e w σ a) :
  (Code.region id ops false).wp P (aRD X g0 e σF) a w:=by
 refine wp_region ?_
 have:=aW7 (X:=X) (g0:=g0) (Q:=aRD X g0 e σF) hC (σF:=σF) (fun a' w' h=>⟨rfl,h⟩) (wC 0 ops.toList) h hp hn ⟨rfl,rfl⟩ hst (fun p hp=>by
  obtain⟨_,h2⟩:=aV1 hp
  simpa using h2)
 rw[bSF] at this
 simpa using this
end
def Run (P:Program) (fn:Func) (R:Ending->World->Prop) (items:List XI) (a:Act) (w:World):Prop :=
 ∀(b:Frame) (cs:List Frame),∃e a' w',bodyPost P fn R e a' w'/\Arrives P (lone (b.at a (items.map XI.item)) cs w) b [] cs e a' w'
def bXL (P:Program) (Cs:List Con) (wr:Bool) (X:Cx) (g0:Gh):Prop:=∀(id:Nat) (ops:Array Oper) (draw:Bool) (D:List Nat) (σ:St) (rt:RT) (env e:List SV) (σF:St) (γ:Gh) (β:Bt) (w:World) (a:Act),
 aG8 P Cs wr ops draw 12 D σ = .ok rt->RTPath Cs rt env σF e->env.length=σ.nx->StOK X g0 γ β e w σ a->(Code.region id ops draw).wp P (aRD X g0 e σF) a w
def aD4 (P:Program) (fn:Func) (R:Ending->World->Prop) (X:Cx) (g0:Gh) (L:List (SV->Prop)) (env:List SV) (dep:Nat):List XI->Prop
 | []=>True
 | .lp c σh G t0 lvl::k=>(lvl<dep/\σh.nx - 1<=env.length/\(∀p∈σh.facts,p.1.bd (σh.nx - 1)=true/\(p.1.val (env.take (σh.nx - 1))).as .bool=p.2) /\
  ∀I,L[dep - 1 - lvl]?=some I->∀v,I v->okD t0 (v.as t0)->∀γ β a w,StOK X g0 γ β (env.take (σh.nx - 1)++[⟨t0,v.as t0⟩]) w σh a->Run P fn R (.code c::.lp c σh G t0 lvl::k) a w)/\aD4 P fn R X g0 L env dep k
 | .code _::k=>aD4 P fn R X g0 L env dep k
 | .blk _::k=>aD4 P fn R X g0 L env dep k
section
variable {P:Program} {fn:Func} {R:Ending->World->Prop} {X:Cx} {g0 γ:Gh} {β:Bt} {L:List (SV->Prop)} {env:List SV} {dep:Nat} {a:Act} {w:World} {Cs:List Con} {wr:Bool} {C:Con} {rs:List ResultVar} {ow:List (Nat×TypeId×MV)} {orc:Orc} {σ:St}
theorem Run.step {items items':List XI} (h:∀(b:Frame) (cs:List Frame),step P (lone (b.at a (items.map XI.item)) cs w) = .next (lone (b.at a (items'.map XI.item)) cs w)) (hr:Run P fn R items' a w):Run P fn R items a w :=
 fun b cs=>let ⟨e,a',w',h1,h2⟩:=hr b cs;⟨e,a',w',h1,.of_steps (.one (h b cs)) h2⟩
theorem aD4.more (x:List SV):{items:List XI}->aD4 P fn R X g0 L env dep items->aD4 P fn R X g0 L (env++x) dep items
 | [],_=>trivial
 | .code _::k,h=>aD4.more x (items:=k) h
 | .blk _::k,h=>aD4.more x (items:=k) h
 | .lp c σh G t0 lvl::k,⟨⟨h1,h2,h3,h4⟩,h5⟩=>by
  have ht:(env++x).take (σh.nx - 1)=env.take (σh.nx - 1):=List.take_append_of_le_length h2
  exact⟨⟨h1,by simp;omega,by rw[ht];exact h3,by rw[ht];exact h4⟩,aD4.more x h5⟩
theorem aD4.deep (J:SV->Prop):{items:List XI}->aD4 P fn R X g0 L env dep items->aD4 P fn R X g0 (J::L) env (dep+1) items
 | [],_=>trivial
 | .code _::k,h=>aD4.deep J (items:=k) h
 | .blk _::k,h=>aD4.deep J (items:=k) h
 | .lp c σh G t0 lvl::k,⟨⟨h1,h2,h3,h4⟩,h5⟩=>by
  refine⟨⟨by omega,h2,h3,fun I hI=>h4 I ?_⟩,aD4.deep J h5⟩
  rw[show dep+1 - 1 - lvl=(dep - 1 - lvl)+1 by omega] at hI
  simpa using hI
theorem aVQ {id:Nat}:{k k':List XI}->aVU id k=some k'->exitTo id (k.map XI.item)=some (k'.map XI.item)
 | [],k',h=>by simp[aVU] at h
 | .blk id'::k,k',h=>by
  simp only[aVU] at h
  simp only[List.map_cons,XI.item,exitTo]
  by_cases hid:id=id'
  ·subst hid
   simp at h⊢
   rw[h]
  ·have h1:(id==id')=false:=by simpa using hid
   have h2:(id'==id)=false:=by simpa using fun h=>hid h.symm
   rw[h1] at h
   rw[h2]
   simp only[Bool.false_eq_true,if_false] at h⊢
   exact aVQ h
 | .code c::k,k',h=>aVQ (k:=k) h
 | .lp c σh G t0 lvl::k,k',h=>aVQ (k:=k) h
theorem aD4.exit {id:Nat}:{k k':List XI}->aVU id k=some k'->aD4 P fn R X g0 L env dep k->aD4 P fn R X g0 L env dep k'
 | [],k',h,_=>by simp[aVU] at h
 | .blk id'::k,k',h,hl=>by
  simp only[aVU] at h
  split at h
  ·simp only[eW] at h;subst h;exact hl
  ·exact aD4.exit h hl
 | .code c::k,k',h,hl=>aD4.exit (k:=k) h hl
 | .lp c σh G t0 lvl::k,k',h,hl=>aD4.exit (k:=k) h hl.2
theorem aUY (σ:St) (l:HLoc) (x:Ar):(aGK σ l x).facts=σ.facts/\(aGK σ l x).nx=σ.nx:=by
 constructor<;>(unfold aGK;cases l<;>(try rfl)<;>(dsimp only;split<;>rfl))
theorem bLI (l:List (HLoc×Ar)) (σ:St):(l.foldl (fun σ p=>aGK σ p.1 p.2) σ).facts=σ.facts/\(l.foldl (fun σ p=>aGK σ p.1 p.2) σ).nx=σ.nx:=by
 induction l generalizing σ with
 | nil=>exact⟨rfl,rfl⟩
 | cons p l ih =>
  obtain⟨h1,h2⟩:=aUY σ p.1 p.2
  obtain⟨i1,i2⟩:=ih (aGK σ p.1 p.2)
  exact⟨i1.trans h1,i2.trans h2⟩
theorem bN8 (ks:List Nat) (σ:St):(bN6 ks σ).facts=σ.facts/\(bN6 ks σ).nx=σ.nx:=by
 unfold bN6;split<;>exact⟨rfl,rfl⟩
theorem bTB (σ:St) (G:List HLoc):(bLE σ G).1.facts=σ.facts/\(bLE σ G).1.nx=σ.nx+1:=by
 have key:∀(G:List HLoc) (σ:St),(G.foldl (fun σ l=>match l with | .dk _=>aGK σ l (.cb false) | .on _=>aGK σ l (.cb false)|_=>σ) σ).facts=σ.facts:=by
  intro G
  induction G with
  | nil=>intro σ;rfl
  | cons l G ih =>
   intro σ
   rw[List.foldl_cons,ih]
   cases l<;>first|rfl|exact(aUY _ _ _).1
 unfold bLE
 simp only
 obtain⟨h1,h2⟩:=bLI _ _
 obtain⟨k1,k2⟩:=bN8 _ _
 refine⟨k1.trans (h1.trans ?_),k2.trans h2⟩
 simp only[cDF]
 exact key G _
theorem bB9 {n:Nat} {c:Code} {k:List XI} {body:St->List HLoc->Ty->Except Err T} {T':T}:(f:Nat)->{G:List HLoc}->ex.exLoop ow n dep c k f G σ body = .ok T' ->
  ∃σh vs tb G2,σh.facts=σ.facts/\σh.nx=σ.nx+1/\aWL (mpN σh.nr (prep σh.tm σh.es σ).nr (aKB σh.tm (prep σh.tm σh.es σ).tm σh.es (prep σh.tm σh.es σ).es)) σ.nx (dI (vs.map (·.1))) (pK vs) σh.tm (prep σh.tm σh.es σ).tm=true /\
   (σh.n==(prep σh.tm σh.es σ).n)=true/\bLN (mpN σh.nr (prep σh.tm σh.es σ).nr (aKB σh.tm (prep σh.tm σh.es σ).tm σh.es (prep σh.tm σh.es σ).es)) σ.nx (dI (vs.map (·.1))) (pK vs) σh.es (prep σh.tm σh.es σ).es=true /\
   (∀p∈ow,mpN σh.nr (prep σh.tm σh.es σ).nr (aKB σh.tm (prep σh.tm σh.es σ).tm σh.es (prep σh.tm σh.es σ).es) p.1=p.1)/\(pK vs).bd σ.nx=true/\(pK vs).okc=true /\
   body σh G2 (dI (vs.map (·.1))) = .ok tb/\T' = .loop (dI (vs.map (·.1))) (pK vs) tb
 | 0,G,h=>by simp[ex.exLoop] at h
 | f+1,G,h=>by
  simp only[ex.exLoop] at h
  split at h
  ·rename_i hc
   simp only[Bool.and_eq_true,List.all_eq_true,beq_iff_eq] at hc
   obtain⟨⟨⟨⟨⟨c1,c2⟩,c3⟩,c4⟩,c5⟩,c6⟩:=hc
   obtain⟨k1,k2⟩:=bTB σ G
   split at h
   ·rename_i tb hb
    simp only[Except.ok.injEq] at h
    exact⟨_,_,tb,_,k1,k2,c1,by simpa using c2,c3,c4,c5,c6,hb,h.symm⟩
   ·split at h
    ·exact bB9 f h
    ·cases h
   ·cases h
  ·cases h
def cI4 (P:Program) (Cs:List Con) (wr:Bool) (C:Con) (rs:List ResultVar) (ow:List (Nat×TypeId×MV)) (orc:Orc) (fn:Func) (R:Ending->World->Prop) (X:Cx) (g0:Gh) (Q:SV->Prop) (fuel:Nat):Prop :=
 ∀(dep:Nat) (items:List XI) (σ:St) (T':T) (env:List SV) (L:List (SV->Prop)) (γ:Gh) (β:Bt) (a:Act) (w:World),ex P Cs wr C rs ow orc fuel dep items σ = .ok T'->T'.wp Cs env L Q->env.length=σ.nx->L.length=dep ->
  (∀v∈env,v.okv)->StOK X g0 γ β env w σ a->aD4 P fn R X g0 L env dep items->Run P fn R items a w
variable {Q:SV->Prop} {fuel:Nat} {k:List XI} {T':T}
theorem cM8 (hg0:∀r v,g0 r=some v->∃p∈ow,p.1=r) {c:Code} {σh:St} {G:List HLoc} {t0:Ty} {lvl:Nat} (h:ex P Cs wr C rs ow orc (fuel+1) dep (.lp c σh G t0 lvl::k) σ = .ok T') (hw:T'.wp Cs env L Q)
  (he:∀v∈env,v.okv) (hst:StOK X g0 γ β env w σ a) (Bn:aD4 P fn R X g0 L env dep (.lp c σh G t0 lvl::k)):Run P fn R (.lp c σh G t0 lvl::k) a w:=by
 simp only[ex] at h
 split at h
 ·rename_i hc
  simp only[Bool.and_eq_true,List.all_eq_true,beq_iff_eq] at hc
  obtain⟨⟨⟨⟨⟨c1,c2⟩,c3⟩,c4⟩,c5⟩,c6⟩:=hc
  simp only[Except.ok.injEq] at h
  subst h
  obtain⟨⟨l1,l2,l3,l4⟩,l5⟩:=Bn
  simp only[T.wp] at hw
  split at hw
  ·rename_i I hI
   obtain⟨γ1,β1,p1,p2⟩:=hst.prep σh.tm σh.es
   obtain⟨γ2,β2,q1⟩:=p1.head (σh:=σh) l2 c1 (by simpa using c2) c3 (fun r v hr=>by
    obtain⟨p,hp,rfl⟩:=hg0 r v hr
    exact c4 p hp) l3
   refine Run.step (items':=.code c::.lp c σh G t0 lvl::k) (fun b cs=>step_inLoop) ?_
   exact l4 I hI _ hw (wZ (Ar.okv he _ c6)) _ _ _ _ q1
  ·exact hw.elim
 ·split at h<;>cases h
theorem cI3 (ih:cI4 P Cs wr C rs ow orc fn R X g0 Q fuel) {c:Operand} {x y:Code} (h:ex P Cs wr C rs ow orc (fuel+1) dep (.code (.cond c x y)::k) σ = .ok T') (hw:T'.wp Cs env L Q) (hn:env.length=σ.nx) (hL:L.length=dep)
  (he:∀v∈env,v.okv) (hst:StOK X g0 γ β env w σ a) (Bn:aD4 P fn R X g0 L env dep k):Run P fn R (.code (.cond c x y)::k) a w:=by
 simp only[ex] at h
 split at h
 ·rename_i av f1 f2 hsc
  have hv:=aFQ hst.vals c
  rw[hsc] at hv
  have hb:=aAY hv
  have go:∀{σ':St} {T'':T} (v:Bool),(av.val env).as .bool=v->ex P Cs wr C rs ow orc fuel dep (.code (if v then x else y)::k) σ' = .ok T''->T''.wp Cs env L Q->env.length=σ'.nx->StOK X g0 γ β env w σ' a->Run P fn R (.code (.cond c x y)::k) a w:=fun {σ' T''} v g1 g2 g3 g4 g5=>by
   have hr:Run P fn R (.code (if v then x else y)::k) a w:=ih _ _ _ _ _ _ _ _ _ _ g2 g3 g4 hL he g5 Bn
   exact hr.step (fun b cs=>step_cond (t:=v) (by rw[hb,g1]))
  split at h
  ·rename_i v hk
   exact go v (aOJ hst.facts hk) h hw hn hst
  ·split at h
   ·rename_i t1 h1
    split at h
    ·rename_i t2 h2
     simp only[Except.ok.injEq] at h
     subst h
     cases Bi:(av.val env).as .bool with
     | true=>exact go (σ':=σ.fact av true) true Bi h1 (hw.1 Bi) hn (hst.fact hv.1 Bi)
     | false=>exact go (σ':=σ.fact av false) false Bi h2 (hw.2 Bi) hn (hst.fact hv.1 Bi)
    ·cases h
   ·cases h
 ·cases h
theorem bZD (hC:∀(c:Nat) (C:Con),Cs[c]?=some C->Con.Holds P C) (Co:bXL P Cs wr X g0) (ih:cI4 P Cs wr C rs ow orc fn R X g0 Q fuel) {id:Nat} {ops:Array Oper} {draw:Bool}
  (h:ex P Cs wr C rs ow orc (fuel+1) dep (.code (.region id ops draw)::k) σ = .ok T') (hw:T'.wp Cs env L Q) (hn:env.length=σ.nx) (hL:L.length=dep)
  (he:∀v∈env,v.okv) (hst:StOK X g0 γ β env w σ a) (Bn:aD4 P fn R X g0 L env dep k):Run P fn R (.code (.region id ops draw)::k) a w:=by
 simp only[ex] at h
 split at h
 ·rename_i rt hrt
  split at h
  ·rename_i hg
   obtain⟨σF,e,p1,⟨t',p2,p3⟩,p4,p5⟩:=aGW hC rt (by rw[hn];exact hg) he (aK4 rt h hw)
   obtain⟨x,rfl⟩:=p1.ext
   obtain⟨β1,z1,z2,z3⟩:=StOK.frzAll (orc.reg fuel σ.key).2 hst
   have K6:=Co id ops draw _ _ rt env (env++x) σF γ β1 w a hrt p1 (by rw[z2];exact hn) (z1.ext x)
   intro b cs
   obtain⟨ex',a',w',⟨rfl,γ',β',Cm⟩,harr⟩:=K6 b (k.map XI.item) cs
   obtain⟨e2,a2,w2,r1,r2⟩:=ih _ _ _ _ _ _ _ _ _ _ p2 p3 p5.symm hL p4 Cm (Bn.more x) b cs
   exact⟨e2,a2,w2,r1,.of_steps harr r2⟩
  ·cases h
 ·cases h
 ·cases h
theorem cFZ (hg0:∀r v,g0 r=some v->∃p∈ow,p.1=r) (ih:cI4 P Cs wr C rs ow orc fn R X g0 Q fuel) {c:Code} (h:ex P Cs wr C rs ow orc (fuel+1) dep (.code (.loop c)::k) σ = .ok T') (hw:T'.wp Cs env L Q) (hn:env.length=σ.nx) (hL:L.length=dep)
  (he:∀v∈env,v.okv) (hst:StOK X g0 γ β env w σ a) (Bn:aD4 P fn R X g0 L env dep k):Run P fn R (.code (.loop c)::k) a w:=by
 simp only[ex] at h
 obtain⟨σh,vs,tb,G2,k1,k2,c1,c2,c3,c4,c5,c6,hb,rfl⟩:=bB9 12 h
 obtain⟨I,μ,hI,hbody⟩:=hw
 have hnx:σh.nx - 1=env.length:=by omega
 have Cw:∀p∈σh.facts,p.1.bd env.length=true/\(p.1.val env).as .bool=p.2:=by rw[k1];exact hst.facts
 have claim:∀(m:Nat) (x:(dI (vs.map (·.1))).D),μ x=m->okD _ x->I x->∀γ β a w,StOK X g0 γ β (env++[⟨_,x⟩]) w σh a->Run P fn R (.code c::.lp c σh G2 (dI (vs.map (·.1))) dep::k) a w:=by
  intro m
  induction m using Nat.strongRecOn with
  | _ m ihm =>
   intro x hm hx Di γ β a w hs
   refine ih _ _ _ _ _ _ _ _ _ _ hb (hbody x hx Di) (by simp;omega) (by simp[hL]) (fun v hv=>?_) hs ⟨⟨Nat.lt_succ_self _,by simp;omega,?_,fun J hJ v hv hok γ β a w hs'=>?_⟩,?_⟩
   ·rw[List.mem_append,List.mem_singleton] at hv
    rcases hv with hv|rfl
    ·exact he v hv
    ·exact hx
   ·rw[hnx,List.take_left];exact Cw
   ·simp only[Nat.add_sub_cancel,Nat.sub_self,List.getElem?_cons_zero,eW] at hJ
    subst hJ
    rw[hnx,List.take_left] at hs'
    exact ihm _ (by rw[<-hm];exact hv.2) _ rfl hok hv.1 γ β a w hs'
   ·exact(Bn.deep _).more _
 obtain⟨γ1,β1,n1,n2⟩:=hst.prep σh.tm σh.es
 obtain⟨γ2,β2,q1⟩:=n1.head (σh:=σh) (n:=σ.nx) (Nat.le_of_eq hn.symm) c1 c2 c3 (fun r v hr=>by
  obtain⟨p,hp,rfl⟩:=hg0 r v hr
  exact c4 p hp) (by rw[<-hn,List.take_length];exact Cw)
 rw[<-hn,List.take_length] at q1
 have hr:=claim _ _ rfl (wZ (Ar.okv he _ c6)) hI _ _ _ _ q1
 exact hr.step (fun b cs=>step_loop)
theorem cMA (hC:∀(c:Nat) (C:Con),Cs[c]?=some C->Con.Holds P C) (Co:bXL P Cs wr X g0) (hg0:∀r v,g0 r=some v->∃p∈ow,p.1=r)
  (hret:∀σ T' env L γ β w a,bRB P C rs ow σ = .ok T'->T'.wp Cs env L Q->env.length=σ.nx->(∀v∈env,v.okv)->StOK X g0 γ β env w σ a->∃v,(results fn a.tmps).run P w = .ok v w/\R (.returned v) w) :
  ∀fuel,cI4 P Cs wr C rs ow orc fn R X g0 Q fuel:=by
 intro fuel
 induction fuel with
 | zero=>intro dep items σ T' env L γ β a w h;simp[ex] at h
 | succ fuel ih =>
  intro dep items σ T' env L γ β a w h hw hn hL he hst Bn
  cases items with
  | nil =>
   simp only[ex] at h
   obtain⟨v,h1,h2⟩:=hret _ _ _ _ _ _ _ _ h hw hn he hst
   exact fun b cs=>⟨.normal,a,w,⟨hst.nodef,v,h1,h2⟩,Steps.refl _ _⟩
  | cons i k =>
   cases i with
   | blk id =>
    simp only[ex] at h
    have hr:=ih _ _ _ _ _ _ _ _ _ _ h hw hn hL he hst Bn
    exact hr.step (fun b cs=>step_inBlock)
   | lp c σh G t0 lvl=>exact cM8 hg0 h hw he hst Bn
   | code c =>
    cases c with
    | skip =>
     simp only[ex] at h
     have hr:=ih _ _ _ _ _ _ _ _ _ _ h hw hn hL he hst Bn
     exact hr.step (fun b cs=>step_skip)
    | seq x y =>
     simp only[ex] at h
     have hr:=ih _ _ _ _ _ _ _ _ _ _ h hw hn hL he hst Bn
     exact hr.step (fun b cs=>step_seq)
    | block id c =>
     simp only[ex] at h
     have hr:=ih _ _ _ _ _ _ _ _ _ _ h hw hn hL he hst Bn
     exact hr.step (fun b cs=>step_block)
    | exit id =>
     simp only[ex] at h
     split at h
     ·rename_i k' hk
      have hr:=ih _ _ _ _ _ _ _ _ _ _ h hw hn hL he hst (aD4.exit hk Bn)
      exact hr.step (fun b cs=>step_exit (aVQ hk))
     ·cases h
    | ret =>
     simp only[ex] at h
     obtain⟨v,h1,h2⟩:=hret _ _ _ _ _ _ _ _ h hw hn he hst
     exact fun b cs=>⟨.ret,a,w,⟨hst.nodef,v,h1,h2⟩,_,.one step_ret⟩
    | cond c x y=>exact cI3 ih h hw hn hL he hst Bn
    | region id ops draw=>exact bZD hC Co ih h hw hn hL he hst Bn
    | loop c=>exact cFZ hg0 ih h hw hn hL he hst Bn
    | _=>cases h
end
def bWW (a:Act):ResultVar->Sem Value
 | .tmp t=>pure (a.tmps.getD t undef)
 | .cell c T=>do loadVar T (<-asAddr (a.tmps.getD c undef))
def RV (P:Program) (a:Act) (w:World) (r:ResultVar) (v:Value):Prop:=(bWW a r).run P w = .ok v w
def RVs (P:Program) (a:Act) (w:World):List ResultVar->List Value->Prop
 | [],vs=>vs=[]
 | r::rs,vs=>∃v vs',vs=v::vs'/\RV P a w r v/\RVs P a w rs vs'
section
variable {P:Program} {X:Cx} {g0 γ:Gh} {β:Bt} {O:List Nat} {env:List SV} {a:Act} {w:World} {σ:St}
theorem bTS {fn:Func} {vs:List Value} (h:RVs P a w fn.results.toList vs):(results fn a.tmps).run P w = .ok (bC0 vs) w:=by
 have key:∀(rs:List ResultVar) (vs:List Value),RVs P a w rs vs->(rs.mapM (bWW a)).run P w = .ok vs w:=by
  intro rs
  induction rs with
  | nil=>intro vs h;subst h;rfl
  | cons r rs ih =>
   intro vs h
   obtain⟨v,vs',rfl,h1,h2⟩:=h
   rw[List.mapM_cons,Sem.run_bind,show(bWW a r).run P w = .ok v w from h1]
   simp only[Result.andThen_ok]
   rw[Sem.run_bind,ih vs' h2]
   rfl
 show((fn.results.mapM (bWW a)) >>= fun vs=>pure (if h:vs.size=1 then vs[0] else .tuple vs)).run P w=_
 rw[Array.mapM_eq_mapM_toList]
 simp only[map_eq_pure_bind,Sem.run_bind,key _ _ h,Result.andThen_ok,Sem.run_pure]
 match vs with
 | []=>rfl
 | [v]=>rfl
 | v::u::vs=>rfl
theorem cCH (hst:StOK X g0 γ β env w σ a):{rs:List ResultVar}->{cs:List Sh}->(rs.mapM fun
  | .tmp t=>some (σ.at' t)
  | .cell c T=>match σ.at' c with
   | .pbox r off=>match fL σ.es r with
    | some (.box _ ls)=>bBA P T ls off
    | _=>none
   | _=>none)=some cs->∃vs,RVs P a w rs vs/\cs.length=rs.length/\vs.length=rs.length/\∀t,bU X γ (Os γ σ.es) env w (cs.getD t .no) (vs.getD t undef)
 | [],cs,h=>by
  simp at h
  subst h
  exact⟨[],rfl,rfl,rfl,fun t=>trivial⟩
 | r::rs,cs,h=>by
  rw[List.mapM_cons] at h
  simp only[Option.bind_eq_bind,Option.bind_eq_some_iff,Option.pure_def,eW] at h
  obtain⟨s,h1,cs',h2,rfl⟩:=h
  obtain⟨vs,i1,i2,i3,i4⟩:=cCH hst h2
  have:∃v,RV P a w r v/\bU X γ (Os γ σ.es) env w s v:=by
   cases r with
   | tmp t =>
    simp only[eW] at h1
    subst h1
    exact⟨_,rfl,hst.vals t⟩
   | cell c T =>
    simp only at h1
    split at h1
    ·rename_i r off hsh
     split at h1
     ·rename_i T0 ls hlk
      have hv:=hst.vals c
      rw[hsh] at hv
      obtain⟨b,hb,hv⟩:=hv
      obtain⟨b',cells,e1,e2,e3,e4⟩:=hst.mem.ent _ (mN hlk)
      simp only at e1
      rw[hb] at e1
      simp only[eW,Value.pointer.injEq,Addr.mk.injEq,and_true] at e1
      subst e1
      obtain⟨i,hi,hl,hval⟩:=aOL h1 e3
      refine⟨_,?_,hval⟩
      have L4:=(uH hi).load b off ((cells.toList.drop off).take i.t.n) (by simp at hl⊢;omega) w (fun j hj=>by
       have hj':j<i.t.n/\off+j<cells.size:=by simp at hj;omega
       simp only[World.cell?,e2,Option.isSome_none,Bool.false_eq_true,if_false,List.getElem_take,List.getElem_drop]
       rw[<-Array.getElem?_toList,List.getElem?_eq_getElem (by simpa using hj'.2)])
      show((asAddr (a.tmps.getD c undef)) >>= fun p=>loadVar T p).run P w=_
      rw[hv]
      simp only[asAddr,pure_bind]
      exact L4
     ·cases h1
    ·cases h1
  obtain⟨v,v1,v2⟩:=this
  refine⟨v::vs,⟨v,vs,rfl,v1,i1⟩,by simp[i2],by simp[i3],fun t=>?_⟩
  cases t with
  | zero=>exact v2
  | succ t=>exact i4 t
theorem cBO (hg:lF γ) {m:MV} {ar:Ar} {fr:Bool} {nr:Nat} {v:Value} (h0:0<nr) (hno:bBX m.ag (aQ m.t ar fr m.fl nr).1 ≠ .no) (hv:bU X γ O env w (bBX m.ag (aQ m.t ar fr m.fl nr).1) v)
  (he:∀p∈(aQ m.t ar fr m.fl nr).2.1,jS X γ β O env w p.1 p.2) :
  v=mkV m.ag v.cells.toList/\mvR (Gd X O w fr) w m.t m.fl v.cells.toList ((ar.val env).as m.t) (Os γ (aQ m.t ar fr m.fl nr).2.1) (Us β (aQ m.t ar fr m.fl nr).2.1):=by
 have fin:bG X γ O env w (aQ m.t ar fr m.fl nr).1 v.cells.toList->mvR (Gd X O w fr) w m.t m.fl v.cells.toList ((ar.val env).as m.t) (Os γ (aQ m.t ar fr m.fl nr).2.1) (Us β (aQ m.t ar fr m.fl nr).2.1):=fun h=>by
  obtain⟨c1,c2,hc,h1,h2⟩:=bXP hg m.t (fl:=m.fl) (ls:=[]) h0 (by rw[List.append_nil];exact h) he
  have h2':c2=[]:=h2
  subst h2'
  rw[hc,List.append_nil]
  exact h1
 unfold bBX at hv hno
 cases hag:m.ag
 ·rw[hag] at hv hno
  simp only[Bool.false_eq_true,if_false] at hv hno
  split at hv
  ·rename_i l hl
   have J3:kJ X γ O env w l v:=hv
   have hc:=aGP J3 (fun r u h=>hg r u h)
   have hcl:v.cells.toList=[v]:=by rw[hc]
   refine⟨by rw[hcl];rfl,fin ?_⟩
   rw[hl,hcl]
   exact⟨v,[],rfl,J3,rfl⟩
  ·rename_i hne
   split at hno
   ·rename_i l hl;exact absurd hl (hne l)
   ·exact absurd rfl hno
 ·rw[hag] at hv
  simp only[if_true] at hv
  obtain⟨cs,rfl,hl⟩:=hv
  exact⟨by simp[mkV,Value.cells],fin hl⟩
theorem bK8 (hg:lF γ) {fr:Bool}:(ms:List MV)->{as':List Ar}->{nr:Nat}->{vs:List Value}->{ds:List SV}->0<nr->as'.length=ms.length->vs.length=ms.length->ds.length=ms.length ->
  (∀t,bU X γ O env w ((fI ms as' fr nr).1.getD t .no) (vs.getD t undef))->(∀s∈(fI ms as' fr nr).1,cDD s=true)->(∀p∈(fI ms as' fr nr).2.1,jS X γ β O env w p.1 p.2) ->
  (∀(k:Nat) (a:Ar) (m:MV) (d:SV),as'[k]?=some a->ms[k]?=some m->ds[k]?=some d->(a.val env).as m.t=d.as m.t) ->
  aKA (Gd X O w fr) w (ms.map .val) vs ds (Os γ (fI ms as' fr nr).2.1) (Us β (fI ms as' fr nr).2.1)
 | [],[],nr,[],ds,h0,_,_,_,hv,hno,he,hd=>⟨rfl,rfl,rfl⟩
 | m::ms,ar::as',nr,v::vs,d::ds,h0,l1,l2,l3,hv,hno,he,hd=>by
  obtain⟨n1,n2,n3⟩:=jI m.t ar fr m.fl nr
  have e:fI (m::ms) (ar::as') fr nr=(bBX m.ag (aQ m.t ar fr m.fl nr).1::(fI ms as' fr (aQ m.t ar fr m.fl nr).2.2.2).1,
   (aQ m.t ar fr m.fl nr).2.1++(fI ms as' fr (aQ m.t ar fr m.fl nr).2.2.2).2.1,(fI ms as' fr (aQ m.t ar fr m.fl nr).2.2.2).2.2):=rfl
  rw[e] at hv hno he⊢
  simp only at hv hno he⊢
  obtain⟨p1,p2⟩:=cBO hg h0 (fun h=>by have:=hno _ (List.mem_cons_self ..);rw[h] at this;cases this) (hv 0) (fun p hp=>he p (by simp[hp]))
  have ih:=bK8 hg ms (as':=as') (nr:=(aQ m.t ar fr m.fl nr).2.2.2) (vs:=vs) (ds:=ds) (by omega) (by simpa using l1) (by simpa using l2) (by simpa using l3) (fun t=>hv (t+1)) (fun s hs=>hno s (by simp[hs])) (fun p hp=>he p (by simp[hp]))
   (fun k a m d ha hm hds=>hd (k+1) a m d (by simpa using ha) (by simpa using hm) (by simpa using hds))
  refine⟨v,vs,d,ds,_,_,_,_,rfl,rfl,fJ _ _,iJ _ _,p1,?_,ih⟩
  rw[<-hd 0 ar m d rfl rfl rfl]
  exact p2
 | [],_::_,_,_,_,_,l1,_,_,_,_,_,_=>by simp at l1
 | _::_,[],_,_,_,_,l1,_,_,_,_,_,_=>by simp at l1
 | [],[],_,_::_,_,_,_,l2,_,_,_,_,_=>by simp at l2
 | _::_,_::_,_,[],_,_,_,l2,_,_,_,_,_=>by simp at l2
 | _::_,_::_,_,_::_,[],_,_,_,l3,_,_,_,_=>by simp at l3
def aPY (γ:Gh):List (Nat×TypeId×MV)->List (Nat×TypeId×MV)->Prop
 | [],bs=>bs=[]
 | (r,T,m)::ow,bs=>∃b bs',bs=(b,T,m)::bs'/\γ r=some (.pointer (some ⟨b,0,none⟩))/\aPY γ ow bs'
theorem aPY.mono {γ':Gh}:{ow bs:List (Nat×TypeId×MV)}->(∀p∈ow,∀v,γ p.1=some v->γ' p.1=some v)->aPY γ ow bs->aPY γ' ow bs
 | [],bs,hx,h=>h
 | (r,T,m)::ow,bs,hx,⟨b,bs',h1,h2,h3⟩=>⟨b,bs',h1,hx (r,T,m) (by simp) _ h2,aPY.mono (fun p hp=>hx p (by simp[hp])) h3⟩
theorem aSM (hg:lF γ) {fr:Bool}:(ow:List (Nat×TypeId×MV))->{as':List Ar}->{nr:Nat}->{bs:List (Nat×TypeId×MV)}->{ds:List SV}->0<nr->as'.length=ow.length->ds.length=ow.length->aPY γ ow bs ->
  (∀p∈(eH ow as' fr nr).1,jS X γ β O env w p.1 p.2)->(∀(k:Nat) (a:Ar) (b:Nat×TypeId×MV) (d:SV),as'[k]?=some a->ow[k]?=some b->ds[k]?=some d->(a.val env).as b.2.2.t=d.as b.2.2.t) ->
  cH5 (Gd X O w fr) w bs ds (Os γ (eH ow as' fr nr).1) (Us β (eH ow as' fr nr).1)
 | [],[],nr,bs,ds,h0,_,_,hb,he,hd=>by
  have hb':bs=[]:=hb
  subst hb'
  exact⟨rfl,rfl⟩
 | (r,T,m)::ow,ar::as',nr,bs,d::ds,h0,l1,l2,⟨b,bs',hbs,hr,Ei⟩,he,hd=>by
  subst hbs
  obtain⟨n1,n2,n3⟩:=jI m.t ar fr m.fl nr
  have e:eH ((r,T,m)::ow) (ar::as') fr nr=((r,.box T (aQ m.t ar fr m.fl nr).1)::((aQ m.t ar fr m.fl nr).2.1++(eH ow as' fr (aQ m.t ar fr m.fl nr).2.2.2).1),(eH ow as' fr (aQ m.t ar fr m.fl nr).2.2.2).2):=rfl
  rw[e] at he⊢
  simp only at he⊢
  obtain⟨b',c,e1,e2,e3,e4⟩:=he (r,.box T (aQ m.t ar fr m.fl nr).1) (by simp)
  simp only at e1 e4
  rw[hr] at e1
  simp only[eW,Value.pointer.injEq,Addr.mk.injEq,and_true] at e1
  subst e1
  obtain⟨c1,c2,hc,h1,h2⟩:=bXP hg m.t (fl:=m.fl) (ls:=[]) h0 (by rw[List.append_nil];exact e3) (fun p hp=>he p (List.mem_cons_of_mem _ (List.mem_append_left _ hp)))
  have h2':c2=[]:=h2
  subst h2'
  rw[List.append_nil] at hc
  rw[<-hc] at h1
  have ih:=aSM hg ow (as':=as') (nr:=(aQ m.t ar fr m.fl nr).2.2.2) (ds:=ds) (by omega) (by simpa using l1) (by simpa using l2) Ei (fun p hp=>he p (List.mem_cons_of_mem _ (List.mem_append_right _ hp)))
   (fun k a b d ha hm hds=>hd (k+1) a b d (by simpa using ha) (by simpa using hm) (by simpa using hds))
  refine⟨c,d,ds,Os γ (aQ m.t ar fr m.fl nr).2.1,_,Us β (aQ m.t ar fr m.fl nr).2.1,_,rfl,?_,?_,e2,?_,ih⟩
  ·rw[aGR,fJ]
   simp[oC,hr,lY]
  ·rw[aJ4,iJ]
   simp[e4]
  ·rw[<-hd 0 ar (r,T,m) d rfl rfl rfl]
   exact h1
 | [],_::_,_,_,_,_,l1,_,_,_,_=>by simp at l1
 | _::_,[],_,_,_,_,l1,_,_,_,_=>by simp at l1
 | _::_,_::_,_,_,[],_,_,l2,_,_,_=>by simp at l2
end
section
variable {P:Program} {Cs:List Con} {X:Cx} {g0 γ:Gh} {β:Bt} {O:List Nat} {env:List SV} {a:Act} {w:World} {σ:St} {L:List (SV->Prop)} {C:Con} {rs:List ResultVar} {ow:List (Nat×TypeId×MV)} {T':T}
def cEQ (p:Sh×MV):Sh:=match p.1,p.2.t with | .nilS,.slice e t=>.one (.nl e t)|s,_=>s
theorem cG8 (p:Sh×MV) {v:Value} (h:bU X γ O env w p.1 v):bU X γ O env w (cEQ p) v:=by
 obtain⟨s,m⟩:=p
 unfold cEQ
 split
 ·rename_i e t h1 h2
  simp only at h1
  subst h1
  exact⟨none,h⟩
 ·exact h
theorem bA9:(l:List Sh)->(n t:Nat)->gX (wC n l) (n+t)=l.getD t .no
 | [],n,t=>rfl
 | s::l,n,t=>by
  cases t with
  | zero=>exact aA1
  | succ t =>
   show gX ((n,s)::wC (n+1) l) (n+(t+1))=_
   rw[uV (by omega),show n+(t+1)=n+1+t by omega,bA9 l (n+1) t]
   rfl
theorem aSU (l:List Sh) (t:Nat):gX (wC 0 l) t=l.getD t .no:=by
 have:=bA9 l 0 t
 rwa [Nat.zero_add] at this
theorem cH2 {x:C.argTy.D} {vs0 vs:List Value} {he:Es} {hs:List Sh} {hT:Tm} {ps:List Ar} {fr:Bool} {m:Nat->Nat} {q:Ar} {σ1:St} (hst:StOK X g0 γ β env w σ1 ⟨vs.toArray,[]⟩) (hps:ps=gP (C.rms.map (·.t)++ow.map (·.2.2.t)) (.Z 0))
  (J5:hs=(fI C.rms ps fr 1000000).1) (L9:hT=wC 0 hs) (Gr:he=(fI C.rms ps fr 1000000).2.1++(eH ow (ps.drop C.rms.length) false (fI C.rms ps fr 1000000).2.2).1) (Aa:fr = !C.alias) (hl:vs.length=C.rms.length)
  (hty:dI (C.rms.map (·.t)++ow.map (·.2.2.t))=C.resTy) (Fa:ow.map (·.2.2)=aBZ C.ams) (F9:aPY g0 ow (zW C.ams vs0))
  (De:C.bx=none) (hq:(q.val env).as C.resTy=C.fn x) (c1:aWL m 0 C.resTy q hT σ1.tm=true) (c4:∀s∈hs,cDD s=true) (c5:bLN m 0 C.resTy q he σ1.es=true) (c6:∀p∈ow,m p.1=p.1):cJV X C vs0 x (bC0 vs) w:=by
 obtain⟨m1,m2,m3⟩:=bWU (Nat.zero_le _) hst.mem hst.keys c5
 have hv:∀t,bU X (fun r=>γ (m r)) (Os (fun r=>γ (m r)) he) (env.take 0++[⟨C.resTy,(q.val env).as C.resTy⟩]) w (hs.getD t .no) (vs.getD t undef):=fun t=>by
  have:=bWG (t0:=C.resTy) (q:=q) (Nat.zero_le _) m3 (bDN c1 t) (hst.vals t)
  rw[L9,aSU] at this
  simpa using this
 have hg:lF (fun r=>γ (m r)):=fun r v h=>hst.gh _ v h
 generalize hγ:(fun r=>γ (m r))=γ2 at m1 m3 hv hg
 generalize aPH m β he=β2 at m1
 rw[List.take_zero,List.nil_append,hq] at m1 hv
 generalize hE:([⟨C.resTy,C.fn x⟩]:List SV)=E at m1 hv
 have F8:aPY γ2 ow (zW C.ams vs0):=F9.mono fun p hp v h=>by
  rw[<-hγ]
  show γ (m p.1)=some v
  rw[c6 p hp]
  exact hst.base _ _ h
 have hpl:ps.length=C.rms.length+ow.length:=by rw[hps,vN];simp
 have E4:(C.rms++aBZ C.ams).map (·.t)=C.rms.map (·.t)++ow.map (·.2.2.t):=by rw[<-Fa];simp
 generalize hds:gA ((C.rms++aBZ C.ams).map (·.t)) (SV.as _ ⟨C.resTy,C.fn x⟩)=ds
 have Il:ds.length=C.rms.length+ow.length:=by rw[<-hds,aLM,E4];simp
 have Dk:∀(k:Nat) (b:Ar) (t:Ty) (d:SV),ps[k]?=some b->(C.rms.map (·.t)++ow.map (·.2.2.t))[k]?=some t->ds[k]?=some d->(b.val E).as t=d.as t:=fun k b t d h1 h2 h3=>by
  refine aBY (env:=E) _ (.Z 0) k b t d (by rw[<-hps];exact h1) h2 ?_
  have e1:((Ar.Z 0).val E)=⟨C.resTy,C.fn x⟩:=by rw[<-hE];rfl
  rw[e1]
  rw[<-hds] at h3
  rw[aNJ E4] at h3
  exact h3
 have Aw:fI C.rms ps fr 1000000=fI C.rms (ps.take C.rms.length) fr 1000000:=aU9 _ _ _ _
 have Bd:Os γ2 he=Os γ2 (fI C.rms ps fr 1000000).2.1++Os γ2 (eH ow (ps.drop C.rms.length) false (fI C.rms ps fr 1000000).2.2).1:=by rw[Gr,fJ]
 have Br:Us β2 he=Us β2 (fI C.rms ps fr 1000000).2.1++Us β2 (eH ow (ps.drop C.rms.length) false (fI C.rms ps fr 1000000).2.2).1:=by rw[Gr,iJ]
 have hle:1000000<=(fI C.rms ps fr 1000000).2.2:=by
  rw[Aw,(aFY C.rms (ps.take C.rms.length) fr 1000000 (by simp;omega)).1]
  omega
 have A:=bK8 (X:=X) (O:=Os γ2 he) (env:=E) (w:=w) (β:=β2) hg (fr:=fr) C.rms (as':=ps.take C.rms.length) (nr:=1000000) (vs:=vs) (ds:=ds.take C.rms.length) (by decide) (by simp;omega) hl (by simp;omega)
  (fun t=>by rw[<-Aw,<-J5];exact hv t) (fun s hs'=>by rw[<-Aw,<-J5] at hs';exact c4 s hs') (fun p hp=>m1.ent p (by rw[<-Aw] at hp;rw[Gr];exact List.mem_append_left _ hp))
  (fun k a m d ha hm hd=>by
   have hk:k<C.rms.length:=(List.getElem?_eq_some_iff.1 hm).1
   rw[List.getElem?_take,if_pos hk] at ha hd
   exact Dk k a m.t d ha (by rw[List.getElem?_append_left (by simpa using hk)];simp[hm]) hd)
 have Bx:=aSM (X:=X) (O:=Os γ2 he) (env:=E) (w:=w) (β:=β2) hg (fr:=false) ow (as':=ps.drop C.rms.length) (nr:=(fI C.rms ps fr 1000000).2.2) (ds:=ds.drop C.rms.length) (by omega) (by simp;omega) (by simp;omega) F8
  (fun p hp=>m1.ent p (by rw[Gr];exact List.mem_append_right _ hp))
  (fun k a b d ha hb hd=>by
   rw[List.getElem?_drop] at ha hd
   refine Dk _ a b.2.2.t d ha ?_ hd
   rw[List.getElem?_append_right (by simp)]
   simp[hb])
 rw[<-Aw] at A
 refine⟨vs,Os γ2 (fI C.rms ps fr 1000000).2.1,Us β2 (fI C.rms ps fr 1000000).2.1,Os γ2 (eH ow (ps.drop C.rms.length) false (fI C.rms ps fr 1000000).2.2).1,Us β2 (eH ow (ps.drop C.rms.length) false (fI C.rms ps fr 1000000).2.2).1,
  rfl,hst.frame,?_,?_,?_,?_,?_⟩
 ·rw[hds,<-Bd,<-Aa,Con.ras_none De];exact A
 ·rw[hds,<-Bd];exact Bx
 ·rw[<-Bd,<-Br];exact m1.nd
 ·rw[<-Bd];exact m1.at'
 ·rw[<-Bd,<-Br];exact m1.good
theorem cES {fn:Func} {x:C.argTy.D} {vs0:List Value} (hrs:fn.results.toList=rs) (hty:dI (C.rms.map (·.t)++ow.map (·.2.2.t))=C.resTy) (Fa:ow.map (·.2.2)=aBZ C.ams) (F9:aPY g0 ow (zW C.ams vs0)) (De:C.bx=none)
  (h:bRB P C rs ow σ = .ok T') (hw:T'.wp Cs env L (fun v=>v.as C.resTy=C.fn x)) (hst:StOK X g0 γ β env w σ a) :
  ∃v,(results fn a.tmps).run P w = .ok v w/\∃u,Ending.returned v = .returned u/\cJV X C vs0 x u w:=by
 unfold bRB at h
 simp only at h
 split at h
 ·cases h
 ·rename_i cs0 Ee
  obtain⟨vs,r1,r2,r3,r4⟩:=cCH hst Ee
  split at h
  ·rename_i ars f ks bs A1 hbs
   split at h
   ·rename_i hc
    simp only[Except.ok.injEq] at h
    subst h
    simp only[Bool.and_eq_true,beq_iff_eq,decide_eq_true_eq,List.all_eq_true] at hc
    obtain⟨⟨⟨⟨⟨⟨c1,c3,c4⟩,c5⟩,c6⟩,c7⟩,c8⟩,c9⟩:=hc
    have K8:StOK X g0 γ β env w { σ with tm:=wC 0 ((cs0.zip C.rms).map cEQ),n:=((cs0.zip C.rms).map cEQ).length } ⟨vs.toArray,[]⟩:=by
     refine⟨hst.mem,hst.keys,hst.frame,hst.gh,by simp;omega,fun t=>?_,hst.facts,hst.fresh,rfl,hst.base⟩
     have h4:=r4 t
     show bU X γ _ env w (gX (wC 0 ((cs0.zip C.rms).map cEQ)) t) _
     rw[aSU]
     have ev:(vs.toArray.getD t undef)=vs.getD t undef:=by simp
     rw[ev]
     rw[List.getD_eq_getElem?_getD,List.getElem?_map]
     cases hz:(cs0.zip C.rms)[t]? with
     | none=>exact trivial
     | some p =>
      simp only[Option.map_some,Option.getD_some]
      refine cG8 p ?_
      have:cs0[t]?=some p.1:=by
       rw[List.getElem?_zip_eq_some] at hz
       exact hz.1
      rw[List.getD_eq_getElem?_getD,this] at h4
      exact h4
    obtain⟨γ1,β1,p1,p2⟩:=K8.prep _ _
    exact⟨_,bTS (hrs ▸ r1),_,rfl,cH2 p1 rfl rfl rfl rfl rfl (by omega) hty Fa F9 De hw c1 c4 c5 c6⟩
   ·cases h
  ·cases h
end
section
variable {P:Program} {Cs:List Con} {X:Cx} {g0 γ:Gh} {β:Bt} {O:List Nat} {env:List SV} {a:Act} {w:World} {σ:St} {L:List (SV->Prop)} {C:Con} {T':T} {G:Nat->Prop}
theorem bW9 (m:MV) (ms:List AM) (ar:Ar) (as':List Ar) (nr:Nat):qN (.val m::ms) (ar::as') nr =
 (bBX m.ag (aQ m.t ar (aVA m) m.fl nr).1::(qN ms as' (aQ m.t ar (aVA m) m.fl nr).2.2.2).1,(aQ m.t ar (aVA m) m.fl nr).2.1++(qN ms as' (aQ m.t ar (aVA m) m.fl nr).2.2.2).2.1,
  (qN ms as' (aQ m.t ar (aVA m) m.fl nr).2.2.2).2.2.1,(qN ms as' (aQ m.t ar (aVA m) m.fl nr).2.2.2).2.2.2):=rfl
theorem bTK (T:TypeId) (m:MV) (ms:List AM) (ar:Ar) (as':List Ar) (nr:Nat):qN (.box T m::ms) (ar::as') nr =
 (.pbox nr 0::(qN ms as' (aQ m.t ar false m.fl (nr+1)).2.2.2).1,(nr,.box T (aQ m.t ar false m.fl (nr+1)).1)::((aQ m.t ar false m.fl (nr+1)).2.1++(qN ms as' (aQ m.t ar false m.fl (nr+1)).2.2.2).2.1),
  (nr,T,m)::(qN ms as' (aQ m.t ar false m.fl (nr+1)).2.2.2).2.2.1,(qN ms as' (aQ m.t ar false m.fl (nr+1)).2.2.2).2.2.2):=rfl
theorem cC2 {m:MV} {cs:List Value} {d:m.t.D} {o u:List Nat} (hG:∀b,G b->Gd X O w false b) (hU:∀b∈u,Gd X O w true b) (h:mvR G w m.t m.fl cs d o u):∃G2:Nat->Prop,(∀b,G2 b->Gd X O w (aVA m) b)/\mvR G2 w m.t m.fl cs d o u:=by
 by_cases ho:aVA m=true
 ·rw[ho]
  refine⟨fun b=>b∈u,hU,?_⟩
  obtain⟨ag,t,fl⟩:=m
  unfold aVA at ho
  split at ho
  ·rename_i e t' h1 h2
   dsimp only at h1 h2 h d⊢
   subst h1 h2
   obtain⟨g1,g2,_⟩:=h
   exact⟨g1,g2,Un.rdg _ _ _ _ g2⟩
  ·cases ho
 ·rw[Bool.not_eq_true] at ho
  rw[ho]
  exact⟨G,hG,h⟩
theorem aYW (hG:∀b,G b->Gd X O w false b):(ms:List AM)->{as':List Ar}->{nr:Nat}->{γ:Gh}->{β:Bt}->{vs:List Value}->{ds:List SV}->{ob ub:List Nat}->(∀b∈ub,Gd X O w true b)->lF γ ->
  (∀r,nr<=r->γ r=none)->aKA G w ms vs ds ob ub->as'.length=ms.length->(∀a∈as',a.bd env.length=true) ->
  (∀(k:Nat) (a:Ar) (m:AM) (d:SV),as'[k]?=some a->ms[k]?=some m->ds[k]?=some d->(a.val env).as m.mv.t=d.as m.mv.t) ->
  ∃γ' β',lF γ'/\(∀r v,γ r=some v->γ' r=some v)/\(∀r,r<nr->γ' r=γ r/\β' r=β r)/\(∀r,(qN ms as' nr).2.2.2<=r->γ' r=none)/\nr<=(qN ms as' nr).2.2.2 /\
   xW X γ' O env w (qN ms as' nr).1 vs/\Os γ' (qN ms as' nr).2.1=ob/\Us β' (qN ms as' nr).2.1=ub/\(∀p∈(qN ms as' nr).2.1,jS X γ' β' O env w p.1 p.2) /\
   aPY γ' (qN ms as' nr).2.2.1 (zW ms vs)/\(qN ms as' nr).2.2.1.map (·.2.2)=aBZ ms
 | [],[],nr,γ,β,vs,ds,ob,ub,hU,hg,hf,⟨h1,h2,h3⟩,_,_,_=>by
  subst h1 h2 h3
  exact⟨γ,β,hg,fun _ _ h=>h,fun _ _=>⟨rfl,rfl⟩,hf,Nat.le_refl _,rfl,rfl,rfl,fun p hp=>by simp[qN] at hp,rfl,rfl⟩
 | .val m::ms,ar::as',nr,γ,β,vs,ds,ob,ub,hU,hg,hf,h,hl,hb,hd=>by
  obtain⟨v,vs',d,ds',o1,o2,u1,u2,rfl,rfl,rfl,rfl,hv,h1,h2⟩:=h
  obtain⟨n1,n2,n3⟩:=jI m.t ar (aVA m) m.fl nr
  rw[bW9]
  simp only
  obtain⟨G2,Mx,h1⟩:=cC2 hG (fun b hb=>hU b (by simp[hb])) h1
  obtain⟨γ1,β1,i1,i2,i3,i4,i5,i6,i7⟩:=bDH (X:=X) (O:=O) (env:=env) (fr:=aVA m) Mx m.t (a:=ar) (nr:=nr) (β:=β) hg (fun r h1 h2=>hf r h1) h1 (hb ar (by simp)) (hd 0 ar (.val m) d rfl rfl rfl)
  obtain⟨γ2,β2,j1,j2,j3,j4,j5,j6,j7,j8,j9,j10,j11⟩:=aYW hG ms (as':=as') (nr:=(aQ m.t ar (aVA m) m.fl nr).2.2.2) (γ:=γ1) (β:=β1) (fun b hb=>hU b (by simp[hb])) i1 (fun r h1=>by rw[(i3 r (by omega)).1];exact hf r (by omega)) h2 (by simpa using hl)
   (fun a ha=>hb a (by simp[ha])) (fun k a m d ha hm hds=>hd (k+1) a m d (by simpa using ha) (by simpa using hm) (by simpa using hds))
  have hlat:Later X γ1 O env w γ2 O env w:=⟨j2,⟨[],by simp⟩,Nat.le_refl _,fun b _ h _=>⟨rfl,h⟩⟩
  have hβ:∀p∈(aQ m.t ar (aVA m) m.fl nr).2.1,β2 p.1=β1 p.1:=fun p hp=>by
   have:=n3 p hp
   exact(j3 p.1 (by omega)).2
  refine⟨γ2,β2,j1,fun r v h=>j2 r v (i2 r v h),fun r hr=>?_,j4,by omega,⟨v,vs',rfl,bWT hv (bG.later hlat i4),j6⟩,?_,?_,fun p hp=>?_,j10,j11⟩
  ·obtain⟨a1,a2⟩:=i3 r (.inl hr)
   obtain⟨b1,b2⟩:=j3 r (by omega)
   exact⟨b1.trans a1,b2.trans a2⟩
  ·rw[fJ,j7,aJP j2 (fun p hp=>(i7 p hp).gh),i5]
  ·rw[iJ,j8,aLG hβ,i6]
  ·rw[List.mem_append] at hp
   rcases hp with hp|hp
   ·exact jS.later hlat (hβ p hp) (fun _ _=>rfl) (fun _ _=>rfl) (i7 p hp)
   ·exact j9 p hp
 | .box T m::ms,ar::as',nr,γ,β,vs,ds,ob,ub,hU,hg,hf,h,hl,hb,hd=>by
  obtain⟨b,c,vs',d,ds',o1,o2,u1,u2,rfl,rfl,rfl,rfl,hh,h1,h2⟩:=h
  obtain⟨n1,n2,n3⟩:=jI m.t ar false m.fl (nr+1)
  rw[bTK]
  simp only
  let γ0:=γ.upd nr (.pointer (some ⟨b,0,none⟩))
  let β0:=β.upd nr []
  have hg0:lF γ0:=hg.upd rfl
  have An:∀r,nr+1<=r->γ0 r=none:=fun r hr=>by rw[show γ0 r=γ r from Gh.upd_other (by omega)];exact hf r (by omega)
  obtain⟨γ1,β1,i1,i2,i3,i4,i5,i6,i7⟩:=bDH (X:=X) (O:=O) (env:=env) (fr:=false) hG m.t (a:=ar) (nr:=nr+1) (γ:=γ0) (β:=β0) hg0 (fun r h1 h2=>An r h1) h1 (hb ar (by simp)) (hd 0 ar (.box T m) d rfl rfl rfl)
  obtain⟨γ2,β2,j1,j2,j3,j4,j5,j6,j7,j8,j9,j10,j11⟩:=aYW hG ms (as':=as') (nr:=(aQ m.t ar false m.fl (nr+1)).2.2.2) (γ:=γ1) (β:=β1) (fun b hb=>hU b (by simp[hb])) i1 (fun r h1=>by rw[(i3 r (by omega)).1];exact An r (by omega)) h2 (by simpa using hl)
   (fun a ha=>hb a (by simp[ha])) (fun k a m d ha hm hds=>hd (k+1) a m d (by simpa using ha) (by simpa using hm) (by simpa using hds))
  have hlat:Later X γ1 O env w γ2 O env w:=⟨j2,⟨[],by simp⟩,Nat.le_refl _,fun b _ h _=>⟨rfl,h⟩⟩
  have hβ:∀p∈(aQ m.t ar false m.fl (nr+1)).2.1,β2 p.1=β1 p.1:=fun p hp=>by
   have:=n3 p hp
   exact(j3 p.1 (by omega)).2
  have hr2:γ2 nr=some (.pointer (some ⟨b,0,none⟩)):=j2 _ _ (i2 _ _ (by simp[γ0]))
  have hrβ:β2 nr=[]:=by
   rw[(j3 nr (by omega)).2,(i3 nr (.inl (by omega))).2]
   simp[β0,Bt.upd]
  refine⟨γ2,β2,j1,fun r v h=>j2 r v (i2 r v (Gh.upd_mono (hf nr (Nat.le_refl _)) r v h)),fun r hr=>?_,j4,by omega,⟨_,vs',rfl,⟨b,hr2,rfl⟩,j6⟩,?_,?_,fun p hp=>?_,⟨b,_,rfl,hr2,j10⟩,by simp[aBZ,j11]⟩
  ·obtain⟨a1,a2⟩:=i3 r (.inl (by omega))
   obtain⟨b1,b2⟩:=j3 r (by omega)
   refine⟨(b1.trans a1).trans (Gh.upd_other (by omega)),(b2.trans a2).trans ?_⟩
   simp only[β0,Bt.upd]
   rw[if_neg (by omega)]
  ·rw[aGR,fJ,j7,aJP j2 (fun p hp=>(i7 p hp).gh),i5]
   simp[oC,hr2,lY]
  ·rw[aJ4,iJ,j8,aLG hβ,i6]
   simp[hrβ]
  ·simp only[List.mem_cons,List.mem_append] at hp
   rcases hp with rfl|hp|hp
   ·exact⟨_,c,hr2,hh,bG.later hlat i4,hrβ⟩
   ·exact jS.later hlat (hβ p hp) (fun _ _=>rfl) (fun _ _=>rfl) (i7 p hp)
   ·exact j9 p hp
 | [],_::_,_,_,_,_,_,_,_,_,_,_,_,hl,_,_=>by simp at hl
 | .val _::_,[],_,_,_,_,_,_,_,_,_,_,_,hl,_,_=>by simp at hl
 | .box _ _::_,[],_,_,_,_,_,_,_,_,_,_,_,hl,_,_=>by simp at hl
theorem bO6 {f:FuncId} {fn:Func} {c:Code} {args:Array Value} {R:Ending->World->Prop} (hf:P.funcs[f]?=some fn) (hb:fn.body=some c)
  (h:Run P fn R [.code c] { tmps:=args++Array.replicate (fn.ntmps - args.size) undef,defers:=[] } w):Calls P f args w R:=by
 intro cs
 let b:Frame:={ (default:Frame) with fn:=f,kind:=.normal }
 have henter:Frame.enter P f args .normal=b.at { tmps:=args++Array.replicate (fn.ntmps - args.size) undef,defers:=[] } [.code c]:=by
  simp[Frame.enter,Frame.at,hf,hb,b]
 obtain⟨e,a',w',hq,harr⟩:=h b cs
 simp only[List.map_cons,List.map_nil,XI.item] at harr
 rw[<-henter] at harr
 cases e with
 | normal =>
  obtain⟨hd,v,hr,hR⟩:=hq
  exact⟨.returned v,w',_,hR,Steps.trans harr (.one step_end),rfl,rfl,hd,rfl,fn,hf,hr⟩
 | ret =>
  obtain⟨hd,v,hr,hR⟩:=hq
  obtain⟨todo,hs⟩:=harr
  exact⟨.returned v,w',_,hR,hs,rfl,rfl,hd,rfl,fn,hf,hr⟩
 | panic bAQ =>
  obtain⟨hd,hR⟩:=hq
  obtain⟨todo,hs⟩:=harr
  exact⟨.panicked bAQ,w',_,hR,hs,rfl,rfl,hd,fn,hf⟩
 | exit id=>exact hq.elim
 | goto l=>exact hq.elim
 | outgrown=>exact⟨.outgrown,w',b,hq,harr.resolve_left (by simp[b]),rfl,trivial⟩
theorem T.ends (hC:∀(c:Nat) (C:Con),Cs[c]?=some C->∀x:C.argTy.D,C.pre x->okD C.argTy x->okD C.resTy (C.fn x)):(t:T)->t.okB=true->∀{env:List SV} {L:List (SV->Prop)} {Q:SV->Prop},(∀v∈env,v.okv)->t.wp Cs env L Q ->
  (∃v:SV,v.okv/\Q v)\/∃(d:Nat) (I:SV->Prop) (v:SV),L[d]?=some I/\SV.okv v/\I v
 | .cMW p a k,hb,env,L,Q,he,h=>by
  simp only[T.okB,Bool.and_eq_true] at hb
  have ho:=bD5 p hb.1.2 _ (wZ (Ar.okv he a hb.1.1)) h.1
  refine T.ends hC k hb.2 (fun v hv=>?_) (h.2 ho)
  rw[List.mem_append,List.mem_singleton] at hv
  rcases hv with hv|rfl
  ·exact he v hv
  ·exact ho
 | .call c a k,hb,env,L,Q,he,h=>by
  simp only[T.okB,Bool.and_eq_true] at hb
  simp only[T.wp] at h
  split at h
  ·rename_i C hc
   have ho:=hC c C hc _ h.1 (wZ (Ar.okv he a hb.1))
   refine T.ends hC k hb.2 (fun v hv=>?_) (h.2 ho)
   rw[List.mem_append,List.mem_singleton] at hv
   rcases hv with hv|rfl
   ·exact he v hv
   ·exact ho
  ·exact h.elim
 | .ite a x y,hb,env,L,Q,he,h=>by
  simp only[T.okB,Bool.and_eq_true] at hb
  cases hv:(a.val env).as .bool with
  | true=>exact T.ends hC x hb.1 he (h.1 hv)
  | false=>exact T.ends hC y hb.2 he (h.2 hv)
 | .loop t a b,hb,env,L,Q,he,h=>by
  simp only[T.okB,Bool.and_eq_true] at hb
  obtain⟨I,μ,hI,hbody⟩:=h
  have key:∀(m:Nat) (x:t.D),μ x=m->okD t x->I x->(∃v:SV,v.okv/\Q v)\/∃(d:Nat) (I:SV->Prop) (v:SV),L[d]?=some I/\SV.okv v/\I v:=by
   intro m
   induction m using Nat.strongRecOn with
   | _ m ih =>
    intro x hm hx Di
    rcases T.ends hC b hb.2 (env:=env++[⟨t,x⟩]) (fun v hv=>by
     rw[List.mem_append,List.mem_singleton] at hv
     rcases hv with hv|rfl
     ·exact he v hv
     ·exact hx) (hbody x hx Di) with h1|⟨d,J,v,h1,h2,h3⟩
    ·exact .inl h1
    ·cases d with
     | zero =>
      simp only[List.getElem?_cons_zero,eW] at h1
      subst h1
      exact ih _ (by rw[<-hm];exact h3.2) _ rfl (wZ h2) h3.1
     | succ d=>exact .inr ⟨d,J,v,by simpa using h1,h2,h3⟩
  exact key _ _ rfl (wZ (Ar.okv he a hb.1)) hI
 | .cMY d a,hb,env,L,Q,he,h=>by
  simp only[T.wp] at h
  split at h
  ·rename_i I hI
   exact .inr ⟨d,I,_,hI,Ar.okv he a hb,h⟩
  ·exact h.elim
 | .ret a,hb,env,L,Q,he,h=>.inl ⟨_,Ar.okv he a hb,h⟩
theorem cBW:(ss:List Sh)->(vs:List Value)->xW X γ O env w ss vs->∀t,t<ss.length->bU X γ O env w (ss.getD t .no) (vs.getD t undef)
 | s::ss,_,⟨v,vs',rfl,h1,h2⟩,t,ht=>by
  cases t with
  | zero=>exact yQ h1
  | succ t=>exact cBW ss vs' h2 t (by simpa using ht)
theorem cBN {ss:List Sh} {es:Es} {bs:List (Nat×TypeId×MV)} {nr nt:Nat} {x:C.argTy.D} {vs:List Value} {ob ub:List Nat} (hI:qN C.ams (gP (C.ams.map (·.mv.t)) (.Z 0)) 1=(ss,es,bs,nr)) (hk:(es.map (·.1)).Nodup)
  (hO:X.O0=ob) (hU:X.U0=ub) (hnd:(ob++ub).Nodup) (hbl:∀b∈ob++ub,b<X.w0.heap.size/\¬X.A b) (Ew:aKA (Gd X ob X.w0 false) X.w0 C.ams vs (gA (C.ams.map (·.mv.t)) (SV.as _ ⟨C.argTy,x⟩)) ob ub) :
  ∃g0 γ β,StOK X g0 γ β [⟨C.argTy,x⟩] X.w0 { tm:=wC 0 ss,n:=ss.length+(nt - ss.length),es:=es,facts:=[],nx:=1,nr:=nr,cr:=[] } { tmps:=vs.toArray++Array.replicate (nt - vs.toArray.size) undef,defers:=[] } /\
   (∀r v,g0 r=some v->∃p∈bs,p.1=r)/\aPY g0 bs (zW C.ams vs)/\bs.map (·.2.2)=aBZ C.ams:=by
 have hl:(gP (C.ams.map (·.mv.t)) (.Z 0)).length=C.ams.length:=by rw[vN];simp
 obtain⟨γ,β,i1,i2,i3,i4,i5,i6,i7,i8,i9,i10,i11⟩:=aYW (X:=X) (O:=ob) (env:=[⟨C.argTy,x⟩]) (β:=fun _=>[]) (fun _ h=>h) C.ams (as':=gP (C.ams.map (·.mv.t)) (.Z 0)) (nr:=1) (γ:=fun _=>none) (fun b hb=>⟨(hbl b (by simp[hb])).1,fun Lq=>(List.nodup_append.1 hnd).2.2 b Lq b hb rfl,(hbl b (by simp[hb])).2,fun _=>.inr (by unfold Cx.F0;rw[hO,hU];simp[hb])⟩) (fun r v h=>by cases h) (fun _ _=>rfl) Ew hl
  (fun a ha=>aI9 _ (by simp[Ar.bd]) a ha) (fun k a m d ha hm hd=>by
   refine aBY (env:=[⟨C.argTy,x⟩]) _ (.Z 0) k a m.mv.t d ha (by simp[hm]) ?_
   exact hd)
 rw[hI] at i4 i5 i6 i7 i8 i9 i10 i11
 simp only at i4 i5 i6 i7 i8 i9 i10 i11
 have hlen:=bDB _ _ i6
 let g0:Gh:=fun r=>if(bs.map (·.1)).contains r then γ r else none
 have hgb:∀r v,g0 r=some v->γ r=some v/\∃p∈bs,p.1=r:=fun r v hr=>by
  simp only[g0] at hr
  split at hr
  ·rename_i hc
   refine⟨hr,?_⟩
   simp only[List.contains_iff_mem,List.mem_map] at hc
   exact hc
  ·cases hr
 refine⟨g0,γ,β,⟨⟨by rw[i7,i8];exact hnd,fun b hb'=>?_,fun b hb'=>?_,fun p hp=>by rw[i7];exact i9 p hp⟩,hk,⟨rfl,rfl,rfl,Nat.le_refl _,fun _ _ _=>rfl⟩,i1,?_,fun t=>?_,fun p hp=>by simp at hp,i4,rfl,fun r v hr=>(hgb r v hr).1⟩,
  fun r v hr=>(hgb r v hr).2,i10.mono fun p hp v hv=>?_,i11⟩
 ·rw[i7] at hb'
  obtain⟨q1,q2⟩:=hbl b (by simp[hb'])
  exact⟨q1,.inr (by rw[hO];exact hb'),q2⟩
 ·rw[i8] at hb'
  obtain⟨q1,q2⟩:=hbl b (by simp[hb'])
  rw[List.nodup_append] at hnd
  exact⟨q1,fun h=>by rw[i7] at h;exact hnd.2.2 b h b hb' rfl,q2,fun _=>.inr (by simp[Cx.F0,hU,hb'])⟩
 ·simp[hlen]
 ·rw[i7]
  have e1:∀t,(vs.toArray++Array.replicate (nt - vs.toArray.size) undef).getD t undef=vs.getD t undef:=fun t=>by
   rw[Array.getD_eq_getD_getElem?,Array.getElem?_append]
   split
   ·simp
   ·rename_i hlt
    rw[Array.getElem?_replicate]
    have:vs[t]?=none:=List.getElem?_eq_none (by simpa using hlt)
    rw[List.getD_eq_getElem?_getD,this]
    split<;>rfl
  rw[e1]
  show bU X γ _ _ _ (gX (wC 0 ss) t) _
  rw[aSU]
  by_cases ht':t<ss.length
  ·exact cBW _ _ i6 t ht'
  ·rw[List.getD_eq_getElem?_getD,List.getElem?_eq_none (by omega)]
   trivial
 ·show(if _ then γ p.1 else none)=some v
  rw[if_pos (by simp only[List.contains_iff_mem];exact List.mem_map_of_mem hp)]
  exact hv
theorem cGX {wr:Bool} {fuel:Nat} {orc:Orc} (hC:∀(c:Nat) (C:Con),Cs[c]?=some C->Con.Holds P C) (Co:∀X g0,bXL P Cs wr X g0) (h:bPY P Cs C wr fuel orc = .ok T')
  (hw:∀x:C.argTy.D,okD C.argTy x->C.pre x->T'.wp Cs [⟨C.argTy,x⟩] [] fun v=>v.as C.resTy=C.fn x):Con.Holds P C:=by
 unfold bPY at h
 simp only at h
 split at h
 ·rename_i fn hf
  split at h
  ·rename_i c hb
   split at h
   ·rename_i Me
    obtain⟨k1,k2,k3,k4,k5⟩:=Me
    have De:C.bx=none:=by simpa using k5
    split at h
    ·rename_i t ht
     split at h
     ·rename_i hok
      simp only[Except.ok.injEq] at h
      subst h
      refine⟨fun x hp hx=>?_,⟨fn,hf,k4,by rw[hb];rfl⟩,fun X vs x ob ub hp hx hO hU hnd hbl Ew=>?_⟩
      ·rcases T.ends (fun c C hc=>(hC c C hc).ok) t hok (fun v hv=>by
        rw[List.mem_singleton] at hv
        subst hv;exact hx) (hw x hx hp) with⟨v,h1,h2⟩|⟨d,I,v,h1,_⟩
       ·rw[<-h2];exact wZ h1
       ·simp at h1
      ·obtain⟨ss,es,bs,nr,hI⟩:∃ss es bs nr,qN C.ams (gP (C.ams.map (·.mv.t)) (.Z 0)) 1=(ss,es,bs,nr):=⟨_,_,_,_,rfl⟩
       rw[hI] at ht k2 k3
       obtain⟨g0,γ,β,s1,s2,s3,s4⟩:=cBN (nt:=fn.ntmps) hI k3 hO hU hnd hbl Ew
       refine bO6 hf hb ?_
       exact cMA (C:=C) (ow:=bs) (Q:=fun v=>v.as C.resTy=C.fn x) hC (Co X g0) s2 (fun σ T' env L γ' β' w a h1 h2 h3 h4 h5=>cES rfl k2 s4 s3 De h1 h2 h5) fuel 0 [.code c] _ t [⟨C.argTy,x⟩] [] γ β _ X.w0 ht (hw x hx hp) rfl rfl (fun v hv=>by
        rw[List.mem_singleton] at hv
        subst hv;exact hx) s1 trivial
     ·cases h
    ·cases h
   ·cases h
  ·cases h
 ·cases h
end
inductive Kd where
 | pure
 | still (new:Es)
 | turn (es1:Es)
def Kd.mem:Kd->Bool
 | .pure=>false
 | _=>true
def Kd.trn:Kd->Bool
 | .turn _=>true
 | _=>false
structure Rc where
 i:Nat
 o:Oper
 s:Sh
 kd:Kd
 nr:Nat
 nr':Nat
def zX (N:Nat) (tm:Tm) (l:List Rc):Tm:=l.foldl (fun tm r=>bBV N tm r.o.dst r.s) tm
def pA (es:Es) (l:List Rc):Es:=l.foldl (fun es r=>match r.kd with | .pure=>es | .still new=>new++es | .turn es1=>es1) es
def aHC (n:Nat) (l:List Rc):Nat:=l.foldl (fun _ r=>r.nr') n
def aS0 (l:List Rc):List (Nat×Nat):=l.foldl (fun c r=>match r.kd with | .still new=>new.map (fun p=>(p.1,r.i))++c|_=>c) []
def bBM (l:List Rc):Bool:=l.any (·.kd.trn)
def vAt (clo:Array Nat) (wrt:List (Nat×Nat)) (tm:Tm) (i t:Nat):Sh:=match wrt.find? fun p=>p.1==t with
 | some (_,j)=>if(clo.getD i 0).testBit j||(clo.getD j 0).testBit i then gX tm t else .no
 | none=>gX tm t
def lAt (clo:Array Nat) (cre:List (Nat×Nat)) (es:Es) (i:Nat):Lk:=fun q=>match cre.find? fun p=>p.1==q with
 | some (_,j)=>if(clo.getD i 0).testBit j then fL es q else none
 | none=>fL es q
def bB1 (P:Program) (ops:Array Oper) (o:Oper) (a:Act) (w:World) (Post:Value->World->Prop):Prop :=
 (Region.wanted o (yielded ops a.tmps)=false/\Post undef w)\/(Region.wanted o (yielded ops a.tmps)=true/\aFA P a.eval o w Post)
def bJJ (X:Cx) (e:List SV) (r:Rc) (V:Nat->Sh) (lk:Lk) (es0 fx:Es) (D:Act->World->(Value->World->Prop)->Prop):Prop :=
 ∀(γ:Gh) (β:Bt) (es:Es) (w:World) (a:Act),MemOK X γ β e w es->dB es->FrameOK X w->lF γ->(∀t,bU X γ (Os γ es) e w (V t) (a.tmps.getD t undef))->(∀q,r.nr<=q->q<r.nr'->γ q=none)->(∀p∈fx,p∈es) ->
  match r.kd with
  | .pure=>D a w fun v w'=>w'=w/\bU X γ (Os γ es) e w r.s v
  | .still new=>(∀q en,lk q=some en->(q,en)∈es)->D a w fun v w'=>∃γ' β',Still X γ β e w es new r.nr r.nr' r.s v γ' β' w'
  | .turn es1=>es=es0->D a w fun v w'=>∃γ' β',Turned X γ β e w es es1 r.nr r.nr' r.s v γ' β' w'
theorem bJJ.mono {X:Cx} {e:List SV} {r:Rc} {V:Nat->Sh} {lk:Lk} {es0 fx:Es} {D D':Act->World->(Value->World->Prop)->Prop} (h:bJJ X e r V lk es0 fx D)
  (hd:∀(γ:Gh) (O:List Nat) (w:World) (a:Act) (Post:Value->World->Prop),(∀t,bU X γ O e w (V t) (a.tmps.getD t undef))->D a w Post->D' a w Post):bJJ X e r V lk es0 fx D':=by
 intro γ β es w a h1 h2 h3 h4 h5 h6 h7
 have:=h γ β es w a h1 h2 h3 h4 h5 h6 h7
 cases hk:r.kd with
 | pure=>rw[hk] at this;exact hd _ _ _ _ _ h5 this
 | still new=>rw[hk] at this;exact fun hl=>hd _ _ _ _ _ h5 (this hl)
 | turn es1=>rw[hk] at this;exact fun hl=>hd _ _ _ _ _ h5 (this hl)
def bLF (P:Program) (X:Cx) (e:List SV) (ops:Array Oper) (clo:Array Nat) (wrt:List (Nat×Nat)) (N:Nat) (tm0:Tm) (es0 fx:Es) (n0:Nat) (pre:List Rc) (r:Rc):Prop :=
 ops[r.i]?=some r.o/\bJJ X e r (vAt clo wrt (zX N tm0 pre) r.i) (lAt clo (aS0 pre) (pA es0 pre) r.i) (pA es0 pre) fx (bB1 P ops r.o)/\r.nr=aHC n0 pre/\r.nr<=r.nr' /\
  match r.kd with
  | .pure=>True
  | .still new=>bBM pre=false/\∀p∈new,r.nr<=p.1/\p.1<r.nr'
  | .turn es1=>(∀r'∈pre,r'.kd.mem=true->(clo.getD r.i 0).testBit r'.i=true)/\((∀p∈fx,p∈es1)\/∀j,j<clo.size->j≠r.i->(clo.getD r.i 0).testBit j=true)
def fO (P:Program) (X:Cx) (e:List SV) (ops:Array Oper) (clo:Array Nat) (wrt:List (Nat×Nat)) (N:Nat) (tm0:Tm) (es0 fx:Es) (n0:Nat):List Rc->List Rc->Prop
 | _,[]=>True
 | pre,r::rs=>bLF P X e ops clo wrt N tm0 es0 fx n0 pre r/\fO P X e ops clo wrt N tm0 es0 fx n0 (pre++[r]) rs
structure RelD (clo:Array Nat) (wrt:List (Nat×Nat)) (N:Nat) (tm0:Tm) (es0 fx:Es) (n0:Nat) (pre:List Rc) (σ:St) (d:Dr):Prop where
 draw:d.draw=true
 clo:d.clo=clo
 wrt:d.wrt=wrt
 cre:d.cre=aS0 pre
 trn:d.trn=bBM pre
 mem:∀r∈pre,r.kd.mem=true->d.mem.testBit r.i=true
 n:σ.n=N
 tm:σ.tm=zX N tm0 pre
 es:σ.es=pA es0 pre
 nr:σ.nr=aHC n0 pre
 fxe:d.fx=fx
 sub:d.fin=false->∀p∈fx,p∈σ.es
section
variable {P:Program} {Cs:List Con} {X:Cx} {e:List SV} {w w':World} {σ σ' σ1:St} {a a':Act} {wr:Bool} {D:List Nat} {i:Nat} {o:Oper} {d d':Dr} {ls:List Let} {ops:Array Oper}
variable {clo:Array Nat} {wrt:List (Nat×Nat)} {N:Nat} {tm0:Tm} {es0 fx:Es} {n0:Nat} {pre:List Rc}
theorem bZN (r:Rc):zX N tm0 (pre++[r])=bBV N (zX N tm0 pre) r.o.dst r.s:=by simp[zX,List.foldl_append]
theorem RelD.snoc (h:RelD clo wrt N tm0 es0 fx n0 pre σ d) {r:Rc} (ho:r.o=o) (hn:σ'.n=σ.n) (E6:σ'.tm=(σ.put o.dst r.s).tm) (hes:σ'.es=(match r.kd with | .pure=>σ.es | .still new=>new++σ.es | .turn es1=>es1)) (Bl:σ'.nr=r.nr')
  (hd:d'.draw=true) (Md:d'.clo=d.clo) (K5:d'.wrt=d.wrt) (Im:d'.cre=(match r.kd with | .still new=>new.map (fun p=>(p.1,r.i))++d.cre|_=>d.cre)) (C7:d'.trn=(d.trn||r.kd.trn))
  (hmem:∀j,d.mem.testBit j=true->d'.mem.testBit j=true) (Er:r.kd.mem=true->d'.mem.testBit r.i=true) (Kc:d'.fx=d.fx) (hsub:d'.fin=false->∀p∈fx,p∈σ'.es):RelD clo wrt N tm0 es0 fx n0 (pre++[r]) σ' d':=by
 refine⟨hd,Md.trans h.clo,K5.trans h.wrt,?_,?_,fun r' hr' hk=>?_,hn.trans h.n,?_,?_,?_,Kc.trans h.fxe,hsub⟩
 ·rw[Im,h.cre]
  simp only[aS0,List.foldl_append,List.foldl_cons,List.foldl_nil]<;>(cases r.kd<;>rfl)
 ·rw[C7,h.trn];simp[bBM]
 ·rw[List.mem_append,List.mem_singleton] at hr'
  rcases hr' with hr'|rfl
  ·exact hmem _ (h.mem r' hr' hk)
  ·exact Er hk
 ·rw[E6,bZN,ho]
  show bBV σ.n σ.tm o.dst r.s=_
  rw[h.tm,h.n]
 ·rw[hes,h.es]
  simp only[pA,List.foldl_append,List.foldl_cons,List.foldl_nil]<;>(cases r.kd<;>rfl)
 ·rw[Bl];simp[aHC]
theorem RelD.vals (h:RelD clo wrt N tm0 es0 fx n0 pre σ d) (i:Nat):d.tm σ i=vAt clo wrt (zX N tm0 pre) i:=by
 funext t
 simp only[Dr.tm,h.draw,if_true,h.wrt,h.clo,vAt,St.at',h.tm]
 cases wrt.find? (fun p=>p.1==t) with
 | none=>rfl
 | some p=>rfl
theorem RelD.lk (h:RelD clo wrt N tm0 es0 fx n0 pre σ d) (i:Nat):d.lk σ i=lAt clo (aS0 pre) (pA es0 pre) i:=by
 funext t
 simp only[Dr.lk,h.draw,if_true,h.cre,h.clo,lAt,h.es]
 cases (aS0 pre).find? (fun p=>p.1==t) with
 | none=>rfl
 | some p=>rfl
theorem RelD.all (h:RelD clo wrt N tm0 es0 fx n0 pre σ d) (ha:d.all i=true):∀r'∈pre,r'.kd.mem=true->(clo.getD i 0).testBit r'.i=true:=fun r' hr' hk=>by
 simp only[Dr.all,h.draw,h.clo,Bool.not_true,Bool.false_or,beq_iff_eq] at ha
 have h1:=h.mem r' hr' hk
 rw[<-ha,Nat.testBit_and,Bool.and_eq_true] at h1
 exact h1.2
theorem bP5 {m i j:Nat} (h:m.testBit j=true):(m ||| 2 ^ i).testBit j=true:=by simp[Nat.testBit_or,h]
theorem bWH {m i:Nat}:(m ||| 2 ^ i).testBit i=true:=by simp[Nat.testBit_or,Nat.testBit_two_pow]
theorem cH0 (hC:∀(c:Nat) (C:Con),Cs[c]?=some C->Con.Holds P C) (hr:RelD clo wrt N tm0 es0 fx n0 pre σ d) (hx:aGM P Cs wr D i o σ d=some (ls,σ',d')) (hl:iV Cs e σ.nx ls) :
  ∃r:Rc,r.i=i/\r.o=o/\bJJ X e r (vAt clo wrt (zX N tm0 pre) i) (lAt clo (aS0 pre) (pA es0 pre) i) (pA es0 pre) fx (fun a w Post=>aFA P a.eval o w Post)/\r.nr=aHC n0 pre/\r.nr<=r.nr' /\
   (match r.kd with
   | .pure=>True
   | .still new=>bBM pre=false/\∀p∈new,r.nr<=p.1/\p.1<r.nr'
   | .turn es1=>(∀r'∈pre,r'.kd.mem=true->(clo.getD i 0).testBit r'.i=true)/\((∀p∈fx,p∈es1)\/∀j,j<clo.size->j≠i->(clo.getD i 0).testBit j=true))/\RelD clo wrt N tm0 es0 fx n0 (pre++[r]) σ' d'/\σ'.facts=σ.facts:=by
 have hv:=hr.vals i
 have hlk:=hr.lk i
 have Gs:∀s:Sh,(σ.put o.dst s).facts=σ.facts:=fun s=>rfl
 unfold aGM at hx
 simp only at hx
 rw[hv] at hx
 have turn:∀{s:Sh} {es1:Es} {n:Nat} {cr:List (Nat×Nat)},(∀(γ:Gh) (β:Bt) (w:World) (a:Act),MemOK X γ β e w σ.es->dB σ.es->FrameOK X w->lF γ->(∀t,bU X γ (Os γ σ.es) e w (vAt clo wrt (zX N tm0 pre) i t) (a.tmps.getD t undef)) ->
   (∀q,σ.nr<=q->q<n->γ q=none)->aFA P a.eval o w fun v w'=>∃γ' β',Turned X γ β e w σ.es es1 σ.nr n s v γ' β' w')->∀fin:Bool,d.all i=true->σ.nr<=n->((∀p∈fx,p∈es1)\/∀j,j<clo.size->j≠i->(clo.getD i 0).testBit j=true)->(fin=false->∀p∈fx,p∈es1) ->
   ∃r:Rc,r.i=i/\r.o=o/\bJJ X e r (vAt clo wrt (zX N tm0 pre) i) (lAt clo (aS0 pre) (pA es0 pre) i) (pA es0 pre) fx (fun a w Post=>aFA P a.eval o w Post)/\r.nr=aHC n0 pre/\r.nr<=r.nr' /\
   (match r.kd with
   | .pure=>True
   | .still new=>bBM pre=false/\∀p∈new,r.nr<=p.1/\p.1<r.nr'
   | .turn es1=>(∀r'∈pre,r'.kd.mem=true->(clo.getD i 0).testBit r'.i=true)/\((∀p∈fx,p∈es1)\/∀j,j<clo.size->j≠i->(clo.getD i 0).testBit j=true)) /\
    RelD clo wrt N tm0 es0 fx n0 (pre++[r]) ((σ.put o.dst s).upd es1 (σ.nx+ls.length) n cr) { d with mem:=d.mem ||| 2 ^ i,trn:=d.draw,fin:=fin }/\(σ.put o.dst s).facts=σ.facts:=fun {s es1 n cr} Ik fin hall hle Gm D3=>by
  refine⟨⟨i,o,s,.turn es1,σ.nr,n⟩,rfl,rfl,?_,hr.nr,hle,⟨hr.all hall,Gm⟩,?_,Gs s⟩
  ·intro γ β es w a h1 h2 h3 h4 h5 h6 _ hes
   rw[<-hr.es] at hes
   subst hes
   exact Ik γ β w a h1 h2 h3 h4 h5 h6
  ·exact hr.snoc (r:=⟨i,o,s,.turn es1,σ.nr,n⟩) rfl rfl rfl rfl rfl hr.draw rfl rfl rfl (by simp[Kd.trn,hr.draw]) (fun j=>bP5) (fun _=>bWH) rfl D3
 split at hx
 ·rename_i ls' s hp
  simp only[eW,nB] at hx
  obtain⟨rfl,rfl,rfl⟩:=hx
  refine⟨⟨i,o,s,.pure,σ.nr,σ.nr⟩,rfl,rfl,fun γ β es w a h1 h2 h3 h4 h5 h6 _=>?_,hr.nr,Nat.le_refl _,trivial,?_,Gs s⟩
  ·obtain⟨r,q1,q2⟩:=bIZ (P:=P) (Cs:=Cs) h4 hp hl (aFQ h5)
   exact .inl ⟨r,w,q1,rfl,q2⟩
  ·exact hr.snoc (r:=⟨i,o,s,.pure,σ.nr,σ.nr⟩) rfl rfl rfl rfl rfl hr.draw rfl rfl rfl (by simp[Kd.trn]) (fun _ h=>h) (fun h=>by cases h) rfl hr.sub
 ·split at hx
  ·rename_i ls' s hp
   simp only[eW,nB] at hx
   obtain⟨rfl,rfl,rfl⟩:=hx
   rw[hr.draw] at hp
   simp only[if_true] at hp
   rw[hr.fxe] at hp
   refine⟨⟨i,o,s,.pure,σ.nr,σ.nr⟩,rfl,rfl,fun γ β es w a h1 h2 h3 h4 h5 h6 h7=>?_,hr.nr,Nat.le_refl _,trivial,?_,Gs s⟩
   ·have Gt:∀r e,fL fx r=some e->(r,e)∈es:=fun r e h=>h7 _ (mN h)
    obtain⟨r,q1,q2⟩:=bJ0 (P:=P) (Cs:=Cs) (X:=X) (γ:=γ) (β:=β) (O:=Os γ es) (env:=e) (w:=w) h4 (fun b hb=>(h1.at' b hb).1) (fun r en hr=>⟨h1.ent _ (Gt r en hr),fun b hb=>(h1.at' b (xS.2 ⟨_,Gt r en hr,hb⟩)).1⟩) hp hl (aFQ h5)
    exact .inl ⟨r,w,q1,rfl,q2⟩
   ·exact hr.snoc (r:=⟨i,o,s,.pure,σ.nr,σ.nr⟩) rfl rfl rfl rfl rfl hr.draw rfl rfl rfl (by simp[Kd.trn]) (fun _ h=>h) (fun h=>by cases h) rfl hr.sub
  split at hx
  ·rename_i ls' s new n hst
   split at hx
   case isFalse=>cases hx
   rename_i Cv
   simp only[eW,nB] at hx
   obtain⟨rfl,rfl,rfl⟩:=hx
   have C7:d.trn=false:=by
    cases h:d.trn
    ·rfl
    ·rw[h] at hst;simp at hst
   rw[C7] at hst
   simp only[Bool.false_eq_true,if_false] at hst
   rw[hlk] at hst
   simp only[bL5,Bool.and_eq_true,decide_eq_true_eq,List.all_eq_true] at Cv
   refine⟨⟨i,o,s,.still new,σ.nr,n⟩,rfl,rfl,fun γ β es w a h1 h2 h3 h4 h5 h6 _ hq=>?_,hr.nr,Cv.1,⟨by rw[<-hr.trn];exact C7,Cv.2⟩,?_,Gs s⟩
   ·exact aUD hC h1 h2 h3 h4 (aFQ h5) hq hst hl h6
   ·exact hr.snoc (r:=⟨i,o,s,.still new,σ.nr,n⟩) rfl rfl rfl rfl rfl hr.draw rfl rfl rfl (by simp[Kd.trn]) (fun j=>bP5) (fun _=>bWH) rfl (fun hf p hp=>List.mem_append_right _ (hr.sub hf p hp))
  ·split at hx
   ·rename_i hall
    rw[Bool.and_eq_true,Bool.not_eq_true'] at hall
    obtain⟨hall,hfin⟩:=hall
    split at hx
    ·rename_i ls' s new n hst
     split at hx
     case isFalse=>cases hx
     rename_i Cv
     simp only[eW,nB] at hx
     obtain⟨rfl,rfl,rfl⟩:=hx
     simp only[bL5,Bool.and_eq_true,decide_eq_true_eq] at Cv
     have Gm:∀p∈fx,p∈new++σ.es:=fun p hp=>List.mem_append_right _ (hr.sub hfin p hp)
     have:=turn (s:=s) (es1:=new++σ.es) (n:=n) (cr:=new.map (fun p=>(p.1,o.dst.getD 0))++σ.cr) (fun γ β w a h1 h2 h3 h4 h5 h6=>?_) d.fin hall Cv.1 (.inl Gm) (fun _=>Gm)
     ·exact this
     exact(aUD hC h1 h2 h3 h4 (aFQ h5) (fun r e hr=>mN hr) hst hl h6).mono fun v w' ⟨γ',β',S⟩=>⟨γ',β',⟨S.mem,S.keys,S.later,S.frame,S.gh,fun r hr=>(S.same r hr).1,S.le,S.val⟩⟩
    ·split at hx
     ·rename_i ls' s es' n hst
      split at hx
      case isFalse=>cases hx
      rename_i Cv
      simp only[eW,nB] at hx
      obtain⟨rfl,rfl,rfl⟩:=hx
      simp only[bL5,Bool.and_eq_true,decide_eq_true_eq,List.all_eq_true] at Cv
      have hb:d.fx.all (bEY es')=true->∀p∈fx,p∈es':=fun hh p hp=>cAY (List.all_eq_true.1 hh p (by rw[hr.fxe];exact hp))
      refine turn (fun γ β w a h1 h2 h3 h4 h5 h6=>bKZ hC h1 h2 h3 h4 (aFQ h5) hst hl h6) _ hall Cv.1.1 ?_ (fun hh=>hb (by simpa using hh))
      rcases(Bool.or_eq_true _ _).mp Cv.2 with hh|hh
      ·exact .inl (hb hh)
      ·rw[hr.clo] at hh
       exact .inr (cC6 hh)
     ·cases hx
   ·cases hx
end
section
variable {P:Program} {Cs:List Con} {X:Cx} {e:List SV} {w w':World} {σ σ' σ1:St} {a a':Act} {wr:Bool} {D:List Nat} {i:Nat} {o:Oper} {d d':Dr} {ls:List Let} {ops:Array Oper}
variable {clo:Array Nat} {wrt:List (Nat×Nat)} {N:Nat} {tm0:Tm} {es0 fx:Es} {n0:Nat} {pre:List Rc}
theorem RelD.same (h:RelD clo wrt N tm0 es0 fx n0 pre σ d) (h0:σ'.n=σ.n) (h1:σ'.tm=σ.tm) (h2:σ'.es=σ.es) (h3:σ'.nr=σ.nr):RelD clo wrt N tm0 es0 fx n0 pre σ' d :=
 ⟨h.draw,h.clo,h.wrt,h.cre,h.trn,h.mem,h0.trans h.n,h1.trans h.tm,h2.trans h.es,h3.trans h.nr,h.fxe,fun hf p hp=>by rw[h2];exact h.sub hf p hp⟩
theorem RelD.putp (h:RelD clo wrt N tm0 es0 fx n0 pre σ d) (i:Nat) (o:Oper) (s:Sh):RelD clo wrt N tm0 es0 fx n0 (pre++[⟨i,o,s,.pure,σ.nr,σ.nr⟩]) (σ.put o.dst s) d :=
 h.snoc (r:=⟨i,o,s,.pure,σ.nr,σ.nr⟩) rfl rfl rfl rfl rfl h.draw rfl rfl rfl (by simp[Kd.trn]) (fun _ h=>h) (fun h=>by cases h) rfl h.sub
theorem bJP {k:Ar} {x y:RT} {env:List SV} {σF:St} (h:RTPath Cs (.ite k x y) env σF e):k.bd e.length=true/\(((k.val e).as .bool=true/\RTPath Cs x env σF e)\/((k.val e).as .bool=false/\RTPath Cs y env σF e)):=by
 refine⟨?_,bG9 h⟩
 cases h with
 | thn _ _ _ _ _ _ h1 h2 h3=>obtain⟨z,rfl⟩:=h3.ext;exact Ar.bd_mono (by simp) k h1
 | els _ _ _ _ _ _ h1 h2 h3=>obtain⟨z,rfl⟩:=h3.ext;exact Ar.bd_mono (by simp) k h1
def tT (e:List SV) (σ:St):Prop:=∀p∈σ.facts,p.1.bd e.length=true/\(p.1.val e).as .bool=p.2
theorem tT.fact (h:tT e σ) {k:Ar} {v:Bool} (hb:k.bd e.length=true) (hk:(k.val e).as .bool=v):tT e (σ.fact k v):=fun p hp=>by
 simp only[St.fact,List.mem_cons] at hp
 rcases hp with rfl|hp
 ·exact⟨hb,hk⟩
 ·exact h p hp
theorem tT.of (h:tT e σ) (hf:σ'.facts=σ.facts):tT e σ':=fun p hp=>h p (by rw[<-hf];exact hp)
theorem bJG (s:Sh) (dst:Option Nat):(σ.put dst s).facts=σ.facts:=rfl
theorem aUW (hC:∀(c:Nat) (C:Con),Cs[c]?=some C->Con.Holds P C) {σF:St}:(rest:List (Nat×Oper))->{σ:St}->{d:Dr}->{rt:RT}->{env:List SV}->{pre:List Rc} ->
  rW P Cs wr D ops rest σ d = .ok rt->RTPath Cs rt env σF e->env.length=σ.nx->RelD clo wrt N tm0 es0 fx n0 pre σ d->tT e σ->(∀p∈rest,ops[p.1]?=some p.2) ->
  ∃rs:List Rc,rs.map (fun r=>(r.i,r.o))=rest/\fO P X e ops clo wrt N tm0 es0 fx n0 pre rs/\σF.n=N/\σF.tm=zX N tm0 (pre++rs)/\σF.es=rU (pA es0 (pre++rs))/\σF.nr=aHC n0 (pre++rs)/\tT e σF
 | [],σ,d,rt,env,pre,h,hp,hn,hd,hf,hr=>by
  simp only[rW,Except.ok.injEq] at h
  subst h
  cases hp
  refine⟨[],rfl,trivial,hd.n,?_,?_,?_,hf⟩
  ·rw[List.append_nil];exact hd.tm
  ·simp only[List.append_nil];rw[<-hd.es];rfl
  ·rw[List.append_nil];exact hd.nr
 | (i,o)::rest,σ,d,rt,env,pre,h,hp,hn,hd,hf,hr=>by
  have hi:ops[i]?=some o:=hr (i,o) (by simp)
  have hr':∀p∈rest,ops[p.1]?=some p.2:=fun p hp=>hr p (by simp[hp])
  have fin:∀{r:Rc} {rs:List Rc},r.i=i->r.o=o->bLF P X e ops clo wrt N tm0 es0 fx n0 pre r->(rs.map (fun r=>(r.i,r.o))=rest/\fO P X e ops clo wrt N tm0 es0 fx n0 (pre++[r]) rs/\σF.n=N/\σF.tm=zX N tm0 (pre++[r]++rs) /\
    σF.es=rU (pA es0 (pre++[r]++rs))/\σF.nr=aHC n0 (pre++[r]++rs)/\tT e σF) ->
    ∃rs:List Rc,rs.map (fun r=>(r.i,r.o))=(i,o)::rest/\fO P X e ops clo wrt N tm0 es0 fx n0 pre rs/\σF.n=N/\σF.tm=zX N tm0 (pre++rs)/\σF.es=rU (pA es0 (pre++rs))/\σF.nr=aHC n0 (pre++rs)/\tT e σF :=
   fun {r rs} h1 h2 h3 ⟨g1,g2,g0,g3,g4,g5,g6⟩=>⟨r::rs,by rw[List.map_cons,g1,h1,h2],⟨h3,g2⟩,g0,by simpa using g3,by simpa using g4,by simpa using g5,g6⟩
  have skip:∀{σ1:St} {rt1:RT},rW P Cs wr D ops rest (σ1.put o.dst .und) d = .ok rt1->RTPath Cs rt1 env σF e->σ1.nx=σ.nx->RelD clo wrt N tm0 es0 fx n0 pre σ1 d->tT e σ1 ->
    (∀(γ:Gh) (O:List Nat) (w:World) (a:Act),(∀t,bU X γ O e w (vAt clo wrt (zX N tm0 pre) i t) (a.tmps.getD t undef))->Region.wanted o (yielded ops a.tmps)=false) ->
    ∃rs:List Rc,rs.map (fun r=>(r.i,r.o))=(i,o)::rest/\fO P X e ops clo wrt N tm0 es0 fx n0 pre rs/\σF.n=N/\σF.tm=zX N tm0 (pre++rs)/\σF.es=rU (pA es0 (pre++rs))/\σF.nr=aHC n0 (pre++rs)/\tT e σF :=
   fun {σ1 rt1} h1 h2 h3 h4 Ae h5=>by
    obtain⟨rs,hrs⟩:=aUW hC rest h1 h2 (by rw[bLM,h3];exact hn) (h4.putp i o .und) (Ae.of (bJG _ _)) hr'
    refine fin (r:=⟨i,o,.und,.pure,σ1.nr,σ1.nr⟩) rfl rfl ⟨hi,fun γ β es w a q1 q2 q3 q4 q5 q6 _=>?_,h4.nr,Nat.le_refl _,trivial⟩ hrs
    exact .inl ⟨h5 γ _ w a q5,rfl,rfl⟩
  have go:∀{σ1:St} {rt1:RT},(match o.op with
    | .pick c x y=>match aGI (d.tm σ1 i) c with
     | .one (.d k .bool _ _)=>match bD9 σ1.facts k with
      | some v=>rW P Cs wr D ops rest (σ1.put o.dst (aGI (d.tm σ1 i) (if v then x else y))) d
      | none=>match rW P Cs wr D ops rest ((σ1.fact k true).put o.dst (aGI (d.tm σ1 i) x)) d with
       | .ok x'=>match rW P Cs wr D ops rest ((σ1.fact k false).put o.dst (aGI (d.tm σ1 i) y)) d with
        | .ok y'=>.ok (.ite k x' y')
        | .error e=>.error e
       | .error e=>.error e
     | _=>.error (.bad 2 i)
    | _=>match aGM P Cs wr D i o σ1 d with
     | some (ls,σ',d')=>match rW P Cs wr D ops rest σ' d' with
      | .ok x=>.ok (bH4 ls x)
      | .error e=>.error e
     | none=>.error (cBJ ops o σ1 d i))=Except.ok rt1->RTPath Cs rt1 env σF e->σ1.nx=σ.nx->RelD clo wrt N tm0 es0 fx n0 pre σ1 d->tT e σ1 ->
    (∀(γ:Gh) (O:List Nat) (w:World) (a:Act),(∀t,bU X γ O e w (vAt clo wrt (zX N tm0 pre) i t) (a.tmps.getD t undef))->Region.wanted o (yielded ops a.tmps)=true) ->
    ∃rs:List Rc,rs.map (fun r=>(r.i,r.o))=(i,o)::rest/\fO P X e ops clo wrt N tm0 es0 fx n0 pre rs/\σF.n=N/\σF.tm=zX N tm0 (pre++rs)/\σF.es=rU (pA es0 (pre++rs))/\σF.nr=aHC n0 (pre++rs)/\tT e σF :=
   fun {σ1 rt1} h1 h2 h3 h4 Ae h5=>by
   have hv:=h4.vals i
   split at h1
   ·rename_i c x y hop
    rw[hv] at h1
    split at h1
    ·rename_i k f1 f2 hsc
     have pick:∀{σ2:St} {rt2:RT} (b:Bool),σ2.nx=σ.nx->RelD clo wrt N tm0 es0 fx n0 pre σ2 d->tT e σ2->(k.val e).as .bool=b->rW P Cs wr D ops rest (σ2.put o.dst (aGI (vAt clo wrt (zX N tm0 pre) i) (if b then x else y))) d = .ok rt2->RTPath Cs rt2 env σF e ->
       ∃rs:List Rc,rs.map (fun r=>(r.i,r.o))=(i,o)::rest/\fO P X e ops clo wrt N tm0 es0 fx n0 pre rs/\σF.n=N/\σF.tm=zX N tm0 (pre++rs)/\σF.es=rU (pA es0 (pre++rs))/\σF.nr=aHC n0 (pre++rs)/\tT e σF:=fun {σ2 rt2} b q1 q2 q0 q3 q4 q5=>by
      obtain⟨rs,hrs⟩:=aUW hC rest q4 q5 (by rw[bLM,q1];exact hn) (q2.putp i o _) (q0.of (bJG _ _)) hr'
      refine fin (r:=⟨i,o,aGI (vAt clo wrt (zX N tm0 pre) i) (if b then x else y),.pure,σ2.nr,σ2.nr⟩) rfl rfl ⟨hi,fun γ β es w a p1 p2 p3 p4 p5 p6 _=>?_,q2.nr,Nat.le_refl _,trivial⟩ hrs
      have hs:=aFQ p5
      have hc:=hs c
      rw[hsc] at hc
      have hcv:=aAY hc
      refine .inr ⟨h5 γ _ w a p5,.inl ⟨_,w,bQ2 hop (b:=b) (by rw[hcv,q3]),rfl,?_⟩⟩
      cases b
      ·exact hs y
      ·exact hs x
     split at h1
     ·rename_i v hkn
      exact pick v h3 h4 Ae (aOJ Ae hkn) h1 h2
     ·split at h1
      ·rename_i x' hx'
       split at h1
       ·rename_i y' hy'
        simp only[Except.ok.injEq] at h1
        subst h1
        obtain⟨hb,⟨q1,q2⟩|⟨q1,q2⟩⟩:=bJP h2
        ·exact pick (σ2:=σ1.fact k true) true h3 (h4.same rfl rfl rfl rfl) (Ae.fact hb q1) q1 hx' q2
        ·exact pick (σ2:=σ1.fact k false) false h3 (h4.same rfl rfl rfl rfl) (Ae.fact hb q1) q1 hy' q2
       ·cases h1
      ·cases h1
    ·cases h1
   ·split at h1
    ·rename_i ls σ' d' hx
     split at h1
     ·rename_i x hox
      simp only[Except.ok.injEq] at h1
      subst h1
      obtain⟨q1,env',q2,q3,_⟩:=aC9 ls h2
      rw[hn,<-h3] at q1
      obtain⟨r,r1,r2,r3,r4,r5,r6,r7,r8⟩:=cH0 (X:=X) hC h4 hx q1
      obtain⟨rs,hrs⟩:=aUW hC rest hox q2 (by rw[q3,aR6 hx,hn,h3]) r7 (Ae.of r8) hr'
      refine fin r1 r2 ⟨by rw[r1,r2];exact hi,?_,r4,r5,by rw[r1];exact r6⟩ hrs
      rw[r1,r2]
      exact r3.mono fun γ O w a Post hv Ik=>.inr ⟨h5 γ O w a hv,Ik⟩
     ·cases h1
    ·cases h1
  simp only[rW] at h
  split at h
  ·rename_i hgd
   exact go h hp rfl hd hf (fun γ O w a _=>by simp[Region.wanted,hgd])
  ·rename_i j want hgd
   split at h
   ·rename_i t ht
    have Dx:∀a:Act,yielded ops a.tmps j=match a.tmps[t]? with|some (.bool b)=>some b|_=>none:=fun a=>by unfold yielded;rw[ht];rfl
    have hv:=congrFun (hd.vals i) t
    split at h
    ·rename_i hsh
     rw[hv] at hsh
     refine skip h hp rfl hd hf fun γ O w a hvals=>?_
     have C1:=hvals t
     rw[hsh] at C1
     have hvu:a.tmps.getD t undef=undef:=C1
     simp only[Region.wanted,hgd,Dx]
     cases hat:a.tmps[t]? with
     | none=>rfl
     | some v =>
      rw[Array.getD_eq_getD_getElem?,hat] at hvu
      simp only[Option.getD_some] at hvu
      subst hvu
      rfl
    ·rename_i k f1 f2 hsh
     rw[hv] at hsh
     have hw:∀(γ:Gh) (O:List Nat) (w:World) (a:Act),(∀t,bU X γ O e w (vAt clo wrt (zX N tm0 pre) i t) (a.tmps.getD t undef))->Region.wanted o (yielded ops a.tmps)=((k.val e).as .bool==want):=fun γ O w a hvals=>by
      have C1:=hvals t
      rw[hsh] at C1
      have hvb:=aAY C1
      simp only[Region.wanted,hgd,Dx]
      cases hat:a.tmps[t]? with
      | none =>
       rw[Array.getD_eq_getD_getElem?,hat] at hvb
       cases hvb
      | some v =>
       rw[Array.getD_eq_getD_getElem?,hat] at hvb
       simp only[Option.getD_some] at hvb
       subst hvb
       simp
     split at h
     ·rename_i v hkn
      have hv:=aOJ hf hkn
      rw[hv] at hw
      split at h
      ·rename_i D1
       exact go h hp rfl hd hf fun γ O w a hvals=>by rw[hw γ O w a hvals,D1];simp
      ·rename_i D1
       exact skip h hp rfl hd hf fun γ O w a hvals=>by rw[hw γ O w a hvals];simpa using D1
     ·split at h
      ·rename_i x hx
       split at h
       ·rename_i y hy
        simp only[Except.ok.injEq] at h
        subst h
        obtain⟨hb,⟨q1,q2⟩|⟨q1,q2⟩⟩:=bJP hp
        ·rw[q1] at hw
         cases want with
         | true=>exact go (σ1:=σ.fact k true) hx q2 rfl (hd.same rfl rfl rfl rfl) (hf.fact hb q1) fun γ O w a hvals=>by rw[hw γ O w a hvals];rfl
         | false=>exact skip (σ1:=σ.fact k true) hx q2 rfl (hd.same rfl rfl rfl rfl) (hf.fact hb q1) fun γ O w a hvals=>by rw[hw γ O w a hvals];rfl
        ·rw[q1] at hw
         cases want with
         | true=>exact skip (σ1:=σ.fact k false) hy q2 rfl (hd.same rfl rfl rfl rfl) (hf.fact hb q1) fun γ O w a hvals=>by rw[hw γ O w a hvals];rfl
         | false=>exact go (σ1:=σ.fact k false) hy q2 rfl (hd.same rfl rfl rfl rfl) (hf.fact hb q1) fun γ O w a hvals=>by rw[hw γ O w a hvals];rfl
       ·cases h
      ·cases h
    ·cases h
   ·cases h
end
section
variable {P:Program} {X:Cx} {e:List SV} {ops:Array Oper} {clo:Array Nat} {wrt:List (Nat×Nat)} {N:Nat} {tm0:Tm} {es0 fx:Es} {n0:Nat} {pre rs a b:List Rc} {r:Rc}
theorem fO.split:(a:List Rc)->{pre:List Rc}->fO P X e ops clo wrt N tm0 es0 fx n0 pre (a++r::b)->bLF P X e ops clo wrt N tm0 es0 fx n0 (pre++a) r
 | [],pre,h=>by rw[List.append_nil];exact h.1
 | x::a,pre,h=>by
  have:=fO.split a h.2
  rwa [List.append_assoc] at this
theorem fO.nums:(rs:List Rc)->{pre:List Rc}->fO P X e ops clo wrt N tm0 es0 fx n0 pre rs->aHC n0 pre<=aHC n0 (pre++rs)/\∀r∈rs,aHC n0 pre<=r.nr/\r.nr<=r.nr'/\r.nr'<=aHC n0 (pre++rs)
 | [],pre,h=>⟨by simp,fun r hr=>by simp at hr⟩
 | x::rs,pre,h=>by
  obtain⟨⟨_,_,h3,h4,_⟩,h2⟩:=h
  obtain⟨i1,i2⟩:=fO.nums rs h2
  have e1:aHC n0 (pre++[x])=x.nr':=by simp[aHC]
  have e2:pre++[x]++rs=pre++x::rs:=by simp
  rw[e1] at i1 i2
  rw[e2] at i1 i2
  refine⟨by omega,fun r hr=>?_⟩
  rw[List.mem_cons] at hr
  rcases hr with rfl|hr
  ·omega
  ·have:=i2 r hr;omega
theorem fO.drop:(a:List Rc)->{pre:List Rc}->fO P X e ops clo wrt N tm0 es0 fx n0 pre (a++b)->fO P X e ops clo wrt N tm0 es0 fx n0 (pre++a) b
 | [],pre,h=>by rw[List.append_nil];exact h
 | x::a,pre,h=>by
  have:=fO.drop a h.2
  rwa [List.append_assoc] at this
theorem fO.take:(a:List Rc)->{pre:List Rc}->fO P X e ops clo wrt N tm0 es0 fx n0 pre (a++b)->fO P X e ops clo wrt N tm0 es0 fx n0 pre a
 | [],pre,h=>trivial
 | x::a,pre,h=>⟨h.1,fO.take a h.2⟩
theorem fO.apart (h:fO P X e ops clo wrt N tm0 es0 fx n0 [] (a++r::b)):(∀x∈a,x.nr'<=r.nr)/\(∀x∈b,r.nr'<=x.nr):=by
 have h1:=fO.split a h
 refine⟨fun x hx=>?_,fun x hx=>?_⟩
 ·have:=(fO.nums a (fO.take a h)).2 x hx
  have h3:=h1.2.2.1
  rw[h3];exact this.2.2
 ·have h2:=fO.drop (a++[r]) (b:=b) (by simpa using h)
  have:=(fO.nums b h2).2 x hx
  have e1:aHC n0 ([]++(a++[r]))=r.nr':=by simp[aHC]
  rw[e1] at this
  exact this.1
theorem cFH:(ord:List (Nat×Oper))->{done:Nat}->bY1 clo done ord=true->∀{x y:List (Nat×Oper)} {p:Nat×Oper},ord=x++p::y->∀j,(clo.getD p.1 0).testBit j=true->done.testBit j=true\/∃q∈x,q.1=j
 | [],done,h,x,y,p,hs,j,hj=>by simp at hs
 | c::ord,done,h,x,y,p,hs,j,hj=>by
  simp only[bY1,Bool.and_eq_true,beq_iff_eq] at h
  cases x with
  | nil =>
   simp only[List.nil_append,List.cons.injEq] at hs
   obtain⟨rfl,rfl⟩:=hs
   left
   rw[<-h.1,Nat.testBit_and,Bool.and_eq_true] at hj
   exact hj.2
  | cons c' x =>
   simp only[List.cons_append,List.cons.injEq] at hs
   obtain⟨rfl,hs⟩:=hs
   rcases cFH ord h.2 hs j hj with h1|⟨q,h1,h2⟩
   ·rw[Nat.testBit_or,Bool.or_eq_true,Nat.testBit_two_pow] at h1
    rcases h1 with h1|h1
    ·exact .inl h1
    ·exact .inr ⟨c,by simp,by simpa using h1⟩
   ·exact .inr ⟨q,by simp[h1],h2⟩
theorem bXE {t:Nat}:(l:List Rc)->{tm:Tm}->(∀r∈l,r.o.dst≠some t)->gX (zX N tm l) t=gX tm t
 | [],tm,h=>rfl
 | r::l,tm,h=>by
  show gX (zX N (bBV N tm r.o.dst r.s) l) t=_
  rw[bXE l fun x hx=>h x (by simp[hx])]
  have:=h r (by simp)
  cases hd:r.o.dst with
  | none=>rfl
  | some d =>
   by_cases hb:d<N
   ·rw[bCI hb,uV (fun he=>this (by rw[hd,he]))]
   ·rw[bEK (Nat.le_of_not_lt hb)]
theorem bNL {t:Nat} {r0:Rc}:(l:List Rc)->{tm:Tm}->r0∈l->r0.o.dst=some t->(∀r∈l,r.o.dst=some t->r=r0)->t<N->gX (zX N tm l) t=r0.s
 | r::l,tm,h0,hd,hu,ht=>by
  show gX (zX N (bBV N tm r.o.dst r.s) l) t=_
  by_cases hm:r0∈l
  ·exact bNL l hm hd (fun x hx=>hu x (by simp[hx])) ht
  ·rw[List.mem_cons] at h0
   have h1:r0=r:=h0.resolve_right hm
   subst h1
   rw[bXE l fun x hx hx'=>hm (hu x (by simp[hx]) hx' ▸ hx),hd,bCI ht,aA1]
theorem bED {t:Nat}:(l:List Rc)->{tm:Tm}->N<=t->gX (zX N tm l) t=gX tm t
 | [],tm,h=>rfl
 | r::l,tm,h=>by
  show gX (zX N (bBV N tm r.o.dst r.s) l) t=_
  rw[bED l h]
  cases hd:r.o.dst with
  | none=>rfl
  | some d =>
   by_cases hb:d<N
   ·have hne:d≠t:=fun he=>by subst he;exact Nat.not_lt.2 h hb
    rw[bCI hb,uV hne]
   ·rw[bEK (Nat.le_of_not_lt hb)]
theorem bY9 {t:Nat} {l l':List Rc} {tm:Tm} (hu:∀r∈l,∀r'∈l',r.o.dst=some t->r'.o.dst=some t->r=r') (hu1:∀r∈l,∀r'∈l,r.o.dst=some t->r'.o.dst=some t->r=r') (hu2:∀r∈l',∀r'∈l',r.o.dst=some t->r'.o.dst=some t->r=r')
  (h:(∃r∈l,r.o.dst=some t)↔∃r∈l',r.o.dst=some t):gX (zX N tm l) t=gX (zX N tm l') t:=by
 by_cases ht:t<N
 ·by_cases he:∃r∈l,r.o.dst=some t
  ·obtain⟨r,h1,h2⟩:=he
   obtain⟨r',h3,h4⟩:=h.1 ⟨r,h1,h2⟩
   rw[bNL l h1 h2 (fun x hx hd=>(hu1 r h1 x hx h2 hd).symm) ht,bNL l' h3 h4 (fun x hx hd=>(hu2 r' h3 x hx h4 hd).symm) ht,hu r h1 r' h3 h2 h4]
  ·have he':¬ ∃r∈l',r.o.dst=some t:=fun hx=>he (h.2 hx)
   rw[bXE l fun r hr hd=>he ⟨r,hr,hd⟩,bXE l' fun r hr hd=>he' ⟨r,hr,hd⟩]
 ·rw[bED l (by omega),bED l' (by omega)]
theorem aB1 (x y:List Rc) (es:Es):pA es (x++y)=pA (pA es x) y:=by simp[pA,List.foldl_append]
theorem aT8:(l:List Rc)->{es:Es}->(∀r∈l,r.kd = .pure)->pA es l=es
 | [],es,h=>rfl
 | r::l,es,h=>by
  show pA (match r.kd with | .pure=>es | .still new=>new++es | .turn es1=>es1) l=es
  rw[h r (by simp)]
  exact aT8 l fun x hx=>h x (by simp[hx])
theorem bB7 {p:Rc->Bool}:(l:List Rc)->{es:Es}->(∀r∈l,r.kd.mem=true->p r=true)->pA es (l.filter p)=pA es l
 | [],es,h=>rfl
 | r::l,es,h=>by
  have ih:=fun es=>bB7 (es:=es) l fun x hx=>h x (by simp[hx])
  cases hp:p r
  ·have hk:r.kd = .pure:=by
    have:=h r (by simp)
    cases hk:r.kd with
    | pure=>rfl
    | _=>rw[hk] at this;rw[this rfl] at hp;cases hp
   rw[List.filter_cons_of_neg (by simp[hp]),ih]
   show _=pA (match r.kd with | .pure=>es | .still new=>new++es | .turn es1=>es1) l
   rw[hk]
  ·rw[List.filter_cons_of_pos hp]
   exact ih _
theorem bJR:(l:List Rc)->{x y:Es}->x.Perm y->(∀r∈l,r.kd.trn=false)->(pA x l).Perm (pA y l)
 | [],x,y,h,_=>h
 | r::l,x,y,h,ht=>by
  show(pA (match r.kd with | .pure=>x | .still new=>new++x | .turn es1=>es1) l).Perm (pA (match r.kd with | .pure=>y | .still new=>new++y | .turn es1=>es1) l)
  refine bJR l ?_ fun q hq=>ht q (by simp[hq])
  cases r.kd with
  | pure=>exact h
  | still new=>exact h.append_left new
  | turn es1=>exact .refl _
theorem bEE {new:Es}:(l:List Rc)->{x:Es}->(∀r∈l,r.kd.trn=false)->(pA (new++x) l).Perm (new++pA x l)
 | [],x,_=>.refl _
 | r::l,x,ht=>by
  have hr:=ht r (by simp)
  have hl:∀r∈l,r.kd.trn=false:=fun q hq=>ht q (by simp[hq])
  show(pA (match r.kd with | .pure=>new++x | .still new'=>new'++(new++x) | .turn es1=>es1) l).Perm (new++pA (match r.kd with | .pure=>x | .still new=>new++x | .turn es1=>es1) l)
  cases hk:r.kd with
  | pure=>exact bEE l hl
  | still new' =>
   refine(bJR l (y:=new++(new'++x)) ?_ hl).trans (bEE l hl)
   show(new'++(new++x)).Perm (new++(new'++x))
   rw[<-List.append_assoc,<-List.append_assoc]
   exact List.perm_append_comm.append_right x
  | turn es1=>rw[hk] at hr;cases hr
theorem bGP:(l:List Rc)->{x:Es}->(∀r∈l,r.kd.trn=false)->∀p,p∈pA x l↔p∈x\/∃r∈l,∃new,r.kd = .still new/\p∈new
 | [],x,ht,p=>by simp[pA]
 | r::l,x,ht,p=>by
  have hr:=ht r (by simp)
  have ih:=fun x=>bGP (x:=x) l (fun q hq=>ht q (by simp[hq])) p
  show p∈pA (match r.kd with | .pure=>x | .still new'=>new'++x | .turn es1=>es1) l↔_
  rw[ih]
  cases hk:r.kd with
  | pure=>simp[hk]
  | still new' =>
   simp only[List.mem_append,List.mem_cons,exists_eq_or_imp,hk,Kd.still.injEq,exists_eq_left']
   constructor
   ·rintro((h|h)|h)
    ·exact .inr (.inl h)
    ·exact .inl h
    ·exact .inr (.inr h)
   ·rintro(h|h|h)
    ·exact .inl (.inr h)
    ·exact .inl (.inl h)
    ·exact .inr h
  | turn es1=>rw[hk] at hr;cases hr
theorem bKE (l:List Rc):∀q j,(q,j)∈aS0 l↔∃r∈l,r.i=j/\∃new,r.kd = .still new/\∃p∈new,p.1=q:=by
 have key:∀(l:List Rc) (c:List (Nat×Nat)) (q j:Nat),(q,j)∈l.foldl (fun c r=>match r.kd with | .still new=>new.map (fun p=>(p.1,r.i))++c|_=>c) c↔(q,j)∈c\/∃r∈l,r.i=j/\∃new,r.kd = .still new/\∃p∈new,p.1=q:=by
  intro l
  induction l with
  | nil=>intro c q j;simp
  | cons r l ih =>
   intro c q j
   rw[List.foldl_cons,ih]
   cases hk:r.kd with
   | pure=>simp[hk]
   | turn es1=>simp[hk]
   | still new =>
    simp only[List.mem_append,List.mem_map,nB,List.mem_cons,exists_eq_or_imp,hk,Kd.still.injEq,exists_eq_left']
    constructor
    ·rintro((⟨p,hp,h1,h2⟩|h)|h)
     ·exact .inr (.inl ⟨h2,p,hp,h1⟩)
     ·exact .inl h
     ·exact .inr (.inr h)
    ·rintro(h|⟨h2,p,hp,h1⟩|h)
     ·exact .inl (.inr h)
     ·exact .inl (.inl ⟨p,hp,h1,h2⟩)
     ·exact .inr h
 intro q j
 exact(show((q,j)∈aS0 l)↔_ from key l [] q j).trans (by simp)
theorem aQS {α β:Type} {f:α->β}:{l:List α}->(l.map f).Nodup->∀{x y:α},x∈l->y∈l->f x=f y->x=y
 | [],_,x,y,hx,_,_=>by simp at hx
 | z::l,h,x,y,hx,hy,he=>by
  simp only[List.map_cons,List.nodup_cons,List.mem_map] at h
  rw[List.mem_cons] at hx hy
  rcases hx with rfl|hx<;>rcases hy with rfl|hy
  ·rfl
  ·exact absurd ⟨y,hy,he.symm⟩ h.1
  ·exact absurd ⟨x,hx,he⟩ h.1
  ·exact aQS h.2 hx hy he
theorem bMS {p:Rc->Bool} (h:p r=true):(a++r::b).filter p=a.filter p++r::b.filter p:=by
 rw[List.filter_append,List.filter_cons_of_pos h]
theorem bIQ {p:Rc->Bool} (h:p r=false):(a++r::b).filter p=a.filter p++b.filter p:=by
 rw[List.filter_append,List.filter_cons_of_neg (by simp[h])]
end
def aCR (es0:Es) (S:Nat->Bool) (rs:List Rc):Es:=pA es0 (rs.filter fun r=>S r.i)
def tmS (N:Nat) (tm0:Tm) (S:Nat->Bool) (rs:List Rc):Tm:=zX N tm0 (rs.filter fun r=>S r.i)
structure Dyn (X:Cx) (g0:Gh) (e:List SV) (clo:Array Nat) (N:Nat) (tm0:Tm) (es0 fx:Es) (n0:Nat) (rs:List Rc) (S:Nat->Bool) (γ:Gh) (β:Bt) (a:Act) (w:World):Prop where
 closed:∀r∈rs,S r.i=true->∀j,(clo.getD r.i 0).testBit j=true->S j=true
 mem:MemOK X γ β e w (aCR es0 S rs)
 keys:dB (aCR es0 S rs)
 frame:FrameOK X w
 gh:lF γ
 len:N=a.tmps.size
 vals:∀t,bU X γ (Os γ (aCR es0 S rs)) e w (gX (tmS N tm0 S rs) t) (a.tmps.getD t undef)
 fresh:∀r∈rs,S r.i=false->∀q,r.nr<=q->q<r.nr'->γ q=none
 top:∀q,aHC n0 rs<=q->γ q=none
 nodef:a.defers=[]
 base:∀r v,g0 r=some v->γ r=some v
structure OrdOK (P:Program) (X:Cx) (e:List SV) (ops:Array Oper) (clo:Array Nat) (wrt:List (Nat×Nat)) (N:Nat) (tm0:Tm) (es0 fx:Es) (n0:Nat) (rs:List Rc):Prop where
 good:fO P X e ops clo wrt N tm0 es0 fx n0 [] rs
 nd:(rs.map (·.i)).Nodup
 lin:∀x r y,rs=x++r::y->∀j,(clo.getD r.i 0).testBit j=true->∃q∈x,q.i=j
 once:∀r∈rs,∀r'∈rs,∀t,r.o.dst=some t->r'.o.dst=some t->r=r'
 fsub:∀p∈fx,p∈es0
 csz:∀r∈rs,r.i<clo.size
 wno:∀t,wrt.find? (fun p=>p.1==t)=none->∀r∈rs,r.o.dst≠some t
 wyes:∀t p,wrt.find? (fun p=>p.1==t)=some p->∃r∈rs,r.i=p.2/\r.o.dst=some t
section
variable {P:Program} {X:Cx} {g0 γ:Gh} {β:Bt} {e:List SV} {ops:Array Oper} {clo:Array Nat} {wrt:List (Nat×Nat)} {N:Nat} {tm0:Tm} {es0 fx:Es} {n0:Nat} {pre rs x y:List Rc} {r:Rc} {S:Nat->Bool} {a:Act} {w:World}
def aA9 (S:Nat->Bool) (i:Nat):Nat->Bool:=fun j=>S j||j==i
theorem kQ {l:List Rc} {r:Rc}:r∈l.filter (fun r=>S r.i)↔r∈l/\S r.i=true:=by simp
theorem OrdOK.other (h:OrdOK P X e ops clo wrt N tm0 es0 fx n0 rs) (hs:rs=x++r::y):∀q∈x++y,q.i≠r.i:=fun q hq he=>by
 have:=h.nd
 rw[hs] at this
 simp only[List.map_append,List.map_cons,List.nodup_append,List.nodup_cons,List.mem_map,List.mem_cons] at this
 rw[List.mem_append] at hq
 rcases hq with hq|hq
 ·exact this.2.2 q.i ⟨q,hq,rfl⟩ r.i (.inl rfl) he
 ·exact this.2.1.1 ⟨q,hq,he⟩
theorem bQR (h:OrdOK P X e ops clo wrt N tm0 es0 fx n0 rs) (hs:rs=x++r::y):rs.filter (fun q=>aA9 S r.i q.i)=x.filter (fun q=>S q.i)++r::y.filter (fun q=>S q.i):=by
 have ho:=h.other hs
 rw[hs,bMS (by simp[aA9])]
 have:∀l:List Rc,(∀q∈l,q.i≠r.i)->l.filter (fun q=>aA9 S r.i q.i)=l.filter (fun q=>S q.i):=fun l hl=>by
  apply List.filter_congr
  intro q hq
  simp[aA9,hl q hq]
 rw[this x fun q hq=>ho q (by simp[hq]),this y fun q hq=>ho q (by simp[hq])]
theorem Dyn.vat (h:OrdOK P X e ops clo wrt N tm0 es0 fx n0 rs) (hd:Dyn X g0 e clo N tm0 es0 fx n0 rs S γ β a w) (hs:rs=x++r::y) (hS:S r.i=false) (hc:∀j,(clo.getD r.i 0).testBit j=true->S j=true) (t:Nat) :
  bU X γ (Os γ (aCR es0 S rs)) e w (vAt clo wrt (zX N tm0 x) r.i t) (a.tmps.getD t undef):=by
 have hx:∀q∈x,q∈rs:=fun q hq=>by rw[hs];simp[hq]
 have same:((∃q∈x,q.o.dst=some t)↔∃q∈rs.filter (fun r=>S r.i),q.o.dst=some t)->bU X γ (Os γ (aCR es0 S rs)) e w (gX (zX N tm0 x) t) (a.tmps.getD t undef):=fun H8=>by
  rw[bY9 (l':=rs.filter fun r=>S r.i) (fun q hq q' hq' h1 h2=>h.once q (hx q hq) q' (kQ.1 hq').1 t h1 h2) (fun q hq q' hq' h1 h2=>h.once q (hx q hq) q' (hx q' hq') t h1 h2)
   (fun q hq q' hq' h1 h2=>h.once q (kQ.1 hq).1 q' (kQ.1 hq').1 t h1 h2) H8]
  exact hd.vals t
 unfold vAt
 split
 ·rename_i p t' j hf
  obtain⟨rj,Dn,C5,Gq⟩:=h.wyes t _ hf
  simp only at C5
  split
  ·rename_i hb
   simp only[Bool.or_eq_true] at hb
   refine same ?_
   rcases hb with hb|hb
   ·obtain⟨q,hq1,hq2⟩:=h.lin x r y hs j hb
    have C3:q=rj:=by
     have:=h.nd
     have h1:=hx q hq1
     exact aQS this h1 Dn (by rw[hq2,C5])
    subst C3
    exact⟨fun _=>⟨q,kQ.2 ⟨Dn,by rw[C5];exact hc j hb⟩,Gq⟩,fun _=>⟨q,hq1,Gq⟩⟩
   ·refine⟨fun⟨q,hq1,hq2⟩=>?_,fun⟨q,hq1,hq2⟩=>?_⟩
    ·have C3:=h.once q (hx q hq1) rj Dn t hq2 Gq
     subst C3
     obtain⟨x1,x2,rfl⟩:=List.append_of_mem hq1
     rw[<-C5] at hb
     obtain⟨z,hz1,hz2⟩:=h.lin x1 q (x2++r::y) (by rw[hs];simp) r.i hb
     exact absurd hz2 (h.other hs z (by simp[hz1]))
    ·have C3:=h.once q (kQ.1 hq1).1 rj Dn t hq2 Gq
     subst C3
     have:=hd.closed q Dn (kQ.1 hq1).2 r.i (by rw[C5];exact hb)
     rw[hS] at this;cases this
  ·trivial
 ·rename_i hf
  have hno:=h.wno t hf
  exact same ⟨fun⟨q,hq1,hq2⟩=>absurd hq2 (hno q (hx q hq1)),fun⟨q,hq1,hq2⟩=>absurd hq2 (hno q (kQ.1 hq1).1)⟩
theorem bZI (h:OrdOK P X e ops clo wrt N tm0 es0 fx n0 rs) (hs:rs=x++r::y) (hS:S r.i=false) {O:List Nat} (hlen:N=a.tmps.size) (hv:∀t,bU X γ O e w (gX (tmS N tm0 S rs) t) (a.tmps.getD t undef)) {v:Value} (hr:bU X γ O e w r.s v) (t:Nat) :
  bU X γ O e w (gX (tmS N tm0 (aA9 S r.i) rs) t) ((a.put r.o.dst v).tmps.getD t undef):=by
 have Cg:r∈rs:=by rw[hs];simp
 have hmem:r∈rs.filter fun q=>aA9 S r.i q.i:=List.mem_filter.2 ⟨Cg,by simp[aA9]⟩
 have hsub:∀q∈rs.filter (fun q=>aA9 S r.i q.i),q∈rs:=fun q hq=>(List.mem_filter.1 hq).1
 by_cases hd:r.o.dst=some t
 ·by_cases ht:t<N
  ·have e1:gX (tmS N tm0 (aA9 S r.i) rs) t=r.s:=bNL _ hmem hd (fun q hq hq'=>h.once q (hsub q hq) r Cg t hq' hd) ht
   rw[e1,hd]
   have:(a.put (some t) v).tmps.getD t undef=v:=by
    simp only[Act.put]
    rw[Array.getD_eq_getD_getElem?,Array.getElem?_setIfInBounds_self]
    rw[if_pos (by omega)]
    rfl
   rw[this];exact hr
  ·have e1:gX (tmS N tm0 (aA9 S r.i) rs) t=gX (tmS N tm0 S rs) t:=(bED _ (by omega)).trans (bED _ (by omega)).symm
   have e2:(a.put r.o.dst v).tmps=a.tmps:=by
    rw[hd]
    apply Array.ext'
    simp only[Act.put,Array.toList_setIfInBounds]
    exact List.set_eq_of_length_le (by simp;omega)
   rw[e1,e2];exact hv t
 ·have e1:gX (tmS N tm0 (aA9 S r.i) rs) t=gX (tmS N tm0 S rs) t:=by
   refine bY9 (fun q hq q' hq' h1 h2=>h.once q (hsub q hq) q' (kQ.1 hq').1 t h1 h2) (fun q hq q' hq' h1 h2=>h.once q (hsub q hq) q' (hsub q' hq') t h1 h2) (fun q hq q' hq' h1 h2=>h.once q (kQ.1 hq).1 q' (kQ.1 hq').1 t h1 h2) ?_
   refine⟨fun⟨q,hq1,hq2⟩=>?_,fun⟨q,hq1,hq2⟩=>⟨q,List.mem_filter.2 ⟨(kQ.1 hq1).1,by simp[aA9,(kQ.1 hq1).2]⟩,hq2⟩⟩
   obtain⟨h1,h2⟩:=List.mem_filter.1 hq1
   simp only[aA9,Bool.or_eq_true,beq_iff_eq] at h2
   rcases h2 with h2|h2
   ·exact⟨q,kQ.2 ⟨h1,h2⟩,hq2⟩
   ·have C3:q=r:=aQS h.nd h1 Cg h2
    subst C3
    exact absurd hq2 hd
  rw[e1]
  have e2:(a.put r.o.dst v).tmps.getD t undef=a.tmps.getD t undef:=by
   cases Ij:r.o.dst with
   | none=>rfl
   | some d =>
    have hne:d≠t:=fun he=>hd (by rw[Ij,he])
    simp only[Act.put]
    rw[Array.getD_eq_getD_getElem?,Array.getD_eq_getD_getElem?,Array.getElem?_setIfInBounds_ne hne]
  rw[e2];exact hv t
end
section
variable {P:Program} {X:Cx} {g0 γ γ':Gh} {β β':Bt} {e:List SV} {ops:Array Oper} {clo:Array Nat} {wrt:List (Nat×Nat)} {N:Nat} {tm0:Tm} {es0 fx:Es} {n0:Nat} {pre rs x y:List Rc} {r:Rc} {S:Nat->Bool} {a:Act} {w w':World}
theorem bB1.mono {o:Oper} {Q Q':Value->World->Prop} (h:bB1 P ops o a w Q) (hq:∀v w',Q v w'->Q' v w'):bB1 P ops o a w Q':=by
 rcases h with⟨h1,h2⟩|⟨h1,h2⟩
 ·exact .inl ⟨h1,hq _ _ h2⟩
 ·exact .inr ⟨h1,h2.mono hq⟩
theorem OrdOK.at' (h:OrdOK P X e ops clo wrt N tm0 es0 fx n0 rs) (hs:rs=x++r::y):bLF P X e ops clo wrt N tm0 es0 fx n0 x r:=by
 have h1:=h.good
 rw[hs] at h1
 have:=fO.split x h1
 rwa [List.nil_append] at this
theorem OrdOK.apart (h:OrdOK P X e ops clo wrt N tm0 es0 fx n0 rs) (hs:rs=x++r::y):(∀q∈x,q.nr'<=r.nr)/\(∀q∈y,r.nr'<=q.nr)/\r.nr'<=aHC n0 rs/\r.nr<=r.nr':=by
 have h1:=h.good
 rw[hs] at h1
 obtain⟨a1,a2⟩:=fO.apart h1
 have h2:=(fO.nums rs h.good).2 r (by rw[hs];simp)
 rw[List.nil_append] at h2
 exact⟨a1,a2,h2.2.2,h2.2.1⟩
theorem bWA:(l:List Rc)->(∀r∈l,∀es1,r.kd = .turn es1->∀p∈fx,p∈es1)->{es:Es}->(∀p∈fx,p∈es)->∀p∈fx,p∈pA es l
 | [],_,es,h=>h
 | r::l,hl,es,h=>by
  show ∀p∈fx,p∈pA (match r.kd with | .pure=>es | .still new=>new++es | .turn es1=>es1) l
  refine bWA l (fun q hq=>hl q (by simp[hq])) ?_
  cases hk:r.kd with
  | pure=>exact h
  | still new=>exact fun p hp=>List.mem_append_right _ (h p hp)
  | turn es1=>exact hl r (by simp) es1 hk
theorem OrdOK.later_mem (h:OrdOK P X e ops clo wrt N tm0 es0 fx n0 rs) (hcl:∀r∈rs,S r.i=true->∀j,(clo.getD r.i 0).testBit j=true->S j=true) (hs:rs=x++r::y) (hS:S r.i=false) (hm:r.kd.mem=true):∀q∈y,S q.i=true->q.kd.trn=false/\(r.kd.trn=true->q.kd.mem=false):=by
 intro q hq hSq
 obtain⟨y1,y2,rfl⟩:=List.append_of_mem hq
 have hq':=h.at' (x:=x++r::y1) (r:=q) (y:=y2) (by rw[hs];simp)
 have hno:q.kd.trn=false:=by
  cases hk:q.kd with
  | turn es1 =>
   have h5:=hq'.2.2.2.2
   rw[hk] at h5
   have:=hcl q (by rw[hs];simp) hSq r.i (h5.1 r (by simp) hm)
   rw[hS] at this;cases this
  | _=>rfl
 refine⟨hno,fun ht=>?_⟩
 cases hk:q.kd with
 | pure=>rfl
 | still new =>
  have h5:=hq'.2.2.2.2
  rw[hk] at h5
  have:=h5.1
  simp[bBM,ht] at this
 | turn es1=>rw[hk] at hno;cases hno
theorem Dyn.step (h:OrdOK P X e ops clo wrt N tm0 es0 fx n0 rs) (hd:Dyn X g0 e clo N tm0 es0 fx n0 rs S γ β a w) (hs:rs=x++r::y) (hS:S r.i=false) (hc:∀j,(clo.getD r.i 0).testBit j=true->S j=true) :
  bB1 P ops r.o a w fun v w'=>∃γ' β',Dyn X g0 e clo N tm0 es0 fx n0 rs (aA9 S r.i) γ' β' (a.put r.o.dst v) w':=by
 have Cg:r∈rs:=by rw[hs];simp
 obtain⟨g1,g2,g3,g4,g5⟩:=h.at' hs
 obtain⟨ap1,ap2,ap3,ap4⟩:=h.apart hs
 have Kc:∀p∈fx,p∈aCR es0 S rs:=bWA _ (fun q hq es1 hk=>by
  obtain⟨q1,q2⟩:=kQ.1 hq
  obtain⟨y1,y2,he⟩:=List.append_of_mem q1
  have:=(h.at' he).2.2.2.2
  rw[hk] at this
  refine this.2.resolve_right fun hh=>?_
  have h9:=hd.closed q q1 q2 r.i (hh r.i (h.csz r Cg) (fun e=>by rw[e,q2] at hS;cases hS))
  rw[hS] at h9;cases h9) h.fsub
 have D:=g2 γ β (aCR es0 S rs) w a hd.mem hd.keys hd.frame hd.gh (hd.vat h hs hS hc) (hd.fresh r Cg hS) Kc
 have fin:∀{γ':Gh} {β':Bt} {w':World} {v:Value},MemOK X γ' β' e w' (aCR es0 (aA9 S r.i) rs)->dB (aCR es0 (aA9 S r.i) rs)->FrameOK X w'->lF γ'->Later X γ (Os γ (aCR es0 S rs)) e w γ' (Os γ' (aCR es0 (aA9 S r.i) rs)) e w' ->
   (∀q,(q<r.nr\/r.nr'<=q)->γ' q=γ q)->bU X γ' (Os γ' (aCR es0 (aA9 S r.i) rs)) e w' r.s v->Dyn X g0 e clo N tm0 es0 fx n0 rs (aA9 S r.i) γ' β' (a.put r.o.dst v) w':=fun {γ' β' w' v} m k f gh l sm hv=>by
  refine⟨fun q hq hq1 j hj=>?_,m,k,f,gh,?_,fun t=>bZI h hs hS hd.len (fun t=>bU.later l (hd.vals t)) hv t,fun q hq hq1 j j1 j2=>?_,fun q hq=>?_,?_,fun p u hp=>l.gh p u (hd.base p u hp)⟩
  ·simp only[aA9,Bool.or_eq_true,beq_iff_eq] at hq1⊢
   rcases hq1 with hq1|hq1
   ·exact .inl (hd.closed q hq hq1 j hj)
   ·rw[hq1] at hj
    exact .inl (hc j hj)
  ·rw[hd.len];cases r.o.dst<;>simp[Act.put]
  ·simp only[aA9,Bool.or_eq_false_iff,beq_eq_false_iff_ne] at hq1
   have Lg:q∈x\/q∈y:=by
    rw[hs] at hq
    simp only[List.mem_append,List.mem_cons] at hq
    rcases hq with hq|rfl|hq
    ·exact .inl hq
    ·exact absurd rfl hq1.2
    ·exact .inr hq
   rw[sm j (by
    rcases Lg with h1|h1
    ·have:=ap1 q h1;omega
    ·have:=ap2 q h1;omega)]
   exact hd.fresh q hq hq1.1 j j1 j2
  ·rw[sm q (.inr (by omega))]
   exact hd.top q hq
  ·cases r.o.dst<;>exact hd.nodef
 have Hl:=bQR (S:=S) h hs
 have C8:rs.filter (fun q=>S q.i)=x.filter (fun q=>S q.i)++y.filter (fun q=>S q.i):=by rw[hs,bIQ hS]
 cases hk:r.kd with
 | pure =>
  rw[hk] at D
  refine D.mono fun v w' ⟨hw,hv⟩=>⟨γ,β,?_⟩
  subst hw
  have ht:aCR es0 (aA9 S r.i) rs=aCR es0 S rs:=by
   unfold aCR
   rw[Hl,C8,aB1,aB1]
   show pA (match r.kd with | .pure=>_ | .still new=>new++_ | .turn es1=>es1) _=_
   rw[hk]
  exact fin (by rw[ht];exact hd.mem) (by rw[ht];exact hd.keys) hd.frame hd.gh (by rw[ht];exact .refl) (fun _ _=>rfl) (by rw[ht];exact hv)
 | still new =>
  rw[hk] at D g5
  have hno:∀q∈rs.filter (fun q=>S q.i),q.kd.trn=false:=fun q hq=>by
   obtain⟨q1,q2⟩:=kQ.1 hq
   rw[hs] at q1
   simp only[List.mem_append,List.mem_cons] at q1
   rcases q1 with q1|rfl|q1
   ·have:=g5.1
    simp only[bBM,List.any_eq_false] at this
    simpa using this q q1
   ·rw[hk];rfl
   ·exact(h.later_mem hd.closed hs hS (by rw[hk];rfl) q q1 q2).1
  have hnx:∀q∈x,q.kd.trn=false:=fun q hq=>by
   have:=g5.1
   simp only[bBM,List.any_eq_false] at this
   simpa using this q hq
  have ids:∀q∈x,∀nw,q.kd = .still nw->∀p∈nw,q.nr<=p.1/\p.1<q.nr':=fun q hq nw Et p hp=>by
   obtain⟨x1,x2,rfl⟩:=List.append_of_mem hq
   have:=(h.at' (x:=x1) (r:=q) (y:=x2++r::y) (by rw[hs];simp)).2.2.2.2
   rw[Et] at this
   exact this.2 p hp
  have hx:∀q∈x,q∈rs:=fun q hq=>by rw[hs];simp[hq]
  have D':=D fun q en hq=>by
   unfold aCR
   rw[bGP _ hno]
   have mem0:fL (pA es0 x) q=some en->(q,en)∈es0\/∃r1∈x,∃nw,r1.kd = .still nw/\(q,en)∈nw:=fun hl=>(bGP x hnx _).1 (mN hl)
   unfold lAt at hq
   split at hq
   ·rename_i p q' j hf
    split at hq
    ·rename_i hb
     rcases mem0 hq with h1|⟨r1,h1,nw,h2,h3⟩
     ·exact .inl h1
     ·have Gt:=List.mem_of_find?_eq_some hf
      have Gu:=List.find?_some hf
      simp only[beq_iff_eq] at Gu
      subst Gu
      obtain⟨r2,k1,k2,nw2,k3,p2,k4,k5⟩:=(bKE x _ _).1 Gt
      have i1:=ids r1 h1 nw h2 _ h3
      have i2:=ids r2 k1 nw2 k3 _ k4
      simp only at i1
      rw[k5] at i2
      have Mc:r1=r2:=by
       obtain⟨x1,x2,he⟩:=List.append_of_mem (hx r1 h1)
       obtain⟨b1,b2,_,_⟩:=h.apart he
       have:=hx r2 k1
       rw[he] at this
       simp only[List.mem_append,List.mem_cons] at this
       rcases this with h5|h5|h5
       ·have:=b1 r2 h5;omega
       ·exact h5.symm
       ·have:=b2 r2 h5;omega
      subst Mc
      exact .inr ⟨r1,kQ.2 ⟨hx r1 h1,by rw[k2];exact hc j hb⟩,nw,h2,h3⟩
    ·cases hq
   ·rename_i hf
    rcases mem0 hq with h1|⟨r1,h1,nw,h2,h3⟩
    ·exact .inl h1
    ·have:(q,r1.i)∈aS0 x:=(bKE x _ _).2 ⟨r1,h1,rfl,nw,h2,(q,en),h3,rfl⟩
     rw[List.find?_eq_none] at hf
     exact absurd (by simp) (hf _ this)
  refine D'.mono fun v w' ⟨γ',β',Q⟩=>?_
  have hp:(aCR es0 (aA9 S r.i) rs).Perm (new++aCR es0 S rs):=by
   unfold aCR
   rw[Hl,C8,aB1,aB1]
   have:pA (pA es0 (x.filter fun q=>S q.i)) (r::y.filter fun q=>S q.i)=pA (new++pA es0 (x.filter fun q=>S q.i)) (y.filter fun q=>S q.i):=by
    show pA (match r.kd with | .pure=>_ | .still new=>new++_ | .turn es1=>es1) _=_
    rw[hk]
   rw[this]
   exact bEE _ fun q hq=>hno q (by rw[C8];simp only[List.mem_append];exact .inr hq)
  obtain⟨m1,m2⟩:=Q.mem.perm hp
  exact⟨γ',β',fin m1 (Q.keys.perm hp) Q.frame Q.gh (Q.later.trans m2) (fun q hq=>(Q.same q hq).1) (bU.later m2 Q.val)⟩
 | turn es1 =>
  rw[hk] at D g5
  have Jj:∀q∈y.filter (fun q=>S q.i),q.kd = .pure:=fun q hq=>by
   obtain⟨q1,q2⟩:=kQ.1 hq
   have:=(h.later_mem hd.closed hs hS (by rw[hk];rfl) q q1 q2).2 (by rw[hk];rfl)
   cases Et:q.kd with
   | pure=>rfl
   | _=>rw[Et] at this;cases this
  have ht:aCR es0 S rs=pA es0 x:=by
   unfold aCR
   rw[C8,aB1,aT8 _ Jj]
   exact bB7 x fun q hq hm=>hc q.i (g5.1 q hq hm)
  have ht':aCR es0 (aA9 S r.i) rs=es1:=by
   unfold aCR
   rw[Hl,aB1]
   show pA (match r.kd with | .pure=>_ | .still new=>new++_ | .turn es1=>es1) _=_
   rw[hk]
   exact aT8 _ Jj
  refine(D ht).mono fun v w' ⟨γ',β',Q⟩=>⟨γ',β',?_⟩
  exact fin (by rw[ht'];exact Q.mem) (by rw[ht'];exact Q.keys) Q.frame Q.gh (by rw[ht'];exact Q.later) Q.same (by rw[ht'];exact Q.val)
end
end Go.Proofs.YtfmfeplebgbpmaaGreat
