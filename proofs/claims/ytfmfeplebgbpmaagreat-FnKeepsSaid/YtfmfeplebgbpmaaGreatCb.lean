/- Cb: lemmas. No conditions. -/
import Derived.Test.YtfmfeplebgbpmaaGreatCa
import Derived.Great.BuildSlice
import Derived.Deep.AppendSrc
namespace Go.Proofs.YtfmfeplebgbpmaaGreat
open Go.ChangeShapes Go.WideShapes Go.ChangeAt Go.RowKit Go.Deep
set_option linter.unusedVariables false
set_option linter.unusedSimpArgs false
section
variable {P:Program} {Cs:List Con} {X:Cx} {γ:Gh} {O:List Nat} {env:List SV} {w:World}
theorem bGI:{ls:List Sh}->{cs:List Value}->xW X γ O env w ls cs->{i:Nat}->{s:Sh}->ls[i]?=some s->∃c,cs[i]?=some c/\uQ X γ O env w s c
 | [],_,_,i,s,hi=>by simp at hi
 | l::ls,_,⟨c,cs',hc,h1,h2⟩,0,s,hi=>by
  subst hc
  simp only[List.getElem?_cons_zero,eW] at hi
  subst hi
  exact⟨c,rfl,h1⟩
 | l::ls,_,⟨c,cs',hc,h1,h2⟩,i+1,s,hi=>by
  subst hc
  simpa using bGI h2 (by simpa using hi)
theorem yQ {s:Sh} {v:Value} (h:uQ X γ O env w s v):bU X γ O env w s v:=by
 cases s<;>first|exact h|exact absurd h id
theorem bHE {f:Field} (hc:P.cellsOf f.type≠0) (b off:Nat):(fieldPlace ⟨b,off,none⟩ f).run P w = .ok ⟨b,off+f.offset,none⟩ w:=by
 have hadd:((⟨b,off,none⟩:Addr).add f.offset)=⟨b,off+f.offset,none⟩:=by simp only[Addr.add];split<;>simp_all
 cases hi:P.info? f.type with
 | none=>simp[Program.cellsOf,hi] at hc
 | some i =>
  have hz:i.size≠0:=by simpa [Program.cellsOf,hi] using hc
  simp[fieldPlace,sizeOf,typeInfo,hi,hz,hadd]
theorem bAW {T e:TypeId} {n:Nat} (hT:P.underlying T=some (.slice e)) (hn:P.cellsOf e=n) (hp:0<n) (b off len cap:Nat) (i:Int) (h0:0<=i) (h1:i<len) :
  (Instr.indexAt T (.slice (some ⟨b,off,none⟩) len cap) (.int .i64 i)).run P w = .ok (.pointer (some ⟨b,off+i.toNat * n,none⟩)) w:=by
 have hadd:((⟨b,off,none⟩:Addr).add (i.toNat * n))=⟨b,off+i.toNat * n,none⟩:=by simp only[Addr.add];split<;>simp_all
 cases hi:P.info? e with
 | none=>simp[Program.cellsOf,hi] at hn;omega
 | some f =>
  have hz:f.size=n:=by simpa [Program.cellsOf,hi] using hn
  have hlt:¬(len:Int)<=i:=by omega
  simp[Instr.indexAt,asIntOf,run_underlying hT,h0,h1,sizeOf,typeInfo,hi,hz,hadd]
theorem bNH {T:TypeId} (hT:P.underlying T=some .string) (s:ByteArray) (i:Int) (h0:0<=i) (h1:i<s.size) :
  (Instr.index T (.string s) (.int .i64 i)).run P w = .ok (.int .u8 (lD s i)) w:=by
 have hlt:i.toNat<s.data.size:=by
  have:s.data.size=s.size:=rfl
  omega
 have hg:s[i.toNat]?=some s.data[i.toNat]:=by
  have hlt':i.toNat<s.size:=hlt
  simp[getElem?_pos,hlt']
  rfl
 have hb:lD s i=(s.data[i.toNat].toNat:Int):=by
  simp[lD,Array.getElem?_eq_getElem hlt]
 simp[Instr.index,asIntOf,run_underlying hT,h0,hg,hb]
theorem bZ7 (s:ByteArray) (i:Int):inK .u8 (lD s i):=by
 unfold lD inK
 have:=((s.data[i.toNat]?).getD 0).toNat_lt
 omega
theorem aV6 {T:TypeId} (hT:P.underlying T=some .string) (s:ByteArray) (l h:Int) (h0:0<=l) (h1:l<=h) (h2:h<=s.size) (lo hi:Option Value) (hlo:lo=some (.int .i64 l)\/(lo=none/\l=0))
  (hhi:hi=some (.int .i64 h)\/(hi=none/\h=s.size)):(Instr.sliceAt T (.string s) lo hi none).run P w = .ok (.string (s.extract l.toNat h.toNat)) w:=by
 have e1:(0:Int)<=h/\h<=(s.size:Int):=by omega
 have e2:l<=((h.toNat:Nat):Int):=by omega
 rcases hlo with rfl|⟨rfl,rfl⟩<;>rcases hhi with rfl|⟨rfl,rfl⟩ <;>
  simp[Instr.sliceAt,Instr.slice,Instr.sliceBounds,Instr.sliceBound,asIntOf,run_underlying hT,e1,e2,h0]
 all_goals (intro hh;exfalso;omega)
theorem aFP {T e:TypeId} {n:Nat} (hT:P.underlying T=some (.slice e)) (hn:P.cellsOf e=n) (hp:0<n) (p:Option Addr) (len cap:Nat) (hlc:len<=cap) (l h:Int) (h0:0<=l) (h1:l<=h) (h2:h<=len)
  (lo hi:Option Value) (hlo:lo=some (.int .i64 l)\/(lo=none/\l=0)) (hhi:hi=some (.int .i64 h)\/(hi=none/\h=len)) :
  (Instr.sliceAt T (.slice p len cap) lo hi none).run P w = .ok (.slice (if cap=l.toNat then p else p.map (·.add (l.toNat * n))) (h.toNat - l.toNat) (cap - l.toNat)) w:=by
 cases hi':P.info? e with
 | none=>simp[Program.cellsOf,hi'] at hn;omega
 | some f =>
  have hz:f.size=n:=by simpa [Program.cellsOf,hi'] using hn
  have e1:(0:Int)<=h/\h<=(cap:Int):=by omega
  have e2:l<=((h.toNat:Nat):Int):=by omega
  have e3:l<=(len:Int):=by omega
  rcases hlo with rfl|⟨rfl,rfl⟩<;>rcases hhi with rfl|⟨rfl,rfl⟩ <;>
   simp[Instr.sliceAt,Instr.slice,Instr.sliceBounds,Instr.sliceBound,asIntOf,run_underlying hT,e1,e2,e3,h0,sizeOf,typeInfo,hi',hz]
  all_goals (intro hh;exfalso;omega)
theorem SlG.sub {α:Type} {n:Nat} {G:Nat->Prop} {R:List Value->α->Prop} {p:Option Addr} {len cap:Nat} {l:List α} (h:SlG G n R w p len cap l) (lo hi:Nat) (h1:lo<=hi) (h2:hi<=len) :
  SlG G n R w (if cap=lo then p else p.map (·.add (lo * n))) (hi - lo) (cap - lo) ((l.take hi).drop lo):=by
 obtain⟨a1,a2,a3,a4,a5⟩:=h
 refine⟨by simp;omega,by omega,by omega,fun hp=>?_,fun k hk=>?_⟩
 ·split at hp
  ·omega
  ·have:=a4 (by simpa using hp);omega
 ·have hk':lo+k<hi:=by simp at hk;omega
  obtain⟨b,off,hp,hb,cs,c1,c2,c3⟩:=a5 (lo+k) (by omega)
  have hc:cap≠lo:=by omega
  refine⟨b,off+lo * n,?_,hb,cs,c1,fun j hj=>?_,?_⟩
  ·rw[if_neg hc,hp]
   simp only[Option.map_some,Addr.add]
   split<;>simp_all
  ·have:=c2 j hj
   rw[show off+lo * n+k * n+j=off+(lo+k) * n+j by rw[Nat.add_mul];omega]
   exact this
  ·simp only[List.getElem_drop,List.getElem_take];exact c3
theorem cE6 {l:Leaf} {v:Value} (hγ:∀r u,γ r=some u->u.cells = #[u]) (h:bU X γ O env w (.one l) v):v.cells = #[v]:=aGP h hγ
theorem aQE (hγ:∀r u,γ r=some u->u.cells = #[u]) {s:Sh} {ls:List Leaf} (h:uP s=some ls) {v:Value} (hv:bU X γ O env w s v):bG X γ O env w ls v.cells.toList :=
 bBY h hv (fun l hl=>by subst hl;exact cE6 hγ hv)
theorem aO2:(c:List Value)->(cells:Array Value)->(off j:Nat)->off+j+c.length<=cells.size ->
  ((c.zipIdx j).foldl (fun cs (p:Value×Nat)=>cs.setIfInBounds (off+p.2) p.1) cells).toList=cells.toList.take (off+j)++(c++cells.toList.drop (off+j+c.length))
 | [],cells,off,j,h=>by simp
 | v::c,cells,off,j,h=>by
  simp only[List.length_cons] at h
  rw[List.zipIdx_cons,List.foldl_cons,aO2 c _ off (j+1) (by simp;omega)]
  simp only[Array.toList_setIfInBounds]
  rw[List.set_eq_take_append_cons_drop,if_pos (by simp;omega)]
  have e1:(List.take (off+j) cells.toList).length=off+j:=by simp;omega
  rw[List.take_append,e1,List.drop_append,e1]
  rw[List.take_of_length_le (l:=List.take (off+j) cells.toList) (by omega),List.drop_of_length_le (l:=List.take (off+j) cells.toList) (by omega)]
  rw[show off+(j+1) - (off+j)=1 by omega,show off+(j+1)+c.length - (off+j)=c.length+1 by omega]
  simp only[List.take_succ_cons,List.take_zero,List.drop_succ_cons,List.drop_drop,List.nil_append,List.append_assoc,List.cons_append,List.length_cons]
  rw[show off+j+1+c.length=off+j+(c.length+1) by omega]
theorem bKG (hγ:∀r u,γ r=some u->u.cells = #[u]) {fs:Array Field} {pl:List (Nat×Nat)}:(ps:List (Nat×Sh))->(vs:List (Nat×Value))->ps.length=vs.length ->
  (∀(k:Nat) (p:Nat×Sh) (q:Nat×Value),ps[k]?=some p->vs[k]?=some q->p.1=q.1/\bU X γ O env w p.2 q.2)->{ls ls':List Leaf}->bEM P fs pl ps ls=some ls'->{cs:Array Value}->bG X γ O env w ls cs.toList ->
  ∃cs',Instr.fill (pl.toArray[·]?) cs vs=some cs'/\bG X γ O env w ls' cs'.toList
 | [],[],_,_,ls,ls',h,cs,hc=>by
  simp only[bEM,eW] at h
  subst h
  exact⟨cs,rfl,hc⟩
 | (i,s)::ps,(i',v)::vs,hl,hv,ls,ls',h,cs,hc=>by
  obtain⟨h1,h2⟩:=hv 0 _ _ rfl rfl
  simp only at h1 h2
  subst h1
  unfold bEM at h
  split at h
  ·rename_i f off size hf hp
   split at h
   ·rename_i s' hs'
    split at h
    ·rename_i new hnew
     split at h
     ·rename_i hcond
      have hn:=aQE hγ hnew (aKN hs' h2)
      have hlen:=mC hn
      have hcl:=mC hc
      simp only[Array.length_toList] at hlen hcl
      have hsp:=aEN (off:=off) hc hn
      have Bw:=aO2 v.cells.toList cs off 0 (by simp;omega)
      simp only[Nat.add_zero,Array.length_toList] at Bw hsp
      obtain⟨cs',h3,h4⟩:=bKG hγ ps vs (by simpa using hl) (fun k p q hp hq=>hv (k+1) p q (by simpa using hp) (by simpa using hq)) h (cs:=(v.cells.toList.zipIdx 0).foldl (fun cs (p:Value×Nat)=>cs.setIfInBounds (off+p.2) p.1) cs) (by rw[Bw];exact hsp)
      refine⟨cs',?_,h4⟩
      have Ll:pl.toArray[i]?=some (off,size):=by simpa using hp
      unfold Instr.fill
      simp only[Ll]
      rw[if_neg (by simp;omega)]
      rw[<-h3]
      congr 1
      rw[<-Array.foldl_toList]
      simp
     ·cases h
    ·cases h
   ·cases h
  ·cases h
end
section
variable {P:Program} {Cs:List Con} {X:Cx} {γ:Gh} {O:List Nat} {env:List SV} {w:World}
def Yld (P:Program) (X:Cx) (γ:Gh) (O:List Nat) (env:List SV) (w:World) (ρ:Operand->Value) (o:Oper) (s:Sh):Prop :=
 ∃r,(execOp ρ o).run P w = .ok (.value r) w/\bU X γ O env w s r
theorem Yld.of {ρ:Operand->Value} {o:Oper} {s:Sh} {r:Value} (h:(execOp ρ o).run P w = .ok (.value r) w) (hv:bU X γ O env w s r):Yld P X γ O env w ρ o s:=⟨r,h,hv⟩
theorem gC {p:Prim} {a:Ar} {nx:Nat} {ls:List Let} (hl:iV Cs env nx (.cMW p a::ls)) :
  a.bd nx=true/\p.cond ((a.val env).as p.ity)/\okD p.oty (p.fn ((a.val env).as p.ity))/\env[nx]?=some ⟨p.oty,p.fn ((a.val env).as p.ity)⟩/\iV Cs env (nx+1) ls:=by
 obtain⟨⟨h1,h2,h3,h4⟩,h5⟩:=hl
 exact⟨h1,h2,h3,h4,h5⟩
theorem aF7 {nx:Nat} {v:SV} (h:env[nx]?=some v):(Ar.Z nx).bd env.length=true:=by
 have:=(List.getElem?_eq_some_iff.1 h).1
 simpa [Ar.bd] using this
theorem uC {nx:Nat} {t:Ty} {x:t.D} (h:env[nx]?=some ⟨t,x⟩):((Ar.Z nx).val env).as t=x:=by simp[Ar.val,aVN h]
variable {wr:Bool} {nx:Nat} {ls:List Let} {s:Sh} {ρ:Operand->Value} {sh:Operand->Sh} {o:Oper}
theorem cHT {op:UnOp} {T:TypeId} {x:Operand} (hop:o.op = .unOp op T x) (h:jN P wr o sh nx=some (ls,s)) (hl:iV Cs env nx ls) (hs:∀x,bU X γ O env w (sh x) (ρ x)):Yld P X γ O env w ρ o s:=by
 have hx:=hs x
 simp only[jN,hop] at h
 split at h
 ·rename_i a fr k hsx
  rw[hsx] at hx
  have hv:=aAY hx
  refine .of (r:=.bool (!(SV.as .bool (Ar.val env a):Bool))) (by simp[execOp,hop,hv,Op.unary]) (nR h hl fun _ _=>?_)
  simp only[Prim.fn,Prim.ity,Prim.oty]
  simp[kS]
 ·rename_i a k fr j hsx
  rw[hsx] at hx
  obtain⟨hv,hw⟩:=jR hx
  have hc:=(aH3 h hl).1
  simp only[Prim.cond,Prim.ity] at hc
  refine .of (r:=.int k (negI (SV.as (.int k) (Ar.val env a)))) ?_ (nR h hl fun _ _=>?_)
  ·have:=aBD hc
   simp only[negI] at this
   simp[execOp,hop,hv,Op.unary,Op.intArith,this]
  ·simp only[Prim.fn,Prim.ity,Prim.oty]
   exact qO (xX hc) _
 ·cases h
theorem cAV {S D:TypeId} {x:Operand} (hop:o.op = .convert S D x) (h:jN P wr o sh nx=some (ls,s)) (hl:iV Cs env nx ls) (hs:∀x,bU X γ O env w (sh x) (ρ x)):Yld P X γ O env w ρ o s:=by
 have hx:=hs x
 simp only[jN,hop] at h
 split at h
 ·rename_i dS k a j fr q hS hD hsx
  rw[hsx] at hx
  obtain⟨hv,hw⟩:=jR hx
  refine .of (r:=.int k (k.wrap (SV.as (.int j) (Ar.val env a)))) ?_ (nR h hl fun _ _=>?_)
  ·simp[execOp,hop,hv,convert,run_underlying hS,run_underlying hD,Conv.intToInt]
  ·simp only[Prim.fn,Prim.ity,Prim.oty]
   exact qO (aFU _ _) _
 ·rename_i a fr q hS hD hsx
  rw[hsx] at hx
  obtain⟨hv,hw⟩:=aGB hx
  simp only[eW,nB] at h
  obtain⟨rfl,rfl⟩:=h
  obtain⟨g1,g2,g3⟩:=hx
  exact .of (r:=.string (SV.as .str (Ar.val env a))) (by simp[execOp,hop,hv,convert,run_underlying hS,run_underlying hD]) ⟨g1,by rw[<-hv];exact g2,fun h=>absurd rfl h⟩
 ·cases h
theorem bV3 {T:TypeId} {x:Operand} {i:Nat} (hop:o.op = .field T x i) (h:jN P wr o sh nx=some (ls,s)) (hl:iV Cs env nx ls) (hs:∀x,bU X γ O env w (sh x) (ρ x)):Yld P X γ O env w ρ o s:=by
 have hx:=hs x
 simp only[jN,hop] at h
 split at h
 ·rename_i lf fs hsx hT
  rw[hsx] at hx
  obtain⟨cs,hv,hc⟩:=hx
  split at h
  ·rename_i f hf
   simp only[Option.map_eq_some_iff,nB] at h
   obtain⟨s',h1,rfl,rfl⟩:=h
   obtain⟨ti,h2,h3,h4⟩:=aOL h1 hc
   have h5:=(uH h2).part cs f.offset (by simpa using h3) w
   exact .of (by simp[execOp,hop,hv,Instr.field,run_underlying hT,hf,asAgg,h5]) h4
  ·cases h
 ·cases h
theorem bH7 {T:TypeId} {x:Operand} {i:Nat} (hop:o.op = .fieldAddr T x i) (h:jN P wr o sh nx=some (ls,s)) (hl:iV Cs env nx ls) (hs:∀x,bU X γ O env w (sh x) (ρ x)):Yld P X γ O env w ρ o s:=by
 have hx:=hs x
 simp only[jN,hop] at h
 split at h
 ·rename_i fs hT
  split at h
  ·rename_i f hf
   split at h
   ·cases h
   ·rename_i hz
    have key:∀b off,ρ x = .pointer (some ⟨b,off,none⟩)->(execOp ρ o).run P w = .ok (.value (.pointer (some ⟨b,off+f.offset,none⟩))) w:=fun b off hv=>by
     simp[execOp,hop,hv,Instr.fieldAt,run_underlying hT,hf,Instr.sureAddr,bHE hz]
    split at h
    ·rename_i r off hsx
     rw[hsx] at hx
     obtain⟨b,h1,h2⟩:=hx
     simp only[eW,nB] at h
     obtain⟨rfl,rfl⟩:=h
     exact .of (key b off h2) ⟨b,h1,rfl⟩
    ·rename_i r e t ix off hsx
     rw[hsx] at hx
     obtain⟨h0,b,len,cap,h1,h2,h3,h4⟩:=hx
     simp only[eW,nB] at h
     obtain⟨rfl,rfl⟩:=h
     exact .of (key b _ h4) ⟨h0,b,len,cap,h1,h2,h3,by rw[Nat.add_assoc]⟩
    ·rename_i lf hsx
     rw[hsx] at hx
     obtain⟨b,off,cs,h1,h2,h3,h4⟩:=hx
     simp only[eW,nB] at h
     obtain⟨rfl,rfl⟩:=h
     refine .of (key b off h1) ⟨b,off+f.offset,cs.drop f.offset,rfl,aDS _ h2,fun j hj=>?_,h4⟩
     simp only[List.length_drop] at hj
     rw[List.getElem_drop,Nat.add_assoc]
     exact h3 _ (by omega)
    ·cases h
  ·cases h
 ·cases h
theorem bN3 {x:Operand} {i:Nat} (hop:o.op = .extract x i) (h:jN P wr o sh nx=some (ls,s)) (hl:iV Cs env nx ls) (hs:∀x,bU X γ O env w (sh x) (ρ x)):Yld P X γ O env w ρ o s:=by
 have hx:=hs x
 simp only[jN,hop] at h
 split at h
 ·rename_i lf hsx
  rw[hsx] at hx
  obtain⟨vs,hv,h1⟩:=hx
  simp only[Option.map_eq_some_iff,nB] at h
  obtain⟨s',h2,rfl,rfl⟩:=h
  obtain⟨c,h3,h4⟩:=bGI h1 h2
  have h5:vs[i]?=some c:=by simpa using h3
  exact .of (by simp[execOp,hop,hv,Instr.extract,h5]) (yQ h4)
 ·cases h
theorem bUP {T:TypeId} {x i:Operand} (hop:o.op = .index T x i) (h:jN P wr o sh nx=some (ls,s)) (hl:iV Cs env nx ls) (hs:∀x,bU X γ O env w (sh x) (ρ x)):Yld P X γ O env w ρ o s:=by
 have hx:=hs x
 have hi:=hs i
 simp only[jN,hop] at h
 split at h
 ·rename_i a fr k b fr2 k2 hT hsx hsi
  rw[hsx] at hx
  rw[hsi] at hi
  obtain⟨hv,hw⟩:=aGB hx
  obtain⟨hv2,hw2⟩:=jR hi
  have hc:=(aH3 h hl).1
  simp only[Prim.cond,Prim.ity,cZ] at hc
  refine .of (r:=.int .u8 (lD (SV.as .str (Ar.val env a)) (SV.as tI (Ar.val env b)))) ?_ (nR h hl fun _ _=>?_)
  ·have:=bNH (w:=w) hT _ _ hc.1 hc.2
   simp[execOp,hop,hv,hv2,this]
  ·simp only[Prim.fn,Prim.ity,Prim.oty,cZ]
   exact qO (xX (bZ7 _ _)) _
 ·cases h
theorem bHS {T:TypeId} {x i:Operand} (hop:o.op = .indexAddr T x i) (h:jN P wr o sh nx=some (ls,s)) (hl:iV Cs env nx ls) (hs:∀x,bU X γ O env w (sh x) (ρ x)):Yld P X γ O env w ρ o s:=by
 have hx:=hs x
 have hi:=hs i
 simp only[jN,hop] at h
 split at h
 ·rename_i e a e' t fr k b fr2 k2 hT hsx hsi
  rw[hsx] at hx
  rw[hsi] at hi
  split at h
  ·rename_i hc
   obtain⟨rfl,hc⟩:=hc
   simp only[eW,nB] at h
   obtain⟨rfl,rfl⟩:=h
   obtain⟨p,len,cap,hv,hsl⟩:=bO5 hx
   obtain⟨hv2,hw2⟩:=jR hi
   obtain⟨l1,l2,l3,l4,_⟩:=gC hl
   simp only[Prim.cond,Prim.ity,cZ] at l2
   simp only[Prim.oty,Prim.fn,Prim.ity,cZ] at l4
   obtain⟨a1,a2,a3,a4,a5⟩:=hsl
   obtain⟨z,hz⟩:∃z:Int,SV.as tI (Ar.val env b)=z:=⟨_,rfl⟩
   obtain⟨ll,hll⟩:∃ll:List t.D,SV.as (.slice e' t) (Ar.val env a)=ll:=⟨_,rfl⟩
   rw[hz,hll] at l2 l4
   rw[hz] at hv2
   rw[hll] at a1 a5
   have l21:(0:Int)<=z:=l2.1
   have l22:z<(ll.length:Int):=l2.2
   obtain⟨bb,off,hp,hg,cs,c1,c2,c3⟩:=a5 z.toNat (by omega)
   subst hp
   have hr:=bAW (w:=w) hT hc (Ty.n_pos t) bb off len cap _ l21 (by omega)
   refine .of (by simp only[execOp,hop,hv,hv2,Sem.run_bind,hr,Result.andThen_ok,Sem.run_pure]) ⟨bb,_,cs,rfl,aGS t (aF7 l4) ?_,c2,hg.1,hg.2.1,hg.2.2.1,fun h=>by cases h⟩
   rw[uC l4,List.getD_eq_getElem?_getD,List.getElem?_eq_getElem (by omega)]
   exact c3
  ·cases h
 ·cases h
theorem bZQ {T:TypeId} {x:Operand} (hop:o.op = .load T x) (h:jN P wr o sh nx=some (ls,s)) (hl:iV Cs env nx ls) (hs:∀x,bU X γ O env w (sh x) (ρ x)):Yld P X γ O env w ρ o s:=by
 have hx:=hs x
 simp only[jN,hop] at h
 split at h
 ·rename_i lf hsx
  rw[hsx] at hx
  obtain⟨b,off,cs,h1,h2,h3,h4⟩:=hx
  simp only[Option.map_eq_some_iff,nB] at h
  obtain⟨s',h5,rfl,rfl⟩:=h
  obtain⟨ti,h6,h7,h8⟩:=aOL h5 h2
  simp only[List.drop_zero,Nat.zero_add] at h7 h8
  have h9:=(uH h6).load b off (cs.take ti.t.n) (by simp;omega) w (fun j hj=>by
   simp only[List.length_take] at hj
   rw[List.getElem_take]
   exact h3 j (by omega))
  exact .of (by simp[execOp,hop,h1,Instr.loadAt,Instr.sureAddr,h9]) h8
 ·cases h
theorem bUD (hγ:∀r u,γ r=some u->u.cells = #[u]) {T:TypeId} {gA:Array (Nat×Operand)} (hop:o.op = .build T gA) (h:jN P wr o sh nx=some (ls,s)) (hl:iV Cs env nx ls) (hs:∀x,bU X γ O env w (sh x) (ρ x)):Yld P X γ O env w ρ o s:=by
 simp only[jN,hop] at h
 split at h
 ·rename_i i fs hi hT
  split at h
  ·rename_i pl hpl
   simp only[Option.map_eq_some_iff,nB] at h
   obtain⟨lf,h1,rfl,rfl⟩:=h
   obtain⟨f,hf,h2,h3,z,h4,h5⟩:=(uH hi).inf
   obtain⟨cs',h6,h7⟩:=bKG (w:=w) hγ _ (gA.toList.map fun p=>(p.1,ρ p.2)) (by simp) (fun k p q hp hq=>by
    simp only[List.getElem?_map,Option.map_eq_some_iff] at hp hq
    obtain⟨x,hx,rfl⟩:=hp
    obtain⟨y,hy,rfl⟩:=hq
    rw[hx] at hy
    simp only[eW] at hy
    subst hy
    exact⟨rfl,hs _⟩) h1 (cs:=z.cells) (by rw[h5];exact aQX _)
   have h8:P.built T (gA.map fun p=>(p.1,ρ p.2)).toList=some cs':=by
    unfold Program.built
    unfold bSX at hpl
    simp only[hf,hT,h4,hpl,Array.toList_map,h6]
   have h9:=run_build (P:=P) w T _ _ h8
   exact .of (by simp only[execOp,hop,Sem.run_bind,h9,Result.andThen_ok,Sem.run_pure]) ⟨cs',rfl,h7⟩
  ·cases h
 ·cases h
theorem cBT {args:Array Operand} {tys:Array TypeId} (hop:o.op = .call { callee:=.builtin .len,args:=args,argTypes:=tys }) (h:jN P wr o sh nx=some (ls,s)) (hl:iV Cs env nx ls) (hs:∀x,bU X γ O env w (sh x) (ρ x)):Yld P X γ O env w ρ o s:=by
 simp only[jN,hop] at h
 split at h
 ·rename_i x T ha ht
  have hx:=hs x
  have ha':args = #[x]:=by cases args;simp_all
  have ht':tys = #[T]:=by cases tys;simp_all
  subst ha' ht'
  split at h
  ·rename_i a fr k hT hsx
   rw[hsx] at hx
   obtain⟨hv,hw⟩:=aGB hx
   refine .of (r:=.int .i64 ((SV.as .str (Ar.val env a):ByteArray).size:Int)) ?_ (nR h hl fun _ ho=>?_)
   ·simp[execOp,hop,resolve,invoke,builtin,Builtin.len_,hv,run_underlying hT,goInt]
   ·simp only[Prim.fn,Prim.ity,Prim.oty] at ho⊢
    exact qO (xX ho) _
  ·rename_i e0 e t hT hsx
   rw[hsx] at hx
   obtain⟨p,hv⟩:=hx
   simp only[eW,nB] at h
   obtain⟨rfl,rfl⟩:=h
   refine .of (r:=.int .i64 0) ?_ ?_
   ·simp[execOp,hop,resolve,invoke,builtin,Builtin.len_,hv,run_underlying hT,goInt]
   ·exact⟨rfl,qO (k:=.i64) (z:=0) (by decide) _,fun h=>absurd rfl h⟩
  ·rename_i e0 a e t fr k hT hsx
   rw[hsx] at hx
   obtain⟨p,len,cap,hv,hsl⟩:=bO5 hx
   have hlen:=hsl.1
   refine .of (r:=.int .i64 ((SV.as (.slice e t) (Ar.val env a):List t.D).length:Int)) ?_ (nR h hl fun _ ho=>?_)
   ·simp[execOp,hop,resolve,invoke,builtin,Builtin.len_,hv,run_underlying hT,goInt,hlen]
   ·simp only[Prim.fn,Prim.ity,Prim.oty] at ho⊢
    exact qO (xX ho) _
  ·cases h
 ·cases h
theorem cDJ (k:IntKind) (x y:Int):(Builtin.min2 (.int k x) (.int k y)).run P w = .ok (.int k (min x y)) w:=by
 have:(if y<x then y else x)=min x y:=by split<;>omega
 simp[Builtin.min2,this]
theorem bP9 (k:IntKind) (x y:Int):(Builtin.max2 (.int k x) (.int k y)).run P w = .ok (.int k (max x y)) w:=by
 have:(if y>x then y else x)=max x y:=by split<;>omega
 simp[Builtin.max2,this]
theorem cFG {args:Array Operand} {tys:Array TypeId} (hop:o.op = .call { callee:=.builtin .min,args:=args,argTypes:=tys }) (h:jN P wr o sh nx=some (ls,s)) (hl:iV Cs env nx ls) (hs:∀x,bU X γ O env w (sh x) (ρ x)):Yld P X γ O env w ρ o s:=by
 simp only[jN,hop] at h
 split at h
 ·rename_i x y ha
  have hx:=hs x
  have hy:=hs y
  have ha':args = #[x,y]:=by cases args;simp_all
  subst ha'
  split at h
  ·rename_i a k fr q b j fr2 q2 hsx hsy
   split at h
   ·rename_i hkj
    subst hkj
    rw[hsx] at hx
    rw[hsy] at hy
    obtain⟨hv,hw⟩:=jR hx
    obtain⟨hv2,hw2⟩:=jR hy
    refine .of (r:=.int k (min (SV.as (.int k) (Ar.val env a):Int) (SV.as (.int k) (Ar.val env b)))) ?_ (nR h hl fun _ ho=>?_)
    ·simp[execOp,hop,resolve,invoke,builtin,Builtin.min_,hv,hv2,cDJ]
    ·simp only[Prim.fn,Prim.ity,Prim.oty,cZ] at ho⊢
     exact qO (xX ho) _
   ·cases h
  ·cases h
 ·cases h
theorem cE4 {args:Array Operand} {tys:Array TypeId} (hop:o.op = .call { callee:=.builtin .max,args:=args,argTypes:=tys }) (h:jN P wr o sh nx=some (ls,s)) (hl:iV Cs env nx ls) (hs:∀x,bU X γ O env w (sh x) (ρ x)):Yld P X γ O env w ρ o s:=by
 simp only[jN,hop] at h
 split at h
 ·rename_i x y ha
  have hx:=hs x
  have hy:=hs y
  have ha':args = #[x,y]:=by cases args;simp_all
  subst ha'
  split at h
  ·rename_i a k fr q b j fr2 q2 hsx hsy
   split at h
   ·rename_i hkj
    subst hkj
    rw[hsx] at hx
    rw[hsy] at hy
    obtain⟨hv,hw⟩:=jR hx
    obtain⟨hv2,hw2⟩:=jR hy
    refine .of (r:=.int k (max (SV.as (.int k) (Ar.val env a):Int) (SV.as (.int k) (Ar.val env b)))) ?_ (nR h hl fun _ ho=>?_)
    ·simp[execOp,hop,resolve,invoke,builtin,Builtin.max_,hv,hv2,bP9]
    ·simp only[Prim.fn,Prim.ity,Prim.oty,cZ] at ho⊢
     exact qO (xX ho) _
   ·cases h
  ·cases h
 ·rename_i x y z ha
  have hx:=hs x
  have hy:=hs y
  have hz:=hs z
  have ha':args = #[x,y,z]:=by cases args;simp_all
  subst ha'
  split at h
  ·rename_i a k fr q b j fr2 q2 c l fr3 q3 hsx hsy hsz
   split at h
   ·rename_i hkj
    obtain⟨rfl,rfl⟩:=hkj
    rw[hsx] at hx
    rw[hsy] at hy
    rw[hsz] at hz
    obtain⟨hv,hw⟩:=jR hx
    obtain⟨hv2,hw2⟩:=jR hy
    obtain⟨hv3,hw3⟩:=jR hz
    simp only[eW,nB] at h
    obtain⟨rfl,rfl⟩:=h
    obtain⟨l1,l2,l3,l4,l5⟩:=gC hl
    obtain⟨m1,m2,m3,m4,m5⟩:=gC l5
    have e1:(SV.as (.int k) ((Ar.Z nx).val env):Int)=max (SV.as (.int k) (Ar.val env a):Int) (SV.as (.int k) (Ar.val env b)):=by
     rw[uC (t:=.int k) l4]
     simp only[Prim.fn,Prim.ity,cZ]
    refine .of (r:=.int k (max (max (SV.as (.int k) (Ar.val env a):Int) (SV.as (.int k) (Ar.val env b))) (SV.as (.int k) (Ar.val env c)))) ?_ (bVA m4 ?_)
    ·simp[execOp,hop,resolve,invoke,builtin,Builtin.max_,hv,hv2,hv3,bP9]
    ·simp only[Prim.fn,Prim.ity,Prim.oty,cZ,e1] at m3⊢
     exact qO (xX m3) _
   ·cases h
  ·cases h
 ·cases h
theorem cGA {lo:Option Operand} {l:Ar} (hs:∀x,bU X γ O env w (sh x) (ρ x)) (hq:cCO sh lo=some l) :
  lo.map ρ=some (.int .i64 (SV.as tI (Ar.val env l)))\/(lo.map ρ=none/\(SV.as tI (Ar.val env l):Int)=0):=by
 cases lo with
 | none =>
  simp only[cCO,eW] at hq
  subst hq
  exact .inr ⟨rfl,by simp[Ar.val]⟩
 | some l' =>
  simp only[cCO] at hq
  split at hq
  ·rename_i b fr k hsl
   simp only[eW] at hq
   subst hq
   have h1:=hs l'
   rw[hsl] at h1
   exact .inl (by simp[(jR h1).1])
  ·cases hq
theorem cIF {hi:Option Operand} {h':Ar} (hs:∀x,bU X γ O env w (sh x) (ρ x)) (hq:bVJ sh hi=some (some h')):hi.map ρ=some (.int .i64 (SV.as tI (Ar.val env h'))):=by
 cases hi with
 | none=>simp[bVJ] at hq
 | some h0 =>
  simp only[bVJ] at hq
  split at hq
  ·rename_i b fr k hsl
   simp only[eW] at hq
   subst hq
   have h1:=hs h0
   rw[hsl] at h1
   simp[(jR h1).1]
  ·cases hq
theorem bYY {hi:Option Operand} (hq:bVJ sh hi=some none):hi.map ρ=none:=by
 cases hi with
 | none=>rfl
 | some h0 =>
  simp only[bVJ] at hq
  split at hq<;>simp at hq
theorem bUU {T:TypeId} {x:Operand} {lo hi mx:Option Operand} (hop:o.op = .slice T x lo hi mx) (h:jN P wr o sh nx=some (ls,s)) (hl:iV Cs env nx ls) (hs:∀x,bU X γ O env w (sh x) (ρ x)):Yld P X γ O env w ρ o s:=by
 have hx:=hs x
 cases mx with
 | some m=>simp only[jN,hop] at h;cases h
 | none =>
 simp only[jN,hop] at h
 have hlo:=fun l=>cGA (lo:=lo) (l:=l) hs
 have hhi:=fun h'=>cIF (hi:=hi) (h':=h') hs
 have J6:=bYY (sh:=sh) (ρ:=ρ) (hi:=hi)
 split at h
 ·rename_i a fr k hT hsx
  rw[hsx] at hx
  obtain⟨hv,hw⟩:=aGB hx
  split at h
  ·rename_i l h1 h2
   simp only[eW,nB] at h
   obtain⟨rfl,rfl⟩:=h
   obtain⟨l1,l2,l3,l4,l5⟩:=gC hl
   obtain⟨m1,m2,m3,m4,m5⟩:=gC l5
   have e1:(SV.as tI ((Ar.Z nx).val env):Int)=((SV.as .str (Ar.val env a):ByteArray).size:Int):=by rw[uC (t:=tI) l4];rfl
   simp only[Prim.cond,Prim.ity,cZ,e1] at m2
   have:=aV6 (w:=w) hT (SV.as .str (Ar.val env a)) _ _ m2.1 m2.2.1 m2.2.2 _ _ (hlo _ h1) (.inr ⟨J6 h2,rfl⟩)
   refine .of (by simp only[execOp,hop,hv,Option.map_none,Sem.run_bind,this,Result.andThen_ok,Sem.run_pure];rfl) (bVA m4 ?_)
   simp only[Prim.fn,Prim.ity,Prim.oty,cZ,e1] at m3⊢
   exact bMC m3 _
  ·rename_i l h' h1 h2
   have hc:=(aH3 h hl).1
   simp only[Prim.cond,Prim.ity,cZ] at hc
   have:=aV6 (w:=w) hT (SV.as .str (Ar.val env a)) _ _ hc.1 hc.2.1 hc.2.2 _ _ (hlo _ h1) (.inl (hhi _ h2))
   refine .of (by simp only[execOp,hop,hv,Option.map_none,Sem.run_bind,this,Result.andThen_ok,Sem.run_pure];rfl) (nR h hl fun _ ho=>?_)
   simp only[Prim.fn,Prim.ity,Prim.oty,cZ] at ho⊢
   exact bMC ho _
  ·cases h
 ·rename_i e a e' t fr k hT hsx
  rw[hsx] at hx
  obtain⟨p,len,cap,hv,hsl⟩:=bO5 hx
  have a1:=hsl.1
  have a2:=hsl.2.1
  split at h
  ·rename_i hc
   obtain⟨rfl,hc⟩:=hc
   split at h
   ·rename_i l h1 h2
    simp only[eW,nB] at h
    obtain⟨rfl,rfl⟩:=h
    obtain⟨l1,l2,l3,l4,l5⟩:=gC hl
    obtain⟨m1,m2,m3,m4,m5⟩:=gC l5
    have e1:(SV.as tI ((Ar.Z nx).val env):Int)=((SV.as (.slice e' t) (Ar.val env a):List t.D).length:Int):=by rw[uC (t:=tI) l4];rfl
    simp only[Prim.cond,Prim.ity,cZ,e1] at m2
    obtain⟨zl,hzl⟩:∃z:Int,SV.as tI (Ar.val env l)=z:=⟨_,rfl⟩
    obtain⟨ll,hll⟩:∃ll:List t.D,SV.as (.slice e' t) (Ar.val env a)=ll:=⟨_,rfl⟩
    have g1:=hlo _ h1
    rw[hzl] at m2 g1
    rw[hll] at m2 a1 hsl e1
    have c1:(0:Int)<=zl:=m2.1
    have c2:zl<=(ll.length:Int):=m2.2.1
    have:=aFP (w:=w) hT hc (Ty.n_pos t) p len cap a2 zl (ll.length:Int) c1 c2 (by omega) _ _ g1 (.inr ⟨J6 h2,by omega⟩)
    refine .of (by simp only[execOp,hop,hv,Option.map_none,Sem.run_bind,this,Result.andThen_ok,Sem.run_pure];rfl) ⟨aF7 m4,?_,fun h=>absurd rfl h⟩
    rw[uC (t:=.slice e' t) m4]
    simp only[Prim.fn,Prim.ity,Prim.oty,cZ,e1,hzl,hll]
    exact⟨_,_,_,rfl,hsl.sub _ _ (by omega) (by omega)⟩
   ·rename_i l h' h1 h2
    simp only[eW,nB] at h
    obtain⟨rfl,rfl⟩:=h
    obtain⟨l1,l2,l3,l4,l5⟩:=gC hl
    simp only[Prim.cond,Prim.ity,cZ] at l2
    obtain⟨zl,hzl⟩:∃z:Int,SV.as tI (Ar.val env l)=z:=⟨_,rfl⟩
    obtain⟨zh,Ji⟩:∃z:Int,SV.as tI (Ar.val env h')=z:=⟨_,rfl⟩
    obtain⟨ll,hll⟩:∃ll:List t.D,SV.as (.slice e' t) (Ar.val env a)=ll:=⟨_,rfl⟩
    have g1:=hlo _ h1
    have g2:=hhi _ h2
    rw[hzl] at l2 g1
    rw[Ji] at l2 g2
    rw[hll] at l2 a1 hsl
    have c1:(0:Int)<=zl:=l2.1
    have c2:zl<=zh:=l2.2.1
    have c3:zh<=(ll.length:Int):=l2.2.2
    have:=aFP (w:=w) hT hc (Ty.n_pos t) p len cap a2 zl zh c1 c2 (by omega) _ _ g1 (.inl g2)
    refine .of (by simp only[execOp,hop,hv,Option.map_none,Sem.run_bind,this,Result.andThen_ok,Sem.run_pure];rfl) ⟨aF7 l4,?_,fun h=>absurd rfl h⟩
    rw[uC (t:=.slice e' t) l4]
    simp only[Prim.fn,Prim.ity,Prim.oty,cZ,hzl,Ji,hll]
    exact⟨_,_,_,rfl,hsl.sub _ _ (by omega) (by omega)⟩
   ·cases h
  ·cases h
 ·cases h
theorem cET {x:Operand} (hop:o.op = .nilCheck x) (h:jN P wr o sh nx=some (ls,s)) (hl:iV Cs env nx ls) (hs:∀x,bU X γ O env w (sh x) (ρ x)):Yld P X γ O env w ρ o s:=by
 have hx:=hs x
 simp only[jN,hop] at h
 have key:∀a,ρ x = .pointer (some a)->(execOp ρ o).run P w = .ok (.value (ρ x)) w:=fun a hv=>by simp[execOp,hop,hv]
 split at h<;>simp only[eW,nB,reduceCtorEq] at h
 ·rename_i r off hsx
  obtain⟨rfl,rfl⟩:=h
  rw[hsx] at hx
  have hx0:=hx
  obtain⟨b,h1,h2⟩:=hx
  exact .of (key _ h2) hx0
 ·rename_i r e t ix off hsx
  obtain⟨rfl,rfl⟩:=h
  rw[hsx] at hx
  have hx0:=hx
  obtain⟨h0,b,len,cap,h1,h2,h3,h4⟩:=hx
  exact .of (key _ h4) hx0
 ·rename_i lf hsx
  obtain⟨rfl,rfl⟩:=h
  rw[hsx] at hx
  have hx0:=hx
  obtain⟨b,off,cs,h1,h2,h3,h4⟩:=hx
  exact .of (key _ h1) hx0
theorem bIZ (hγ:∀r u,γ r=some u->u.cells = #[u]) (h:jN P wr o sh nx=some (ls,s)) (hl:iV Cs env nx ls) (hs:∀x,bU X γ O env w (sh x) (ρ x)):Yld P X γ O env w ρ o s:=by
 cases hop:o.op with
 | move x =>
  simp only[jN,hop,Option.map_eq_some_iff,nB] at h
  obtain⟨s',h1,rfl,rfl⟩:=h
  exact .of (by simp[execOp,hop]) (aKN h1 (hs x))
 | assign x =>
  simp only[jN,hop,Option.map_eq_some_iff,nB] at h
  obtain⟨s',h1,rfl,rfl⟩:=h
  exact .of (by simp[execOp,hop]) (aKN h1 (hs x))
 | nilCheck x=>exact cET hop h hl hs
 | binOp op T x y T2 =>
  simp only[jN,hop] at h
  obtain⟨r,h1,h2⟩:=cE9 h hl (hs x) (hs y) x y
  refine .of ?_ h2
  simp only[Sem.run_bind] at h1
  simp only[execOp,hop,Sem.run_bind,h1,Result.andThen_ok,Sem.run_pure]
 | unOp op T x=>exact cHT hop h hl hs
 | convert S D x=>exact cAV hop h hl hs
 | field T x i=>exact bV3 hop h hl hs
 | fieldAddr T x i=>exact bH7 hop h hl hs
 | extract x i=>exact bN3 hop h hl hs
 | index T x i=>exact bUP hop h hl hs
 | indexAddr T x i=>exact bHS hop h hl hs
 | load T x=>exact bZQ hop h hl hs
 | slice T x lo hi mx=>exact bUU hop h hl hs
 | build T gA=>exact bUD hγ hop h hl hs
 | call c =>
  obtain⟨callee,args,tys⟩:=c
  cases callee with
  | builtin b =>
   cases b with
   | len=>exact cBT hop h hl hs
   | min=>exact cFG hop h hl hs
   | max=>exact cE4 hop h hl hs
   | _=>simp[jN,hop] at h
  | _=>simp[jN,hop] at h
 | _=>simp[jN,hop] at h
end
theorem kS.det {G G':Nat->Prop} {w:World}:{t:Ty}->{cs:List Value}->{d d':t.D}->kS G t w cs d->kS G' t w cs d'->d=d':=by
 intro t
 induction t with
 | int k=>intro cs d d' h h';have h1:=h.1;have h2:=h'.1;rw[h1] at h2;simpa using h2
 | bool =>
  intro cs d d' h h'
  have h1:cs=[.bool d]:=h
  have h2:cs=[.bool d']:=h'
  rw[h1] at h2;simpa using h2
 | str=>intro cs d d' h h';have h1:=h.1;have h2:=h'.1;rw[h1] at h2;simpa using h2
 | slice e t ih =>
  intro cs d d' h h'
  obtain⟨p,len,cap,rfl,h1,_,_,_,h5⟩:=h
  obtain⟨p',len',cap',hcs,g1,_,_,_,g5⟩:=h'
  simp only[List.cons.injEq,Value.slice.injEq,and_true] at hcs
  obtain⟨rfl,rfl,rfl⟩:=hcs
  apply List.ext_getElem (by omega)
  intro k hk hk'
  obtain⟨b,off,hp,_,c,hn,hc,hr⟩:=h5 k hk
  obtain⟨b',off',hp',_,c',hn',hc',hr'⟩:=g5 k hk'
  rw[hp] at hp'
  simp only[eW,Addr.mk.injEq,and_true] at hp'
  obtain⟨rfl,rfl⟩:=hp'
  have:c=c':=by
   apply List.ext_getElem (by omega)
   intro j hj hj'
   have:=(hc j hj).symm.trans (hc' j hj')
   simpa using this
  subst this
  exact ih hr hr'
 | cMV a b iha ihb =>
  intro cs d d' h h'
  obtain⟨c1,c2,rfl,h1,h2⟩:=h
  obtain⟨c1',c2',hcs,g1,g2⟩:=h'
  have hl:c1.length=c1'.length:=by rw[h1.length,g1.length]
  obtain⟨rfl,rfl⟩:=List.append_inj hcs hl
  exact Prod.ext (iha h1 g1) (ihb h2 g2)
section
variable {P:Program} {Cs:List Con} {X:Cx} {γ:Gh} {β:Bt} {O:List Nat} {env:List SV} {w:World}
theorem bMO {a:Ar} {t:Ty} {fr:Bool} {k:Nat} {v:Value} (h:kJ X γ O env w (.d a t fr k) v):kS (Gd X O w (fr||t.flat)) t w [v] ((a.val env).as t):=by
 obtain⟨_,h,_⟩:=h
 cases hf:t.flat
 ·simpa using h
 ·exact h.flat hf
theorem bVW (ns:List Int) (s:ByteArray):ns.foldl (fun r n=>r.push (UInt8.ofNat n.toNat)) s=⟨s.data++(ns.map fun n=>UInt8.ofNat n.toNat).toArray⟩:=by
 induction ns generalizing s with
 | nil=>simp
 | cons n ns ih =>
  rw[List.foldl_cons,ih]
  congr 1
  apply Array.ext'
  simp[ByteArray.push]
theorem cI1 {S D e:TypeId} (hS:P.underlying S=some (.slice e)) (hD:P.underlying D=some .string) (he:P.underlying e=some (.int .u8)) {G:Nat->Prop} {p:Option Addr} {len cap:Nat} {l:List Int}
  (h:SlG G 1 (kS G (.int .u8) w) w p len cap l):(convert S D (.slice p len cap)).run P w = .ok (.string (jG l)) w:=by
 rw[run_convert_bytes_string w S D e p len cap hS he hD]
 obtain⟨h1,h2,h3,h4,h5⟩:=h
 cases p with
 | none =>
  have hc:=h4 rfl
  obtain rfl:l=[]:=List.eq_nil_of_length_eq_zero (by omega)
  simp[Conv.bytesToString,jG]
  rfl
 | some a =>
  have Fc:(loadCells a len).run P w = .ok (l.map (Value.int .u8)).toArray w:=by
   have hl:len=(l.map (Value.int .u8)).length:=by simpa using h1
   rw[hl]
   refine run_loadCells_list w a _ (fun j v hv=>?_)
   simp only[List.getElem?_map,Option.map_eq_some_iff] at hv
   obtain⟨n,hn,rfl⟩:=hv
   obtain⟨hj,rfl⟩:=List.getElem?_eq_some_iff.1 hn
   obtain⟨b,off,hp,_,cs,c1,c2,c3⟩:=h5 j hj
   simp only[eW] at hp
   subst hp
   have hcs:=c3.1
   subst hcs
   have:=c2 0 (by simp)
   simp only[Nat.mul_one,Nat.add_zero,List.getElem_cons_zero] at this
   have hadd:((⟨b,off,none⟩:Addr).add j)=⟨b,off+j,none⟩:=by simp only[Addr.add];split<;>simp_all
   rw[hadd];exact this
  rw[run_bytesToString w a len cap l Fc,bVW]
  simp[jG]
theorem aGF:(t:Ty)->{ls:List Leaf}->{cs:List Value}->{a:Ar}->{fr:Bool}->{ks:List (Nat×Ty)}->{rest:List Leaf}->bG X γ O env w ls cs->fZ (fun _=>none) t ls=some (a,fr,ks,rest) ->
  ∃c1 c2,cs=c1++c2/\a.bd env.length=true/\kS (Gd X O w fr) t w c1 ((a.val env).as t)/\bG X γ O env w rest c2:=by
 intro t
 have base:∀t:Ty,(∀a b,t ≠ .cMV a b)->∀{ls:List Leaf} {cs:List Value} {a:Ar} {fr:Bool} {ks:List (Nat×Ty)} {rest:List Leaf},bG X γ O env w ls cs->fZ (fun _=>none) t ls=some (a,fr,ks,rest) ->
   ∃c1 c2,cs=c1++c2/\a.bd env.length=true/\kS (Gd X O w fr) t w c1 ((a.val env).as t)/\bG X γ O env w rest c2:=by
  intro t ht ls cs a fr ks rest hl h
  cases ls with
  | nil=>cases t<;>simp[fZ] at h;exact absurd rfl (ht _ _)
  | cons l ls =>
   obtain⟨c,cs',rfl,hc,hl⟩:=hl
   cases l with
   | d a' t' fr' k =>
    have h':(if t'=t then some (a',fr'||t.flat,if bC1 t then [(k,t)] else [],ls) else none)=some (a,fr,ks,rest):=by
     cases t<;>first|exact h|exact absurd rfl (ht _ _)
    split at h'
    ·rename_i he
     subst he
     simp only[eW,nB] at h'
     obtain⟨rfl,rfl,rfl,rfl⟩:=h'
     exact⟨[c],cs',rfl,hc.1,bMO hc,hl⟩
    ·cases h'
   | nl e t' =>
    have h':(if t = .slice e t' then some (Ar.nl e t',true,[],ls) else none)=some (a,fr,ks,rest):=by
     cases t<;>first|exact h|exact absurd rfl (ht _ _)
    split at h'
    ·rename_i he
     subst he
     simp only[eW,nB] at h'
     obtain⟨rfl,rfl,rfl,rfl⟩:=h'
     obtain⟨p,rfl⟩:=hc
     refine⟨[_],cs',rfl,rfl,?_,hl⟩
     simp only[Ar.val,SV.as_self]
     exact⟨p,0,0,rfl,rfl,Nat.le_refl _,Nat.zero_le _,fun _=>rfl,fun k hk=>by simp at hk⟩
    ·cases h'
   | own r=>cases t<;>first|(simp[fZ] at h;done)|exact absurd rfl (ht _ _)
 induction t with
 | cMV x y ihx ihy =>
  intro ls cs a fr ks rest hl h
  simp only[fZ] at h
  split at h
  ·rename_i a1 f1 k1 ls1 h1
   split at h
   ·rename_i a2 f2 k2 ls2 h2
    simp only[eW,nB] at h
    obtain⟨rfl,rfl,rfl,rfl⟩:=h
    obtain⟨c1,c2,rfl,b1,r1,l1⟩:=ihx hl h1
    obtain⟨c3,c4,rfl,b2,r2,l2⟩:=ihy l1 h2
    refine⟨c1++c3,c4,by simp,bLK _ _ _ _ _ b1 b2,?_,l2⟩
    rw[zS]
    refine⟨c1,c3,rfl,r1.mono (fun b hb=>⟨hb.1,hb.2.1,hb.2.2.1,fun hf=>hb.2.2.2 ?_⟩) (fun _ _=>rfl),r2.mono (fun b hb=>⟨hb.1,hb.2.1,hb.2.2.1,fun hf=>hb.2.2.2 ?_⟩) (fun _ _=>rfl)⟩
    ·simp at hf;exact hf.1
    ·simp at hf;exact hf.2
   ·cases h
  ·cases h
 | _=>exact base _ (by intro a b h;cases h)
theorem aIF {lk:Lk} {G:Nat->Prop} (hG:∀fr b,Gd X O w fr b->G b) (hlk:∀r e,lk r=some e->jS X γ β O env w r e/\∀b∈oC γ (r,e),G b) :
  (t:Ty)->{ls:List Leaf}->{cs:List Value}->{a:Ar}->{fr:Bool}->{ks:List (Nat×Ty)}->{rest:List Leaf}->bG X γ O env w ls cs->fZ lk t ls=some (a,fr,ks,rest) ->
  ∃c1 c2,cs=c1++c2/\a.bd env.length=true/\kS G t w c1 ((a.val env).as t)/\bG X γ O env w rest c2:=by
 intro t
 have base:∀t:Ty,(∀a b,t ≠ .cMV a b)->∀{ls:List Leaf} {cs:List Value} {a:Ar} {fr:Bool} {ks:List (Nat×Ty)} {rest:List Leaf},bG X γ O env w ls cs->fZ lk t ls=some (a,fr,ks,rest) ->
   ∃c1 c2,cs=c1++c2/\a.bd env.length=true/\kS G t w c1 ((a.val env).as t)/\bG X γ O env w rest c2:=by
  intro t ht ls cs a fr ks rest hl h
  cases ls with
  | nil=>cases t<;>simp[fZ] at h;exact absurd rfl (ht _ _)
  | cons l ls =>
   obtain⟨c,cs',rfl,hc,hl⟩:=hl
   cases l with
   | d a' t' fr' k =>
    have h':(if t'=t then some (a',fr'||t.flat,if bC1 t then [(k,t)] else [],ls) else none)=some (a,fr,ks,rest):=by
     cases t<;>first|exact h|exact absurd rfl (ht _ _)
    split at h'
    ·rename_i he
     subst he
     simp only[eW,nB] at h'
     obtain⟨rfl,rfl,rfl,rfl⟩:=h'
     exact⟨[c],cs',rfl,hc.1,hc.2.1.mono (fun b hb=>hG _ b hb) (fun _ _=>rfl),hl⟩
    ·cases h'
   | nl e t' =>
    have h':(if t = .slice e t' then some (Ar.nl e t',true,[],ls) else none)=some (a,fr,ks,rest):=by
     cases t<;>first|exact h|exact absurd rfl (ht _ _)
    split at h'
    ·rename_i he
     subst he
     simp only[eW,nB] at h'
     obtain⟨rfl,rfl,rfl,rfl⟩:=h'
     obtain⟨p,rfl⟩:=hc
     refine⟨[_],cs',rfl,rfl,?_,hl⟩
     simp only[Ar.val,SV.as_self]
     exact⟨p,0,0,rfl,rfl,Nat.le_refl _,Nat.zero_le _,fun _=>rfl,fun k hk=>by simp at hk⟩
    ·cases h'
   | own r =>
    have h':(match lk r with|some (.sl e t' a fr _)=>if t = .slice e t' then some (a,fr,[(0,t)],ls) else none|some (.arr e t' a fr _)=>if t = .slice e t' then some (a,fr,[(0,t)],ls) else none|_=>none)=some (a,fr,ks,rest):=by
     cases t<;>first|exact h|exact absurd rfl (ht _ _)
    split at h'
    ·rename_i e t' a' fr' uq hr
     split at h'
     ·rename_i he
      subst he
      simp only[eW,nB] at h'
      obtain⟨rfl,rfl,rfl,rfl⟩:=h'
      obtain⟨⟨g1,v,g2,g3,_⟩,g4⟩:=hlk r _ hr
      have hv:v=c:=by
       have:=hc.symm.trans g2
       simpa using this.symm
      subst hv
      exact⟨[v],cs',rfl,g1,g3.rd (fun b hb=>hG _ b hb) (fun b n c h0 hv=>g4 b (by simp[oC,g2,hv,lY];omega)),hl⟩
     ·cases h'
    ·rename_i e t' a' fr' lls hr
     split at h'
     ·rename_i he
      subst he
      simp only[eW,nB] at h'
      obtain⟨rfl,rfl,rfl,rfl⟩:=h'
      obtain⟨⟨g1,v,g2,g3,_⟩,g4⟩:=hlk r _ hr
      have hv:v=c:=by
       have:=hc.symm.trans g2
       simpa using this.symm
      subst hv
      exact⟨[v],cs',rfl,g1,g3.rd (fun b hb=>hG _ b hb) (fun b n c h0 hv=>g4 b (by simp[oC,g2,hv,lY];omega)),hl⟩
     ·cases h'
    ·cases h'
 induction t with
 | cMV x y ihx ihy =>
  intro ls cs a fr ks rest hl h
  simp only[fZ] at h
  split at h
  ·rename_i a1 f1 k1 ls1 h1
   split at h
   ·rename_i a2 f2 k2 ls2 h2
    simp only[eW,nB] at h
    obtain⟨rfl,rfl,rfl,rfl⟩:=h
    obtain⟨c1,c2,rfl,b1,r1,l1⟩:=ihx hl h1
    obtain⟨c3,c4,rfl,b2,r2,l2⟩:=ihy l1 h2
    refine⟨c1++c3,c4,by simp,bLK _ _ _ _ _ b1 b2,?_,l2⟩
    rw[zS]
    exact⟨c1,c3,rfl,r1,r2⟩
   ·cases h
  ·cases h
 | _=>exact base _ (by intro a b h;cases h)
theorem bCH {r:Nat} {e0:Option Ent} {e:TypeId} {t:Ty} {a:Ar} {fr:Bool} (h:cA6 e0=some (e,t,a,fr)):∃e1,e0=some e1/\(jS X γ β O env w r e1->a.bd env.length=true/\∃v,γ r=some v/\wU (Gd X O w fr) w e t v ((a.val env).as (.slice e t))):=by
 unfold cA6 at h
 split at h
 ·simp only[eW,nB] at h
  obtain⟨rfl,rfl,rfl,rfl⟩:=h
  exact⟨_,rfl,fun⟨h1,v,h2,h3,_⟩=>⟨h1,v,h2,h3⟩⟩
 ·simp only[eW,nB] at h
  obtain⟨rfl,rfl,rfl,rfl⟩:=h
  exact⟨_,rfl,fun⟨h1,v,h2,h3,_⟩=>⟨h1,v,h2,h3⟩⟩
 ·cases h
variable {wr:Bool} {nx:Nat} {ls:List Let} {s:Sh} {ρ:Operand->Value} {sh:Operand->Sh} {o:Oper} {lk:Lk}
theorem bJ0 (hγ:∀r u,γ r=some u->u.cells = #[u]) (hO:∀b∈O,b<w.heap.size) (hlk:∀r e,lk r=some e->jS X γ β O env w r e/\∀b∈oC γ (r,e),b<w.heap.size)
  (h:aJK P o sh lk nx=some (ls,s)) (hl:iV Cs env nx ls) (hs:∀x,bU X γ O env w (sh x) (ρ x)):Yld P X γ O env w ρ o s:=by
 cases hop:o.op with
 | load T x =>
  have hx:=hs x
  simp only[aJK,hop] at h
  split at h
  ·rename_i r off hsx
   rw[hsx] at hx
   obtain⟨b,h1,h2⟩:=hx
   split at h
   ·rename_i T0 lf hr
    simp only[Option.map_eq_some_iff,nB] at h
    obtain⟨s',h3,rfl,rfl⟩:=h
    obtain⟨⟨b',c,g1,g2,g3,_⟩,_⟩:=hlk r _ hr
    rw[h1] at g1
    simp only[eW,Value.pointer.injEq,Addr.mk.injEq,and_true] at g1
    subst g1
    obtain⟨ti,h6,h7,h8⟩:=aOL h3 g3
    have h9:=(uH h6).load b off ((c.toList.drop off).take ti.t.n) (by simp at h7⊢;omega) w (fun j hj=>by
     simp only[List.length_take,List.length_drop,Array.length_toList] at hj
     simp only[World.cell?,g2,Option.isSome_none,Bool.false_eq_true,if_false,List.getElem_take,List.getElem_drop]
     rw[<-Array.getElem?_toList,List.getElem?_eq_getElem])
    exact .of (by simp[execOp,hop,h2,Instr.loadAt,Instr.sureAddr,h9]) h8
   ·cases h
  ·rename_i r e t ix off hsx
   rw[hsx] at hx
   obtain⟨h0,b,len,cap,h1,h2,h3,h4⟩:=hx
   split at h
   ·rename_i e' t' a fr hr
    split at h
    ·rename_i hc
     obtain⟨rfl,rfl⟩:=hc
     simp only[Option.map_eq_some_iff,nB] at h
     obtain⟨s',h5,rfl,rfl⟩:=h
     obtain⟨e1,hre,hent⟩:=bCH (X:=X) (γ:=γ) (β:=β) (O:=O) (env:=env) (w:=w) (r:=r) hr
     obtain⟨ha,v,g1,g2⟩:=hent (hlk r _ hre).1
     rw[h1] at g1
     simp only[eW] at g1
     subst g1
     obtain⟨l1,l2,l3,l4,_⟩:=gC hl
     simp only[Prim.cond,Prim.ity,cZ] at l2
     simp only[Prim.oty,Prim.fn,Prim.ity,cZ] at l4
     obtain⟨z,hz⟩:∃z:Int,SV.as tI (Ar.val env ix)=z:=⟨_,rfl⟩
     obtain⟨ll,hll⟩:∃ll:List t'.D,SV.as (.slice e' t') (Ar.val env a)=ll:=⟨_,rfl⟩
     rw[hz,hll] at l2 l4
     rw[hz] at h2 h3 h4
     rw[hll] at g2
     have l21:(0:Int)<=z:=l2.1
     have l22:z<(ll.length:Int):=l2.2
     rcases g2 with⟨p,hv,hnil⟩|⟨b',cap',cur,hv,hcap,hh,q1,q2,q3,q4⟩
     ·subst hnil;simp at l22;omega
     ·simp only[Value.slice.injEq,eW,Addr.mk.injEq,and_true] at hv
      obtain⟨rfl,rfl,rfl⟩:=hv
      have q5:=q4 z.toNat (by omega)
      have hel:=aGS (X:=X) (γ:=γ) (O:=O) t' (aF7 l4) (fr:=fr) (cs:=(cur.toList.drop (z.toNat * t'.n)).take t'.n) (by
       rw[uC l4,List.getD_eq_getElem?_getD,List.getElem?_eq_getElem (by omega)]
       exact q5)
      have hq:=q5.length
      obtain⟨ti,h6,h7,h8⟩:=aOL h5 hel
      have h9:=(uH h6).load b (z.toNat * t'.n+off) ((((cur.toList.drop (z.toNat * t'.n)).take t'.n).drop off).take ti.t.n) (by simp only[List.length_take,List.length_drop] at h7⊢;omega) w (fun j hj=>by
       simp only[List.length_take,List.length_drop,Array.length_toList] at hj
       simp only[World.cell?,hh,Option.isSome_none,Bool.false_eq_true,if_false,List.getElem_take,List.getElem_drop]
       rw[<-Array.getElem?_toList,List.getElem?_eq_getElem (by simp;omega)]
       simp only[eW]
       congr 1
       omega)
      exact .of (by simp only[execOp,hop,h4,Instr.loadAt,Instr.sureAddr,Sem.run_bind,Sem.run_pure,Result.andThen_ok,h9]) h8
    ·cases h
   ·cases h
  ·cases h
 | indexAddr T x i =>
  have hx:=hs x
  have hi:=hs i
  simp only[aJK,hop] at h
  split at h
  ·rename_i e r b fr k hT hsx hsi
   rw[hsx] at hx
   rw[hsi] at hi
   split at h
   ·rename_i e' t a fr' hr
    split at h
    ·rename_i hc
     obtain⟨rfl,hc⟩:=hc
     simp only[eW,nB] at h
     obtain⟨rfl,rfl⟩:=h
     obtain⟨e1,hre,hent⟩:=bCH (X:=X) (γ:=γ) (β:=β) (O:=O) (env:=env) (w:=w) (r:=r) hr
     obtain⟨ha,v,g1,g2⟩:=hent (hlk r _ hre).1
     have hxv:ρ x=v:=by
      have:γ r=some (ρ x):=hx
      rw[g1] at this
      simpa using this.symm
     obtain⟨hv2,hw2⟩:=jR hi
     obtain⟨l1,l2,l3,l4,_⟩:=gC hl
     simp only[Prim.cond,Prim.ity,cZ] at l2
     have hib:b.bd env.length=true:=hi.1
     obtain⟨z,hz⟩:∃z:Int,SV.as tI (Ar.val env b)=z:=⟨_,rfl⟩
     obtain⟨ll,hll⟩:∃ll:List t.D,SV.as (.slice e' t) (Ar.val env a)=ll:=⟨_,rfl⟩
     rw[hz,hll] at l2
     rw[hz] at hv2
     rw[hll] at g2
     have l21:(0:Int)<=z:=l2.1
     have l22:z<(ll.length:Int):=l2.2
     rcases g2 with⟨p,hv,hnil⟩|⟨b',cap',cur,hv,hcap,hh,q1,q2,q3,q4⟩
     ·subst hnil;simp at l22;omega
     ·have hr2:=bAW (w:=w) hT hc (Ty.n_pos t) b' 0 ll.length cap' z l21 l22
      rw[Nat.zero_add] at hr2
      refine .of (by simp only[execOp,hop,hxv,hv,hv2,Sem.run_bind,hr2,Result.andThen_ok,Sem.run_pure];rfl) ⟨hib,b',ll.length,cap',by rw[g1,hv],by rw[hz];exact l21,by rw[hz];exact l22,by rw[hz,Nat.add_zero]⟩
    ·cases h
   ·cases h
  ·cases h
 | convert S D x =>
  have hx:=hs x
  simp only[aJK,hop] at h
  split at h
  ·rename_i e l hS hD hsx
   rw[hsx] at hx
   split at h
   ·rename_i a f ks he hi
    obtain⟨c1,c2,hcs,g1,g2,g3⟩:=aIF (X:=X) (γ:=γ) (β:=β) (O:=O) (env:=env) (w:=w) (lk:=lk) (G:=fun b=>b<w.heap.size) (fun fr b hb=>hb.1) hlk (.slice e (.int .u8)) (ls:=[l]) (cs:=[ρ x]) ⟨ρ x,[],rfl,hx,rfl⟩ hi
    have hc2:c2=[]:=g3
    subst hc2
    have hc1:c1=[ρ x]:=by simpa using hcs.symm
    subst hc1
    obtain⟨p,len,cap,hv,hsl⟩:=g2
    simp only[List.cons.injEq,and_true] at hv
    obtain⟨ll,hll⟩:∃ll:List Int,SV.as (.slice e (.int .u8)) (Ar.val env a)=ll:=⟨_,rfl⟩
    refine .of (r:=.string (jG ll)) ?_ (nR h hl fun _ ho=>?_)
    ·rw[hll] at hsl
     have hv':ρ x = .slice p len cap:=hv
     have:=cI1 (w:=w) (P:=P) hS hD he hsl
     simp only[execOp,hop,hv',Sem.run_bind,this,Result.andThen_ok,Sem.run_pure]
    ·simp only[Prim.fn,Prim.ity,Prim.oty,hll] at ho⊢
     exact bMC ho _
   ·cases h
  ·cases h
 | call c =>
  obtain⟨callee,args,tys⟩:=c
  cases callee with
  | builtin b =>
   cases b with
   | len =>
    simp only[aJK,hop] at h
    split at h
    ·rename_i x T ha ht
     have hx:=hs x
     have ha':args = #[x]:=by cases args;simp_all
     have ht':tys = #[T]:=by cases tys;simp_all
     subst ha' ht'
     split at h
     ·rename_i e0 r hT hsx
      rw[hsx] at hx
      split at h
      ·rename_i e t a fr hr
       obtain⟨e1,hre,hent⟩:=bCH (X:=X) (γ:=γ) (β:=β) (O:=O) (env:=env) (w:=w) (r:=r) hr
       obtain⟨ha,v,g1,g2⟩:=hent (hlk r _ hre).1
       have hxv:ρ x=v:=by
        have:γ r=some (ρ x):=hx
        rw[g1] at this
        simpa using this.symm
       refine .of (r:=.int .i64 ((SV.as (.slice e t) (Ar.val env a):List t.D).length:Int)) ?_ (nR h hl fun _ ho=>?_)
       ·rcases g2 with⟨p,hv,hnil⟩|⟨b',cap',cur,hv,hcap,hh,q1,q2,q3,q4⟩
        ·simp[execOp,hop,resolve,invoke,builtin,Builtin.len_,hxv,hv,run_underlying hT,goInt,hnil]
        ·simp[execOp,hop,resolve,invoke,builtin,Builtin.len_,hxv,hv,run_underlying hT,goInt]
       ·simp only[Prim.fn,Prim.ity,Prim.oty] at ho⊢
        exact qO (xX ho) _
      ·cases h
     ·cases h
    ·cases h
   | _=>simp[aJK,hop] at h
  | _=>simp[aJK,hop] at h
 | _=>simp[aJK,hop] at h
end
def Gh.upd (γ:Gh) (r:Nat) (v:Value):Gh:=fun q=>if q=r then some v else γ q
def Bt.upd (β:Bt) (r:Nat) (l:List Nat):Bt:=fun q=>if q=r then l else β q
@[simp] theorem Gh.upd_same (γ:Gh) (r:Nat) (v:Value):γ.upd r v r=some v:=by simp[Gh.upd]
theorem Gh.upd_other {γ:Gh} {r q:Nat} {v:Value} (h:q≠r):γ.upd r v q=γ q:=by simp[Gh.upd,h]
theorem Gh.upd_mono {γ:Gh} {r:Nat} {v:Value} (h:γ r=none):∀q u,γ q=some u->γ.upd r v q=some u:=fun q u hq=>by
 by_cases he:q=r
 ·subst he;rw[h] at hq;cases hq
 ·rw[Gh.upd_other he];exact hq
def lF (γ:Gh):Prop:=∀r u,γ r=some u->u.cells = #[u]
section
variable {P:Program} {Cs:List Con} {X:Cx} {γ γ':Gh} {β β':Bt} {O:List Nat} {env:List SV} {w w':World}
theorem jS.gh {r:Nat} {e:Ent} (h:jS X γ β O env w r e):∃v,γ r=some v:=by
 cases e with
 | box T ls=>obtain⟨b,c,h,_⟩:=h;exact⟨_,h⟩
 | sl e t a fr uq=>obtain⟨_,v,h,_⟩:=h;exact⟨_,h⟩
 | uq t a fr=>obtain⟨_,v,h,_⟩:=h;exact⟨_,h⟩
 | arr e t a fr ls=>obtain⟨_,v,h,_⟩:=h;exact⟨_,h⟩
theorem cCP {p:Nat×Ent} (h:∀r v,γ r=some v->γ' r=some v) (hp:∃v,γ p.1=some v):oC γ' p=oC γ p:=by
 obtain⟨r,e⟩:=p
 obtain⟨v,hv⟩:=hp
 have:=h r v hv
 cases e<;>simp[oC,hv,this]
theorem aJP (h:∀r v,γ r=some v->γ' r=some v) {es:Es} (hp:∀p∈es,∃v,γ p.1=some v):Os γ' es=Os γ es:=by
 unfold Os
 induction es with
 | nil=>rfl
 | cons p es ih =>
  simp only[List.flatMap_cons]
  rw[cCP h (hp p (by simp)),ih (fun q hq=>hp q (by simp[hq]))]
theorem aLG {es:Es} (hp:∀p∈es,β' p.1=β p.1):Us β' es=Us β es:=by
 unfold Us
 induction es with
 | nil=>rfl
 | cons p es ih =>
  simp only[List.flatMap_cons]
  rw[hp p (by simp),ih (fun q hq=>hp q (by simp[hq]))]
theorem xS {es:Es} {b:Nat}:b∈Os γ es↔∃p∈es,b∈oC γ p:=by simp[Os]
theorem bFU {es:Es} {b:Nat}:b∈Us β es↔∃p∈es,b∈β p.1:=by simp[Us]
theorem fJ (a b:Es):Os γ (a++b)=Os γ a++Os γ b:=by simp[Os]
theorem iJ (a b:Es):Us β (a++b)=Us β a++Us β b:=by simp[Us]
theorem MemOK.grow {es new:Es} (h:MemOK X γ β env w es) (hf:X.B<=w.heap.size) (hw:∀b,b<w.heap.size->w'.heap[b]?=w.heap[b]?) (hsz:w.heap.size<=w'.heap.size)
  (hγ:∀r v,γ r=some v->γ' r=some v) (hβ:∀p∈es,β' p.1=β p.1)
  (hnd:(Os γ' new++Us β' new).Nodup) (hat:∀b∈Os γ' new++Us β' new,w.heap.size<=b/\b<w'.heap.size)
  (hent:Later X γ (Os γ es) env w γ' (Os γ' (new++es)) env w'->∀p∈new,jS X γ' β' (Os γ' (new++es)) env w' p.1 p.2) :
  MemOK X γ' β' env w' (new++es)/\Later X γ (Os γ es) env w γ' (Os γ' (new++es)) env w':=by
 have hp:∀p∈es,∃v,γ p.1=some v:=fun p hp=>(h.ent p hp).gh
 have eO:Os γ' (new++es)=Os γ' new++Os γ es:=by rw[fJ,aJP hγ hp]
 have eU:Us β' (new++es)=Us β' new++Us β es:=by rw[iJ,aLG hβ]
 have hA:∀b,w.heap.size<=b->¬X.A b:=fun b hb ha=>by have:=X.hA b ha;unfold Cx.B at hf;omega
 have hO:∀b∈Os γ es,b<w.heap.size:=fun b hb=>(h.at' b hb).1
 have hU:∀b∈Us β es,b<w.heap.size:=fun b hb=>(h.good b hb).1
 have Al:Later X γ (Os γ es) env w γ' (Os γ' (new++es)) env w':=⟨hγ,⟨[],by simp⟩,hsz,fun b h1 h2 h3=>⟨hw b h1,by
  rw[eO,List.mem_append]
  rintro(h4|h4)
  ·have:=hat b (by simp[h4]);omega
  ·exact h2 h4⟩⟩
 have Az:(Os γ' (new++es)++Us β' (new++es)).Nodup:=by
  rw[eO,eU]
  have h1:=h.nd
  rw[List.nodup_append] at h1 hnd⊢
  obtain⟨n1,n2,n3⟩:=h1
  obtain⟨m1,m2,m3⟩:=hnd
  refine⟨List.nodup_append.2 ⟨m1,n1,fun x hx y hy e=>?_⟩,List.nodup_append.2 ⟨m2,n2,fun x hx y hy e=>?_⟩,fun x hx y hy e=>?_⟩
  ·have:=hat x (by simp[hx]);have:=hO y hy;omega
  ·have:=hat x (by simp[hx]);have:=hU y hy;omega
  ·rw[List.mem_append] at hx hy
   rcases hx with hx|hx<;>rcases hy with hy|hy
   ·exact m3 x hx y hy e
   ·have:=hat x (by simp[hx]);have:=hU y hy;omega
   ·have:=hat y (by simp[hy]);have:=hO x hx;omega
   ·exact n3 x hx y hy e
 refine⟨⟨Az,fun b hb=>?_,fun b hb=>?_,fun p A6=>?_⟩,Al⟩
 ·rw[eO,List.mem_append] at hb
  rcases hb with hb|hb
  ·have:=hat b (by simp[hb])
   exact⟨this.2,.inl (by omega),hA b this.1⟩
  ·obtain⟨h1,h2,h3⟩:=h.at' b hb
   exact⟨by omega,h2,h3⟩
 ·have hno:b ∉ Os γ' (new++es):=fun Bq=>(List.nodup_append.1 Az).2.2 b Bq b hb rfl
  rw[eU,List.mem_append] at hb
  rcases hb with hb|hb
  ·have:=hat b (by simp[hb])
   exact⟨this.2,hno,hA b this.1,fun _=>.inl (by omega)⟩
  ·obtain⟨h1,h2,h3,h4⟩:=h.good b hb
   exact⟨by omega,hno,h3,h4⟩
 ·rw[List.mem_append] at A6
  rcases A6 with A6|A6
  ·exact hent Al p A6
  ·refine jS.later Al (hβ p A6) (fun b hb=>hw b (hO b (xS.2 ⟨p,A6,hb⟩))) (fun b hb=>hw b (hU b (bFU.2 ⟨p,A6,hb⟩))) (h.ent p A6)
theorem FrameOK.grow (h:FrameOK X w) (hos:w'.os=w.os) (ht:w'.tape=w.tape) (ho:w'.output=w.output) (hsz:w.heap.size<=w'.heap.size) (hw:∀b,b<w.heap.size->w'.heap[b]?=w.heap[b]?):FrameOK X w' :=
 ⟨hos.trans h.os,ht.trans h.tape,ho.trans h.output,Nat.le_trans h.size hsz,fun b hb Bq=>(hw b (Nat.lt_of_lt_of_le hb h.size)).trans (h.block b hb Bq)⟩
theorem FrameOK.B_le (h:FrameOK X w):X.B<=w.heap.size:=h.size
structure Grew (X:Cx) (γ:Gh) (β:Bt) (env:List SV) (w:World) (es new:Es) (nr:Nat) (s:Sh) (v:Value) (γ':Gh) (β':Bt) (w':World):Prop where
 mem:MemOK X γ' β' env w' (new++es)
 later:Later X γ (Os γ es) env w γ' (Os γ' (new++es)) env w'
 frame:FrameOK X w'
 gh:lF γ'
 same:∀r,(r<nr\/nr+new.length<=r)->γ' r=γ r/\β' r=β r
 ids:∀p∈new,nr<=p.1/\p.1<nr+new.length
 val:bU X γ' (Os γ' (new++es)) env w' s v
theorem aMP:(ls:List Leaf)->{cs:List Value}->{nr:Nat}->{γ:Gh}->lF γ->bG X γ O env w ls cs->(∀r,nr<=r->r<nr+(cG ls nr).2.1.length->γ r=none) ->
  (cG ls nr).2.2=nr+(cG ls nr).2.1.length/\(∀p∈(cG ls nr).2.1,nr<=p.1/\p.1<nr+(cG ls nr).2.1.length) /\
  ∃γ':Gh,lF γ'/\(∀r v,γ r=some v->γ' r=some v)/\(∀r,(r<nr\/nr+(cG ls nr).2.1.length<=r)->γ' r=γ r)/\bG X γ' O env w (cG ls nr).1 cs /\
   ∀p∈(cG ls nr).2.1,(∃q,γ' p.1=some (.slice q 0 0))/\∃e t,p.2 = .sl e t (.nl e t) true true
 | [],cs,nr,γ,hg,h,hf=>⟨rfl,fun p hp=>by simp[cG] at hp,γ,hg,fun _ _ h=>h,fun _ _=>rfl,h,fun p hp=>by simp[cG] at hp⟩
 | l::ls,_,nr,γ,hg,⟨c,cs',hc,h1,h2⟩,hf=>by
  subst hc
  have plain:(∀e t,l ≠ .nl e t)->cG (l::ls) nr=(l::(cG ls nr).1,(cG ls nr).2.1,(cG ls nr).2.2):=by
   intro hn
   cases l with
   | nl e t=>exact absurd rfl (hn e t)
   | _=>rfl
  by_cases hn:∃e t,l = .nl e t
  ·obtain⟨e,t,rfl⟩:=hn
   obtain⟨p,rfl⟩:=h1
   have he:cG (.nl e t::ls) nr=(.own nr::(cG ls (nr+1)).1,(nr,.sl e t (.nl e t) true true)::(cG ls (nr+1)).2.1,(cG ls (nr+1)).2.2):=rfl
   rw[he] at hf⊢
   simp only[List.length_cons] at hf⊢
   have Bl:γ nr=none:=hf nr (Nat.le_refl _) (by omega)
   have hlat:Later X γ O env w (γ.upd nr (.slice p 0 0)) O env w:=⟨Gh.upd_mono Bl,⟨[],by simp⟩,Nat.le_refl _,fun b _ h _=>⟨rfl,h⟩⟩
   have hg':lF (γ.upd nr (.slice p 0 0)):=fun r u hr=>by
    by_cases Gn:r=nr
    ·subst Gn;simp at hr;subst hr;rfl
    ·rw[Gh.upd_other Gn] at hr;exact hg r u hr
   obtain⟨i1,i2,γ',i3,i4,i5,i6,i7⟩:=aMP ls (nr:=nr+1) (γ:=γ.upd nr (.slice p 0 0)) hg' (bG.later hlat h2) (fun r hr hr2=>by
    rw[Gh.upd_other (by omega)];exact hf r (by omega) (by omega))
   refine⟨by simp only[i1];omega,fun q hq=>?_,γ',i3,fun r v hr=>i4 r v (Gh.upd_mono Bl r v hr),fun r hr=>?_,⟨_,_,rfl,i4 _ _ (by simp),i6⟩,fun q hq=>?_⟩
   ·simp only[List.mem_cons] at hq
    rcases hq with rfl|hq
    ·exact⟨Nat.le_refl _,by simp only;omega⟩
    ·have:=i2 q hq;omega
   ·rw[i5 r (by omega),Gh.upd_other (by omega)]
   ·simp only[List.mem_cons] at hq
    rcases hq with rfl|hq
    ·exact⟨⟨p,i4 _ _ (by simp)⟩,e,t,rfl⟩
    ·exact i7 q hq
  ·have hn':∀e t,l ≠ .nl e t:=fun e t h=>hn ⟨e,t,h⟩
   rw[plain hn'] at hf⊢
   simp only at hf⊢
   obtain⟨i1,i2,γ',i3,i4,i5,i6,i7⟩:=aMP ls hg h2 hf
   have hlat:Later X γ O env w γ' O env w:=⟨i4,⟨[],by simp⟩,Nat.le_refl _,fun b _ h _=>⟨rfl,h⟩⟩
   exact⟨i1,i2,γ',i3,i4,i5,⟨c,cs',rfl,kJ.later hlat h1,i6⟩,i7⟩
theorem bNT {r:Nat} {e:TypeId} {t:Ty} {q:Option Addr} (h:γ r=some (.slice q 0 0)) (hb:β r=[]):jS X γ β O env w r (.sl e t (.nl e t) true true) :=
 ⟨rfl,_,h,.inl ⟨q,rfl,by simp only[Ar.val,SV.as_self]⟩,fun _=>.inl ⟨q,rfl,hb⟩,fun h=>by cases h⟩
end
section
variable {P:Program} {Cs:List Con} {X:Cx} {γ γ':Gh} {β β':Bt} {O:List Nat} {env:List SV} {w w':World} {es:Es}
structure OneMore (w w':World) (obj:Obj):Prop where
 os:w'.os=w.os
 tape:w'.tape=w.tape
 output:w'.output=w.output
 size:w'.heap.size=w.heap.size+1
 new:w'.heap[w.heap.size]?=some obj
 old:∀b,b<w.heap.size->w'.heap[b]?=w.heap[b]?
theorem OneMore.alloc (w:World) (obj:Obj):OneMore w (w.alloc obj) obj:=⟨rfl,rfl,rfl,by simp,Go.heap_alloc_new w obj,fun b hb=>Below.heap_alloc _ _ _ hb⟩
theorem OneMore.drew (w:World) (obj:Obj):OneMore w (w.drew.alloc obj) obj:=⟨rfl,rfl,rfl,by show(w.drew.alloc obj).heap.size=_;simp,Go.heap_alloc_new w.drew obj,fun b hb=>Below.heap_alloc w.drew _ _ hb⟩
theorem lF.upd (h:lF γ) {r:Nat} {v:Value} (hv:v.cells = #[v]):lF (γ.upd r v):=fun q u hq=>by
 by_cases he:q=r
 ·subst he;simp at hq;subst hq;exact hv
 ·rw[Gh.upd_other he] at hq;exact h q u hq
theorem bQ7 (hm:MemOK X γ β env w es) (hf:FrameOK X w) (hg:lF γ) {nr:Nat} {T:TypeId} {l0:List Leaf} {cs:List Value} (hl:bG X γ (Os γ es) env w l0 cs)
  (Aa:∀r,nr<=r->r<nr+(1+(cG l0 (nr+1)).2.1.length)->γ r=none) (hw:OneMore w w' (.cells cs.toArray T)) :
  ∃γ' β',Grew X γ β env w es ((nr,.box T (cG l0 (nr+1)).1)::(cG l0 (nr+1)).2.1) nr (.pbox nr 0) (.pointer (some ⟨w.heap.size,0,none⟩)) γ' β' w':=by
 have Bl:γ nr=none:=Aa nr (Nat.le_refl _) (by omega)
 have hg1:=hg.upd (r:=nr) (v:=.pointer (some ⟨w.heap.size,0,none⟩)) rfl
 have Ff:Later X γ (Os γ es) env w (γ.upd nr (.pointer (some ⟨w.heap.size,0,none⟩))) (Os γ es) env w:=⟨Gh.upd_mono Bl,⟨[],by simp⟩,Nat.le_refl _,fun b _ h _=>⟨rfl,h⟩⟩
 obtain⟨i1,i2,γ',i3,i4,i5,i6,i7⟩:=aMP l0 (nr:=nr+1) hg1 (bG.later Ff hl) (fun r h1 h2=>by rw[Gh.upd_other (by omega)];exact Aa r (by omega) (by omega))
 have hγ:∀r v,γ r=some v->γ' r=some v:=fun r v h=>i4 r v (Gh.upd_mono Bl r v h)
 have hγn:γ' nr=some (.pointer (some ⟨w.heap.size,0,none⟩)):=i4 _ _ (by simp)
 let β':Bt:=fun r=>if nr<=r/\r<nr+(1+(cG l0 (nr+1)).2.1.length) then [] else β r
 have hβn:∀r,nr<=r->r<nr+(1+(cG l0 (nr+1)).2.1.length)->β' r=[]:=fun r h1 h2=>by simp only[β'];rw[if_pos ⟨h1,h2⟩]
 have hold:∀p∈es,¬(nr<=p.1/\p.1<nr+(1+(cG l0 (nr+1)).2.1.length)):=fun p hp h=>by
  obtain⟨v,hv⟩:=(hm.ent p hp).gh
  rw[Aa p.1 h.1 h.2] at hv;cases hv
 have hβo:∀p∈es,β' p.1=β p.1:=fun p hp=>by simp only[β'];rw[if_neg (hold p hp)]
 have Av:Os γ' ((nr,Ent.box T (cG l0 (nr+1)).1)::(cG l0 (nr+1)).2.1)=[w.heap.size]:=by
  have h1:Os γ' (cG l0 (nr+1)).2.1=[]:=by
   rw[List.eq_nil_iff_forall_not_mem]
   intro b hb
   obtain⟨p,hp,hb⟩:=xS.1 hb
   obtain⟨⟨q,hq⟩,e,t,he⟩:=i7 p hp
   obtain⟨r,en⟩:=p
   simp only at hq he
   subst he
   simp only[oC,hq] at hb
   cases q<;>simp[lY] at hb
  show oC γ' _++Os γ' _=_
  rw[h1]
  simp[oC,hγn,lY]
 have A2:Us β' ((nr,Ent.box T (cG l0 (nr+1)).1)::(cG l0 (nr+1)).2.1)=[]:=by
  rw[List.eq_nil_iff_forall_not_mem]
  intro b hb
  obtain⟨p,hp,hb⟩:=bFU.1 hb
  simp only[List.mem_cons] at hp
  rcases hp with rfl|hp
  ·rw[hβn _ (Nat.le_refl _) (by omega)] at hb;cases hb
  ·have:=i2 p hp
   rw[hβn _ (by omega) (by omega)] at hb;cases hb
 obtain⟨m1,m2⟩:=hm.grow (γ':=γ') (β':=β') (w':=w') (new:=(nr,Ent.box T (cG l0 (nr+1)).1)::(cG l0 (nr+1)).2.1) hf.B_le hw.old (by rw[hw.size];omega) hγ hβo (by rw[Av,A2];simp) (by
  rw[Av,A2]
  intro b hb
  simp only[List.append_nil,List.mem_singleton] at hb
  subst hb
  rw[hw.size];omega) (fun hlat p hp=>by
  simp only[List.mem_cons] at hp
  rcases hp with rfl|hp
  ·refine⟨w.heap.size,cs.toArray,hγn,hw.new,?_,hβn _ (Nat.le_refl _) (by omega)⟩
   have Cq:Later X γ' (Os γ es) env w γ' (Os γ' ((nr,Ent.box T (cG l0 (nr+1)).1)::(cG l0 (nr+1)).2.1++es)) env w':=⟨fun _ _ h=>h,⟨[],by simp⟩,hlat.size,hlat.block⟩
   simpa using bG.later Cq i6
  ·obtain⟨⟨q,hq⟩,e,t,he⟩:=i7 p hp
   have:=i2 p hp
   obtain⟨r,en⟩:=p
   simp only at hq he this⊢
   subst he
   exact bNT hq (hβn _ (by omega) (by omega)))
 refine⟨γ',β',m1,m2,hf.grow hw.os hw.tape hw.output (by rw[hw.size];omega) hw.old,i3,fun r hr=>?_,fun p hp=>?_,?_⟩
 ·simp only[List.length_cons] at hr
  refine⟨by rw[i5 r (by omega),Gh.upd_other (by omega)],?_⟩
  simp only[β'];rw[if_neg (by omega)]
 ·simp only[List.mem_cons,List.length_cons] at hp⊢
  rcases hp with rfl|hp
  ·simp only;omega
  ·have:=i2 p hp;omega
 ·exact⟨_,hγn,rfl⟩
theorem bF9 (hm:MemOK X γ β env w es) (hf:FrameOK X w) (hg:lF γ) {nr:Nat} (Aa:γ nr=none) {e:TypeId} {en:Ent} {cur:Array Value} {len cap:Nat} (hw:OneMore w w' (.cells cur e (0,0)))
  (hen:(∃t a fr uq,en = .sl e t a fr uq)\/∃t a fr ls,en = .arr e t a fr ls)
  (hent:∀γ' β',γ' nr=some (.slice (some ⟨w.heap.size,0,none⟩) len cap)->β' nr=[]->Later X γ (Os γ es) env w γ' (Os γ' ((nr,en)::es)) env w'->jS X γ' β' (Os γ' ((nr,en)::es)) env w' nr en) :
  ∃γ' β',Grew X γ β env w es [(nr,en)] nr (.one (.own nr)) (.slice (some ⟨w.heap.size,0,none⟩) len cap) γ' β' w':=by
 let v:Value:=.slice (some ⟨w.heap.size,0,none⟩) len cap
 have hold:∀p∈es,p.1≠nr:=fun p hp h=>by
  obtain⟨v,hv⟩:=(hm.ent p hp).gh
  rw[h,Aa] at hv;cases hv
 have Av:Os (γ.upd nr v) [(nr,en)]=if cap=0 then [] else [w.heap.size]:=by
  rcases hen with⟨t,a,fr,uq,rfl⟩|⟨t,a,fr,ls,rfl⟩<;>simp[Os,oC,v,lY]
 have A2:Us (β.upd nr []) [(nr,en)]=[]:=by simp[Us,Bt.upd]
 obtain⟨m1,m2⟩:=hm.grow (γ':=γ.upd nr v) (β':=β.upd nr []) (w':=w') (new:=[(nr,en)]) hf.B_le hw.old (by rw[hw.size];omega) (Gh.upd_mono Aa) (fun p hp=>by simp[Bt.upd,hold p hp])
  (by rw[Av,A2];split<;>simp) (by
   rw[Av,A2,hw.size]
   intro b hb
   split at hb
   ·simp at hb
   ·simp at hb;omega) (fun hlat p hp=>by
   simp only[List.mem_singleton] at hp
   subst hp
   exact hent _ _ (by simp[v]) (by simp[Bt.upd]) hlat)
 refine⟨_,_,m1,m2,hf.grow hw.os hw.tape hw.output (by rw[hw.size];omega) hw.old,hg.upd rfl,fun r hr=>?_,fun p hp=>?_,?_⟩
 ·simp only[List.length_cons,List.length_nil] at hr
  exact⟨Gh.upd_other (by omega),by simp[Bt.upd];omega⟩
 ·simp only[List.mem_singleton] at hp
  subst hp
  simp
 ·show γ.upd nr v nr=some v
  simp
theorem bYD {nr:Nat} {e:TypeId} {t:Ty} {a:Ar} {fr uq:Bool} {l:List t.D} {b len cap:Nat} {cur:Array Value} (hg:γ nr=some (.slice (some ⟨b,0,none⟩) len cap)) (hβ:β nr=[]) (hlen:len=l.length) (ha:a.bd env.length=true)
  (hd:(a.val env).as (.slice e t)=l) (hh:w.heap[b]?=some (.cells cur e (0,0))) (h1:l.length<=cap) (h2:cap<=maxLen) (h3:cur.size=cap * t.n) (h4:∀k (h:k<l.length),kS (Gd X O w fr) t w ((cur.toList.drop (k * t.n)).take t.n) l[k])
  (h5:uq=true->pC t.n (Un t w) (cur.toList.take (l.length * t.n)) l []):jS X γ β O env w nr (.sl e t a fr uq):=by
 subst hlen
 refine⟨ha,_,hg,?_,fun hu=>?_,fun _=>hβ⟩
 ·rw[hd]
  by_cases hc:cap=0
  ·subst hc
   have:l=[]:=List.eq_nil_of_length_eq_zero (by omega)
   subst this
   exact .inl ⟨_,rfl,rfl⟩
  ·exact .inr ⟨b,cap,cur,rfl,by omega,hh,h1,h2,h3,h4⟩
 ·rw[hd,hβ]
  by_cases hc:cap=0
  ·subst hc
   have:l=[]:=List.eq_nil_of_length_eq_zero (by omega)
   subst this
   exact .inl ⟨_,rfl,rfl⟩
  ·exact .inr ⟨b,_,cap,cur,rfl,by omega,hh,h5 hu⟩
theorem aFV {w:World} {t:Ty} (hf:t.flat=true) {G:Nat->Prop}:{l:List t.D}->{xs:List Value}->xs.length=l.length * t.n->(∀k (h:k<l.length),kS G t w ((xs.drop (k * t.n)).take t.n) l[k])->pC t.n (Un t w) xs l []
 | [],xs,hl,h=>⟨List.eq_nil_of_length_eq_zero (by simpa using hl),rfl⟩
 | x::l,xs,hl,h=>by
  have h0:=h 0 (by simp)
  simp only[Nat.zero_mul,List.drop_zero,List.getElem_cons_zero] at h0
  simp only[List.length_cons,Nat.add_mul] at hl
  refine⟨xs.take t.n,xs.drop t.n,[],[],by simp;omega,by simp,rfl,Un.flat hf h0,aFV (G:=G) hf (by simp;omega) (fun k hk=>?_)⟩
  have:=h (k+1) (by simpa using hk)
  simp only[List.getElem_cons_succ] at this
  rw[List.drop_drop]
  rw[show t.n+k * t.n=(k+1) * t.n by rw[Nat.add_mul];omega]
  exact this
variable {wr:Bool} {nx nr:Nat} {ls:List Let} {s:Sh} {new:Es} {ρ:Operand->Value} {sh:Operand->Sh} {o:Oper} {lk:Lk}
def bKW (P:Program) (X:Cx) (γ:Gh) (β:Bt) (env:List SV) (w:World) (es new:Es) (nr:Nat) (s:Sh) (ρ:Operand->Value) (o:Oper):Prop :=
 ∃v w' γ' β',(execOp ρ o).run P w = .ok (.value v) w'/\Grew X γ β env w es new nr s v γ' β' w'
theorem cEE (hm:MemOK X γ β env w es) (hf:FrameOK X w) (hg:lF γ) {T:TypeId} (hop:o.op = .alloc T) (h:sM P Cs o sh lk nx nr=some (ls,s,new)) (Aa:∀r,nr<=r->r<nr+new.length->γ r=none) :
  bKW P X γ β env w es new nr s ρ o:=by
 simp only[sM,hop] at h
 split at h
 ·rename_i i hi
  simp only[eW,nB] at h
  obtain⟨rfl,rfl,rfl⟩:=h
  obtain⟨z,hz,K0⟩:=(uH hi).zero w
  simp only[List.length_cons] at Aa
  obtain⟨γ',β',hgr⟩:=bQ7 (T:=T) hm hf hg (aQX i.t) (fun r h1 h2=>Aa r h1 (by show r<nr+((cG (aCC i.t) (nr+1)).2.1.length+1);omega)) (OneMore.alloc w (.cells (xZ i.t).toArray T))
  refine⟨_,_,γ',β',?_,hgr⟩
  have G8:z.cells=(xZ i.t).toArray:=by rw[<-K0]
  simp[execOp,hop,Instr.alloc,hz,newVar,newRow,G8]
 ·cases h
theorem cBD (hm:MemOK X γ β env w es) (hf:FrameOK X w) (hg:lF γ) (hs:∀x,bU X γ (Os γ es) env w (sh x) (ρ x)) {T:TypeId} {x:Operand} (hop:o.op = .box T x) (h:sM P Cs o sh lk nx nr=some (ls,s,new))
  (Aa:∀r,nr<=r->r<nr+new.length->γ r=none):bKW P X γ β env w es new nr s ρ o:=by
 have hx:=hs x
 simp only[sM,hop] at h
 split at h
 ·rename_i s' hc
  split at h
  ·rename_i l0 hl0
   simp only[eW,nB] at h
   obtain⟨rfl,rfl,rfl⟩:=h
   simp only[List.length_cons] at Aa
   have hl:=aQE hg hl0 (aKN hc hx)
   obtain⟨γ',β',hgr⟩:=bQ7 (T:=T) hm hf hg hl (fun r h1 h2=>Aa r h1 (by show r<nr+((cG l0 (nr+1)).2.1.length+1);omega)) (OneMore.alloc w (.cells (ρ x).cells T))
   refine⟨_,_,γ',β',?_,hgr⟩
   simp[execOp,hop,Instr.box,newVar,newRow]
  ·cases h
 ·cases h
theorem cG5 (hm:MemOK X γ β env w es) (hf:FrameOK X w) (hg:lF γ) (hs:∀x,bU X γ (Os γ es) env w (sh x) (ρ x)) {T:TypeId} {x y:Operand} (hop:o.op = .makeSlice T x y) (h:sM P Cs o sh lk nx nr=some (ls,s,new)) (hl:iV Cs env nx ls)
  (Aa:∀r,nr<=r->r<nr+new.length->γ r=none):bKW P X γ β env w es new nr s ρ o:=by
 have hx:=hs x
 have hy:=hs y
 simp only[sM,hop] at h
 split at h
 ·rename_i e a fr k b fr2 k2 hT hsx hsy
  rw[hsx] at hx
  rw[hsy] at hy
  obtain⟨hv,hw1⟩:=jR hx
  obtain⟨hv2,hw2⟩:=jR hy
  split at h
  ·rename_i i hi
   split at h
   ·rename_i hab
    have:=Ar.beq_eq hab
    subst this
    simp only[eW,nB] at h
    obtain⟨rfl,rfl,rfl⟩:=h
    obtain⟨l1,l2,l3,l4,_⟩:=gC hl
    obtain⟨z,hz⟩:∃z:Int,SV.as tI (Ar.val env a)=z:=⟨_,rfl⟩
    simp only[Prim.cond,Prim.ity,hz] at l2
    simp only[Prim.oty,Prim.fn,Prim.ity,hz] at l4
    rw[hz] at hv hv2
    obtain⟨c1,c2,c3⟩:=l2
    obtain⟨f,Ae,hf2,hf3,zz,Ed,Eu⟩:=(uH hi).inf
    obtain⟨n,rfl⟩:∃n:Nat,z=(n:Int):=⟨z.toNat,by omega⟩
    have hnb:i.bytes * n<=281474976710656:=by
     have:((i.bytes * n:Nat):Int)<=281474976710656:=by simpa using c2
     omega
    have hrun:=aZI P T e zz i.bytes i.t hT (by simp[Ae,hf2,hf3,Ed]) Eu n hnb (by omega) w
    have hmx:n<=maxLen:=by unfold maxLen;omega
    have D5:=aYD w i.t n
    obtain⟨γ',β',hgr⟩:=bF9 hm hf hg (Aa nr (Nat.le_refl _) (by simp)) (len:=n) (cap:=n) (en:=.sl e i.t (.Z nx) true true) (OneMore.alloc w (.cells (aSQ i.t n) e)) (.inl ⟨_,_,_,_,rfl⟩) (fun γ' β' h1 h2 h3=>by
     have hb:=h3.env
     refine bYD (l:=List.replicate n (aK i.t)) h1 h2 (by simp) (aF7 l4) (by rw[uC (t:=.slice e i.t) l4];simp) (Go.heap_alloc_new w _) (by simp) hmx (by rw[aYY]) (fun k hk=>?_) (fun _=>?_)
     ·simp only[List.length_replicate] at hk
      obtain⟨xs1,c,xs2,b1,bk,b2,he,hl',hcl,hbl,_,hR,_⟩:=D5.split k (by simpa using hk)
      have hzl:(aSQ i.t n).toList=aNB i.t n:=by simp[aSQ]
      rw[hzl,he,List.drop_append,List.drop_of_length_le (by omega),show k * i.t.n - xs1.length=0 by omega,List.drop_zero,List.nil_append,List.take_left' hcl]
      have hbk:bk=[]:=by
       have:=congrArg List.length hbl
       simp at this
       exact List.eq_nil_of_length_eq_zero (by omega)
      subst hbk
      exact(kS.of_rep _ _ _ _ (aOB _ _ _ _ (fun b hb=>by simp at hb) hR)).mono (fun b hb=>by simp at hb) (fun _ _=>rfl)
     ·have hzl:(aSQ i.t n).toList=aNB i.t n:=by simp[aSQ]
      rw[hzl,List.length_replicate,List.take_of_length_le (by rw[aFI];exact Nat.le_refl _)]
      exact D5.mono (fun c x b hk hx=>Un.of_rep _ _ _ _ (aOB _ _ _ _ (fun q hq=>by have:=hk q hq;simp at this) hx)))
    refine⟨_,_,γ',β',?_,hgr⟩
    simp only[execOp,hop,hv,hv2,Sem.run_bind,hrun,Result.andThen_ok,Sem.run_pure]
   ·cases h
  ·cases h
 ·cases h
end
section
variable {P:Program} {Cs:List Con} {X:Cx} {γ γ':Gh} {β β':Bt} {O:List Nat} {env:List SV} {w w':World} {es:Es}
theorem bPL (hg:lF γ) {m:MV} {s:Sh} {a:Ar} {f:Bool} {ks:List (Nat×Ty)} (h:bAE (fun _=>none) m s=some (a,f,ks)) {v:Value} (hv:bU X γ O env w s v) :
  a.bd env.length=true/\kS (Gd X O w f) m.t w v.cells.toList ((a.val env).as m.t)/\v=mkV m.ag v.cells.toList:=by
 unfold bAE at h
 split at h
 ·split at h
  ·rename_i e t ht
   split at h
   ·cases h
   ·rename_i hag
    simp only[eW,nB] at h
    obtain⟨rfl,rfl,rfl⟩:=h
    have hv':v = .slice none 0 0:=hv
    subst hv'
    refine⟨rfl,?_,?_⟩
    ·rw[ht]
     simp only[Ar.val,SV.as_self]
     exact⟨none,0,0,rfl,rfl,Nat.le_refl _,Nat.zero_le _,fun _=>rfl,fun k hk=>by simp at hk⟩
    ·simp[mkV,hag,Value.cells]
  ·cases h
 ·rename_i l
  split at h
  ·cases h
  ·rename_i hag
   split at h
   ·rename_i a' f' ks' hi
    simp only[eW,nB] at h
    obtain⟨rfl,rfl,rfl⟩:=h
    have hc:=aGP hv hg
    obtain⟨c1,c2,hcs,g1,g2,g3⟩:=aGF (X:=X) (γ:=γ) (O:=O) (env:=env) (w:=w) m.t (ls:=[l]) (cs:=[v]) ⟨v,[],rfl,hv,rfl⟩ hi
    have hc2:c2=[]:=g3
    subst hc2
    have hc1:c1=[v]:=by simpa using hcs.symm
    subst hc1
    refine⟨g1,by rw[hc];exact g2,by rw[hc];simp[mkV,hag]⟩
   ·cases h
 ·rename_i ls
  split at h
  ·rename_i hag
   split at h
   ·rename_i a' f' ks' hi
    simp only[eW,nB] at h
    obtain⟨rfl,rfl,rfl⟩:=h
    obtain⟨cs,rfl,hl⟩:=hv
    obtain⟨c1,c2,hcs,g1,g2,g3⟩:=aGF m.t hl hi
    have hc2:c2=[]:=g3
    subst hc2
    have hc1:c1=cs.toList:=by simpa using hcs.symm
    subst hc1
    exact⟨g1,g2,by simp[mkV,hag,Value.cells]⟩
   ·cases h
  ·cases h
 ·cases h
theorem cA8 (hg:lF γ) {lk:Lk} {G:Nat->Prop} (hG:∀fr b,Gd X O w fr b->G b) (hlk:∀r e,lk r=some e->jS X γ β O env w r e/\∀b∈oC γ (r,e),G b)
  {m:MV} {s:Sh} {a:Ar} {f:Bool} {ks:List (Nat×Ty)} (h:bAE lk m s=some (a,f,ks)) {v:Value} (hv:bU X γ O env w s v) :
  a.bd env.length=true/\kS G m.t w v.cells.toList ((a.val env).as m.t)/\v=mkV m.ag v.cells.toList:=by
 unfold bAE at h
 split at h
 ·split at h
  ·rename_i e t ht
   split at h
   ·cases h
   ·rename_i hag
    simp only[eW,nB] at h
    obtain⟨rfl,rfl,rfl⟩:=h
    have hv':v = .slice none 0 0:=hv
    subst hv'
    refine⟨rfl,?_,?_⟩
    ·rw[ht]
     simp only[Ar.val,SV.as_self]
     exact⟨none,0,0,rfl,rfl,Nat.le_refl _,Nat.zero_le _,fun _=>rfl,fun k hk=>by simp at hk⟩
    ·simp[mkV,hag,Value.cells]
  ·cases h
 ·rename_i l
  split at h
  ·cases h
  ·rename_i hag
   split at h
   ·rename_i a' f' ks' hi
    simp only[eW,nB] at h
    obtain⟨rfl,rfl,rfl⟩:=h
    have hc:=aGP hv hg
    obtain⟨c1,c2,hcs,g1,g2,g3⟩:=aIF (X:=X) (γ:=γ) (β:=β) (O:=O) (env:=env) (w:=w) hG hlk m.t (ls:=[l]) (cs:=[v]) ⟨v,[],rfl,hv,rfl⟩ hi
    have hc2:c2=[]:=g3
    subst hc2
    have hc1:c1=[v]:=by simpa using hcs.symm
    subst hc1
    refine⟨g1,by rw[hc];exact g2,by rw[hc];simp[mkV,hag]⟩
   ·cases h
 ·rename_i ls
  split at h
  ·rename_i hag
   split at h
   ·rename_i a' f' ks' hi
    simp only[eW,nB] at h
    obtain⟨rfl,rfl,rfl⟩:=h
    obtain⟨cs,rfl,hl⟩:=hv
    obtain⟨c1,c2,hcs,g1,g2,g3⟩:=aIF hG hlk m.t hl hi
    have hc2:c2=[]:=g3
    subst hc2
    have hc1:c1=cs.toList:=by simpa using hcs.symm
    subst hc1
    exact⟨g1,g2,by simp[mkV,hag,Value.cells]⟩
   ·cases h
  ·cases h
 ·cases h
theorem vN:(ts:List Ty)->(a:Ar)->(gP ts a).length=ts.length
 | [],_=>rfl
 | [_],_=>rfl
 | t::u::ts,a=>by simp[gP,vN (u::ts)]
theorem aI9 {n:Nat}:(ts:List Ty)->{a:Ar}->a.bd n=true->∀b∈gP ts a,b.bd n=true
 | [],_,_,b,hb=>by simp[gP] at hb
 | [_],a,h,b,hb=>by simp[gP] at hb;subst hb;exact h
 | t::u::ts,a,h,b,hb=>by
  simp only[gP,List.mem_cons] at hb
  rcases hb with rfl|hb
  ·simpa [Ar.bd] using h
  ·exact aI9 (u::ts) (a:=.p2 t (dI (u::ts)) a) (by simpa [Ar.bd] using h) b hb
theorem bQJ (t:Ty):(n:Nat)->aN9 t n=dI (List.replicate n t)
 | 0=>rfl
 | 1=>rfl
 | n+2=>by
  rw[aN9,bQJ t (n+1)]
  rfl
theorem bWI (t:Ty):(ps:List (Ty×Ar))->(∀p∈ps,p.1=t)->aPM t ps.length (((pK ps).val env).as (aN9 t ps.length))=ps.map fun p=>(p.2.val env).as t
 | [],_=>rfl
 | [p],h=>by
  have:=h p (by simp)
  simp[aPM,pK,aN9]
 | p::q::ps,h=>by
  have hp:=h p (by simp)
  have hq:∀r∈q::ps,r.1=t:=fun r hr=>h r (List.mem_cons_of_mem _ hr)
  have e:dI ((q::ps).map (·.1))=aN9 t (ps.length+1):=by
   rw[bQJ]
   congr 1
   rw[List.eq_replicate_iff]
   exact⟨by simp,fun b hb=>by
    simp only[List.mem_map] at hb
    obtain⟨r,hr,rfl⟩:=hb
    exact hq r hr⟩
  have ih:=bWI t (q::ps) hq
  simp only[List.length_cons,aPM,aN9,pK]
  rw[e,hp,zS]
  simp only[List.length_cons] at ih
  rw[ih]
  rfl
end
theorem aVT {n:Nat}:(l:List (List Value))->(∀c∈l,c.length=n)->(k:Nat)->(h:k<l.length)->(l.flatten.drop (k * n)).take n=l[k]
 | [],_,k,h=>by simp at h
 | c::l,hc,0,h=>by
  have:=hc c (by simp)
  simp only[Nat.zero_mul,List.drop_zero,List.flatten_cons,List.getElem_cons_zero]
  exact List.take_left' this
 | c::l,hc,k+1,h=>by
  have h1:=hc c (by simp)
  have ih:=aVT l (fun d hd=>hc d (by simp[hd])) k (by simpa using h)
  simp only[List.flatten_cons,List.getElem_cons_succ]
  rw[show(k+1) * n=c.length+k * n by rw[Nat.add_mul,h1];omega,List.drop_append]
  simp only[Nat.add_sub_cancel_left]
  rw[List.drop_of_length_le (by omega),List.nil_append]
  exact ih
theorem bE0 {n:Nat} (l:List (List Value)) (hc:∀c∈l,c.length=n):l.flatten.length=l.length * n:=by
 induction l with
 | nil=>simp
 | cons c l ih=>simp[hc c (by simp),ih (fun d hd=>hc d (by simp[hd])),Nat.add_mul];omega
theorem bYH {n:Nat}:(vs:List (Nat×Value))->(s:Nat)->(cells:Array Value)->vs.map (·.1)=List.range' s vs.length->(∀p∈vs,p.2.cells.size=n)->(s+vs.length) * n<=cells.size ->
  ∃cs',Instr.fill (fun i=>some (i * n,n)) cells vs=some cs'/\cs'.toList=cells.toList.take (s * n)++((vs.map fun p=>p.2.cells.toList).flatten++cells.toList.drop ((s+vs.length) * n))
 | [],s,cells,_,_,_=>⟨cells,rfl,by simp⟩
 | (i,v)::vs,s,cells,hi,hn,hsz=>by
  simp only[List.map_cons,List.length_cons,List.range'_succ,List.cons.injEq] at hi
  obtain⟨rfl,hi⟩:=hi
  have hv:=hn (i,v) (by simp)
  simp only at hv
  simp only[List.length_cons] at hsz⊢
  have hle:(i+1) * n<=cells.size:=Nat.le_trans (Nat.mul_le_mul_right n (by omega)) hsz
  rw[Nat.add_mul] at hle
  have Bw:=aO2 v.cells.toList cells (i * n) 0 (by simp only[Array.length_toList];omega)
  simp only[Nat.add_zero,Array.length_toList,hv] at Bw
  obtain⟨cs',h1,h2⟩:=bYH vs (i+1) ((v.cells.toList.zipIdx 0).foldl (fun cs (p:Value×Nat)=>cs.setIfInBounds (i * n+p.2) p.1) cells) hi (fun p hp=>hn p (by simp[hp])) (by
   have:((v.cells.toList.zipIdx 0).foldl (fun cs (p:Value×Nat)=>cs.setIfInBounds (i * n+p.2) p.1) cells).size=cells.size:=by
    rw[<-Array.length_toList,Bw]
    simp only[List.length_append,List.length_take,List.length_drop,Array.length_toList]
    omega
   rw[this,show i+1+vs.length=i+(vs.length+1) by omega]
   exact hsz)
  refine⟨cs',?_,?_⟩
  ·unfold Instr.fill
   simp only
   rw[if_neg (by simp;omega),<-h1]
   congr 1
   rw[<-Array.foldl_toList]
   simp
  ·have e1:(List.take (i * n) cells.toList).length=i * n:=by simp;omega
   have e2:v.cells.toList.length=n:=by simpa using hv
   have e3:(List.take (i * n) cells.toList++v.cells.toList).length=(i+1) * n:=by simp only[List.length_append,e1,e2];rw[Nat.add_mul];omega
   have t1:(List.take (i * n) cells.toList++(v.cells.toList++List.drop (i * n+n) cells.toList)).take ((i+1) * n)=List.take (i * n) cells.toList++v.cells.toList:=by
    rw[<-List.append_assoc];exact List.take_left' e3
   have t2:(List.take (i * n) cells.toList++(v.cells.toList++List.drop (i * n+n) cells.toList)).drop ((i+1+vs.length) * n)=cells.toList.drop ((i+(vs.length+1)) * n):=by
    have e4:(i+1+vs.length) * n=(i+1) * n+vs.length * n:=by rw[Nat.add_mul]
    have e5:(i+(vs.length+1)) * n=i * n+n+vs.length * n:=by simp only[Nat.add_mul];omega
    rw[<-List.append_assoc,List.drop_append,e3,e4,List.drop_of_length_le (by rw[e3];omega),List.nil_append,List.drop_drop,Nat.add_sub_cancel_left,e5]
   rw[h2,Bw,t1,t2]
   simp[List.append_assoc]
section
variable {P:Program} {Cs:List Con} {X:Cx} {γ γ':Gh} {β β':Bt} {O:List Nat} {env:List SV} {w w':World} {es:Es}
theorem kS.one {G:Nat->Prop}:{t:Ty}->{cs:List Value}->{d:t.D}->kS G t w cs d->∀u∈cs,u.oneCell'=true:=by
 intro t
 induction t with
 | int k=>intro cs d h u hu;rw[h.1] at hu;simp at hu;subst hu;rfl
 | bool=>intro cs d h u hu;have h':cs=[.bool d]:=h;rw[h'] at hu;simp at hu;subst hu;rfl
 | str=>intro cs d h u hu;rw[h.1] at hu;simp at hu;subst hu;rfl
 | slice e t ih=>intro cs d h u hu;obtain⟨p,len,cap,rfl,_⟩:=h;simp at hu;subst hu;rfl
 | cMV a b iha ihb =>
  intro cs d h u hu
  obtain⟨c1,c2,rfl,h1,h2⟩:=h
  rw[List.mem_append] at hu
  rcases hu with hu|hu
  ·exact iha h1 u hu
  ·exact ihb h2 u hu
theorem SlG.news {t:Ty} {G:Nat->Prop} {p:Option Addr} {len cap:Nat} {l:List t.D} (h:SlG G t.n (kS G t w) w p len cap l) :
  ∃news:List Value,news.length=l.length * t.n/\(∀k (hk:k<l.length),kS G t w ((news.drop (k * t.n)).take t.n) l[k])/\(∀u∈news,u.oneCell'=true) /\
   (0<l.length->∃b off,p=some ⟨b,off,none⟩/\G b/\∀j u,news[j]?=some u->w.cell? ⟨b,off+j,none⟩=some u):=by
 obtain⟨h1,h2,h3,h4,h5⟩:=h
 obtain⟨css,hcl,hcs⟩:=bMR (α:=List Value) (Q:=fun k cs=>∃b off,p=some ⟨b,off,none⟩/\G b/\cs.length=t.n/\(∀j (hj:j<cs.length),w.cell? ⟨b,off+k * t.n+j,none⟩=some cs[j])/\∃hk:k<l.length,kS G t w cs l[k]) l.length (fun k hk=>by
  obtain⟨b,off,a1,a2,cs,a3,a4,a5⟩:=h5 k hk
  exact⟨cs,b,off,a1,a2,a3,a4,hk,a5⟩)
 have hlen:∀c∈css,c.length=t.n:=fun c hc=>by
  obtain⟨k,hk,rfl⟩:=List.mem_iff_getElem.1 hc
  obtain⟨b,off,_,_,h,_⟩:=hcs k hk
  exact h
 refine⟨css.flatten,by rw[bE0 css hlen,hcl],fun k hk=>?_,fun u hu=>?_,fun hpos=>?_⟩
 ·rw[aVT css hlen k (by omega)]
  obtain⟨b,off,_,_,_,_,_,h⟩:=hcs k (by omega)
  exact h
 ·rw[List.mem_flatten] at hu
  obtain⟨c,hc,hu⟩:=hu
  obtain⟨k,hk,rfl⟩:=List.mem_iff_getElem.1 hc
  obtain⟨b,off,_,_,_,_,_,h⟩:=hcs k hk
  exact h.one u hu
 ·obtain⟨b,off,hp,hG,_⟩:=hcs 0 (by omega)
  refine⟨b,off,hp,hG,fun j u hj=>?_⟩
  have hn:=Ty.n_pos t
  have hjl:j<css.flatten.length:=(List.getElem?_eq_some_iff.1 hj).1
  rw[bE0 css hlen] at hjl
  have hk:j / t.n<css.length:=by rw[Nat.div_lt_iff_lt_mul hn];exact hjl
  obtain⟨b',off',hp',_,hcn,hcell,_⟩:=hcs (j / t.n) hk
  rw[hp] at hp'
  simp only[eW,Addr.mk.injEq,and_true] at hp'
  obtain⟨rfl,rfl⟩:=hp'
  have hm:j % t.n<t.n:=Nat.mod_lt _ hn
  have Fu:=Nat.div_add_mod j t.n
  have hg:=aVT css hlen (j / t.n) hk
  have h6:css.flatten[j]?=(css[j / t.n])[j % t.n]?:=by
   rw[<-hg,List.getElem?_take,if_pos hm,List.getElem?_drop]
   congr 1
   rw[Nat.mul_comm] at Fu
   omega
  rw[h6,List.getElem?_eq_getElem (by omega)] at hj
  simp only[eW] at hj
  subst hj
  have:=hcell (j % t.n) (by omega)
  rw[Nat.mul_comm] at Fu
  rw[show off+j / t.n * t.n+j % t.n=off+j by omega] at this
  exact this
end
section
variable {P:Program} {Cs:List Con} {X:Cx} {γ γ':Gh} {β β':Bt} {O:List Nat} {env:List SV} {w w':World} {es:Es}
theorem Gd.mono {fr fr':Bool} {b:Nat} (h:Gd X O w fr b) (hf:fr'=true->fr=true):Gd X O w fr' b:=⟨h.1,h.2.1,h.2.2.1,fun h'=>h.2.2.2 (hf h')⟩
theorem aXM (hg:lF γ):(ms:List AM)->(ss:List Sh)->(vs:List Value)->{ars:List (Ty×Ar)}->{f:Bool}->{ks:List (Nat×Ty)}->vZ (fun _=>none) ms ss=some (ars,f,ks)->ss.length=vs.length ->
  (∀(k:Nat) (s:Sh) (v:Value),ss[k]?=some s->vs[k]?=some v->bU X γ O env w s v)->ars.map (·.1)=ms.map (·.mv.t)/\ms.length=vs.length /\
   ∀(k:Nat) (m:AM) (p:Ty×Ar) (v:Value),ms[k]?=some m->ars[k]?=some p->vs[k]?=some v->m = .val m.mv/\(m.mv.fl.any (· != 0))=false/\p.2.bd env.length=true/\kS (Gd X O w f) p.1 w v.cells.toList ((p.2.val env).as p.1)/\v=mkV m.mv.ag v.cells.toList
 | [],[],[],ars,f,ks,h,_,_=>by
  simp only[vZ,eW,nB] at h
  obtain⟨rfl,rfl,rfl⟩:=h
  exact⟨rfl,rfl,fun k m p v hm=>by simp at hm⟩
 | .val m::ms,s::ss,v::vs,ars,f,ks,h,hl,hv=>by
  simp only[vZ] at h
  split at h
  ·cases h
  ·rename_i hfl
   split at h
   ·rename_i a f1 k1 ha
    simp only[Option.map_eq_some_iff] at h
    obtain⟨⟨ars2,f2,k2⟩,h2,h3⟩:=h
    simp only[nB] at h3
    obtain⟨rfl,rfl,rfl⟩:=h3
    obtain⟨g1,g2,g3⟩:=bPL hg ha (hv 0 s v rfl rfl)
    obtain⟨i1,i2,i3⟩:=aXM hg ms ss vs h2 (by simpa using hl) (fun k s v hs hvv=>hv (k+1) s v (by simpa using hs) (by simpa using hvv))
    refine⟨by simp[i1,AM.mv],by simp[i2],fun k m' p u hm hp hu=>?_⟩
    cases k with
    | zero =>
     simp only[List.getElem?_cons_zero,eW] at hm hp hu
     subst hm hp hu
     exact⟨rfl,by simpa [AM.mv] using hfl,g1,g2.mono (fun b hb=>hb.mono (fun h=>by simp at h;exact h.1)) (fun _ _=>rfl),g3⟩
    | succ k =>
     simp only[List.getElem?_cons_succ] at hm hp hu
     obtain⟨j1,j2,j3,j4,j5⟩:=i3 k m' p u hm hp hu
     exact⟨j1,j2,j3,j4.mono (fun b hb=>hb.mono (fun h=>by simp at h;exact h.2)) (fun _ _=>rfl),j5⟩
   ·cases h
 | .box _ _::_,s::ss,_,ars,f,ks,h,_,_=>by simp[vZ] at h
 | [],_::_,_,ars,f,ks,h,_,_=>by simp[vZ] at h
 | .val _::_,[],_,ars,f,ks,h,_,_=>by simp[vZ] at h
 | .box _ _::_,[],_,ars,f,ks,h,_,_=>by simp[vZ] at h
theorem bGL (hg:lF γ) {lk:Lk} {G:Nat->Prop} (hG:∀fr b,Gd X O w fr b->G b) (hlk:∀r e,lk r=some e->jS X γ β O env w r e/\∀b∈oC γ (r,e),G b) :
  (ms:List AM)->(ss:List Sh)->(vs:List Value)->{ars:List (Ty×Ar)}->{f:Bool}->{ks:List (Nat×Ty)}->vZ lk ms ss=some (ars,f,ks)->ss.length=vs.length ->
  (∀(k:Nat) (s:Sh) (v:Value),ss[k]?=some s->vs[k]?=some v->bU X γ O env w s v)->ars.map (·.1)=ms.map (·.mv.t)/\ms.length=vs.length /\
   ∀(k:Nat) (m:AM) (p:Ty×Ar) (v:Value),ms[k]?=some m->ars[k]?=some p->vs[k]?=some v->m = .val m.mv/\(m.mv.fl.any (· != 0))=false/\p.2.bd env.length=true/\kS G p.1 w v.cells.toList ((p.2.val env).as p.1)/\v=mkV m.mv.ag v.cells.toList
 | [],[],[],ars,f,ks,h,_,_=>by
  simp only[vZ,eW,nB] at h
  obtain⟨rfl,rfl,rfl⟩:=h
  exact⟨rfl,rfl,fun k m p v hm=>by simp at hm⟩
 | .val m::ms,s::ss,v::vs,ars,f,ks,h,hl,hv=>by
  simp only[vZ] at h
  split at h
  ·cases h
  ·rename_i hfl
   split at h
   ·rename_i a f1 k1 ha
    simp only[Option.map_eq_some_iff] at h
    obtain⟨⟨ars2,f2,k2⟩,h2,h3⟩:=h
    simp only[nB] at h3
    obtain⟨rfl,rfl,rfl⟩:=h3
    obtain⟨g1,g2,g3⟩:=cA8 hg hG hlk ha (hv 0 s v rfl rfl)
    obtain⟨i1,i2,i3⟩:=bGL hg hG hlk ms ss vs h2 (by simpa using hl) (fun k s v hs hvv=>hv (k+1) s v (by simpa using hs) (by simpa using hvv))
    refine⟨by simp[i1,AM.mv],by simp[i2],fun k m' p u hm hp hu=>?_⟩
    cases k with
    | zero =>
     simp only[List.getElem?_cons_zero,eW] at hm hp hu
     subst hm hp hu
     exact⟨rfl,by simpa [AM.mv] using hfl,g1,g2,g3⟩
    | succ k =>
     simp only[List.getElem?_cons_succ] at hm hp hu
     exact i3 k m' p u hm hp hu
   ·cases h
 | .box _ _::_,s::ss,_,ars,f,ks,h,_,_=>by simp[vZ] at h
 | [],_::_,_,ars,f,ks,h,_,_=>by simp[vZ] at h
 | .val _::_,[],_,ars,f,ks,h,_,_=>by simp[vZ] at h
 | .box _ _::_,[],_,ars,f,ks,h,_,_=>by simp[vZ] at h
variable {wr:Bool} {nx nr:Nat} {ls:List Let} {s:Sh} {new:Es} {ρ:Operand->Value} {sh:Operand->Sh} {o:Oper} {lk:Lk}
theorem aRX:(l:List (List Leaf))->(c:List (List Value))->l.length=c.length->(∀(k:Nat) (a:List Leaf) (b:List Value),l[k]?=some a->c[k]?=some b->bG X γ O env w a b)->bG X γ O env w l.flatten c.flatten
 | [],[],_,_=>rfl
 | a::l,b::c,hl,h=>qG (h 0 a b rfl rfl) (aRX l c (by simpa using hl) (fun k a b ha hb=>h (k+1) a b (by simpa using ha) (by simpa using hb)))
theorem aZT {α:Type}:(l:List (Option α))->{r:List α}->l.mapM id=some r->l.length=r.length/\∀(k:Nat) (x:Option α) (y:α),l[k]?=some x->r[k]?=some y->x=some y
 | [],r,h=>by
  simp at h;subst h
  exact⟨rfl,fun k x y hx=>by simp at hx⟩
 | x::l,r,h=>by
  simp only[List.mapM_cons,id,Option.bind_eq_bind,Option.bind_eq_some_iff,Option.pure_def,eW] at h
  obtain⟨y,rfl,r',h2,rfl⟩:=h
  obtain⟨i1,i2⟩:=aZT l h2
  refine⟨by simp[i1],fun k x' y' hx hy=>?_⟩
  cases k with
  | zero=>simp at hx hy;subst hx hy;rfl
  | succ k=>exact i2 k x' y' (by simpa using hx) (by simpa using hy)
theorem bIP (hm:MemOK X γ β env w es) (hf:FrameOK X w) (hg:lF γ) (hs:∀x,bU X γ (Os γ es) env w (sh x) (ρ x)) {T:TypeId} {len:Nat} {gA:Array (Nat×Operand)} (hop:o.op = .buildSlice T len gA)
  (h:sM P Cs o sh lk nx nr=some (ls,s,new)) (hl:iV Cs env nx ls) (Aa:∀r,nr<=r->r<nr+new.length->γ r=none):bKW P X γ β env w es new nr s ρ o:=by
 simp only[sM,hop] at h
 split at h
 ·rename_i e hT
  split at h
  ·rename_i i hi
   split at h
   ·rename_i hc
    obtain⟨hpi,hsmall⟩:=hc
    split at h
    ·rename_i ars f ks ha
     obtain⟨fi,Ae,hf2,hf3,zz,Ed,Eu⟩:=(uH hi).inf
     have Be:gA.toList.length=len:=by
      have:=congrArg List.length hpi
      simpa using this
     obtain⟨g1,g2,g3⟩:=aXM (X:=X) (γ:=γ) (O:=Os γ es) (env:=env) (w:=w) hg _ _ (gA.toList.map fun p=>ρ p.2) ha (by simp) (fun k s' v hs' hv'=>by
      simp only[List.getElem?_map,Option.map_eq_some_iff] at hs' hv'
      obtain⟨x,hx,rfl⟩:=hs'
      obtain⟨y,hy,rfl⟩:=hv'
      rw[hx] at hy
      simp only[eW] at hy
      subst hy
      exact hs _)
     have A1:ars.length=len:=by
      have:=congrArg List.length g1
      simp only[List.length_map] at this
      omega
     split at h
     ·
      rename_i h0
      subst h0
      simp only[eW,nB] at h
      obtain⟨rfl,rfl,rfl⟩:=h
      refine⟨.slice (some ⟨w.heap.size,0,none⟩) 0 0,w.alloc (.cells #[] e),γ,β,?_,?_⟩
      ·have hp0:gA = #[]:=by
        apply Array.ext'
        exact List.eq_nil_of_length_eq_zero Be
       subst hp0
       simp[execOp,hop,Instr.buildSlice,run_underlying hT,sizeOf,typeInfo,Ae,Instr.fill,newRow,Array.range_zero']
      ·have hw:=OneMore.alloc w (.cells #[] e)
       obtain⟨m1,m2⟩:=hm.grow (γ':=γ) (β':=β) (w':=w.alloc (.cells #[] e)) (new:=[]) hf.B_le hw.old (by rw[hw.size];omega) (fun _ _ h=>h) (fun _ _=>rfl) (by simp[Os,Us]) (by simp[Os,Us]) (fun _ p hp=>by simp at hp)
       exact⟨m1,m2,hf.grow hw.os hw.tape hw.output (by rw[hw.size];omega) hw.old,hg,fun r _=>⟨rfl,rfl⟩,fun p hp=>by simp at hp,⟨_,rfl⟩⟩
     ·rename_i hn0
      split at h
      ·rename_i lss hlss
       simp only[eW,nB] at h
       obtain⟨rfl,rfl,rfl⟩:=h
       obtain⟨l1,l2,l3,l4,_⟩:=gC hl
       have Jy:=Ty.n_pos i.t
       have hty:∀p∈ars,p.1=i.t:=fun p hp=>by
        obtain⟨k,hk,rfl⟩:=List.mem_iff_getElem.1 hp
        have:=congrArg (·[k]?) g1
        simp only[List.getElem?_map,List.getElem?_eq_getElem hk,Option.map_some] at this
        cases hpk:gA.toList[k]? with
        | none=>simp[hpk] at this
        | some q=>simp[hpk,AM.mv] at this;exact this
       have hcell:∀(k:Nat) (p:Nat×Operand),gA.toList[k]?=some p->∃q,ars[k]?=some q/\q.2.bd env.length=true/\kS (Gd X (Os γ es) w f) i.t w (ρ p.2).cells.toList ((q.2.val env).as i.t):=fun k p hp=>by
        have hk:k<ars.length:=by have:=(List.getElem?_eq_some_iff.1 hp).1;omega
        obtain⟨j1,j2,j3,j4,j5⟩:=g3 k (.val ⟨i.ag,i.t,[]⟩) ars[k] (ρ p.2) (by simp[hp]) (List.getElem?_eq_getElem hk) (by simp[hp])
        have:=hty ars[k] (List.getElem_mem hk)
        refine⟨ars[k],List.getElem?_eq_getElem hk,j3,?_⟩
        rw[this] at j4
        exact j4
       have hsz:∀p∈(gA.toList.map fun p=>(p.1,ρ p.2)),p.2.cells.size=i.t.n:=fun p hp=>by
        simp only[List.mem_map] at hp
        obtain⟨q,hq,rfl⟩:=hp
        obtain⟨k,hk,rfl⟩:=List.mem_iff_getElem.1 hq
        obtain⟨q',_,_,hr⟩:=hcell k _ (List.getElem?_eq_getElem hk)
        have:=hr.length
        simpa using this
       have hpos:0<len * i.t.n:=Nat.mul_pos (by omega) Jy
       obtain⟨cs',hc1,hc2⟩:=bYH (n:=i.t.n) (gA.toList.map fun p=>(p.1,ρ p.2)) 0 ((Array.range (len * i.t.n)).map (zz.cells[· % zz.cells.size]!)) (by
        simp only[List.map_map,List.length_map,Be]
        rw[<-List.range_eq_range']
        exact hpi) hsz (by simp[Be])
       simp only[Nat.zero_mul,List.take_zero,List.nil_append,List.length_map,Be,Nat.zero_add] at hc2
       rw[List.drop_of_length_le (by simp),List.append_nil] at hc2
       have hrun:=run_buildSlice (P:=P) w T e len (gA.map fun p=>(p.1,ρ p.2)) cs' fi zz hT Ae Ed (by rw[hf2];omega) (by rw[hf2];omega) (by rw[hf2];simpa using hc1)
       have hdata:((Ar.Z nx).val env).as (.slice e i.t)=ars.map fun p=>(p.2.val env).as i.t:=by
        rw[uC (t:=.slice e i.t) l4]
        simp only[Prim.fn,Prim.ity]
        rw[<-A1]
        exact bWI i.t ars hty
       have hcl:∀c∈(gA.toList.map fun p=>(ρ p.2).cells.toList),c.length=i.t.n:=fun c hc=>by
        simp only[List.mem_map] at hc
        obtain⟨q,hq,rfl⟩:=hc
        have:=hsz (q.1,ρ q.2) (by simp only[List.mem_map];exact⟨q,hq,rfl⟩)
        simpa using this
       have hc3:cs'.toList=(gA.toList.map fun p=>(ρ p.2).cells.toList).flatten:=by rw[hc2];simp[List.map_map,Function.comp_def]
       have Fw:cs'.size=len * i.t.n:=by rw[<-Array.length_toList,hc3,bE0 _ hcl];simp[Be]
       have hmx:len<=maxLen:=by
        have:len<=len * i.t.n:=Nat.le_mul_of_pos_right _ Jy
        unfold maxLen;omega
       obtain⟨γ',β',hgr⟩:=bF9 hm hf hg (Aa nr (Nat.le_refl _) (by simp)) (len:=len) (cap:=len) (en:=.arr e i.t (.Z nx) (f||i.t.flat) lss.flatten) (OneMore.alloc w (.cells cs' e)) (.inr ⟨_,_,_,_,rfl⟩) (fun γ' β' q1 q2 q3=>by
        have hel:∀k (hk:k<(ars.map fun p=>(p.2.val env).as i.t).length),kS (Gd X (Os γ es) w f) i.t w ((cs'.toList.drop (k * i.t.n)).take i.t.n) ((ars.map fun p=>(p.2.val env).as i.t)[k]):=fun k hk=>by
         simp only[List.length_map] at hk
         have Bg:k<gA.toList.length:=by omega
         obtain⟨q,hq1,hq2,D7⟩:=hcell k _ (List.getElem?_eq_getElem Bg)
         rw[hc3,aVT _ hcl k (by simpa using Bg)]
         simp only[List.getElem_map]
         rw[List.getElem?_eq_getElem hk] at hq1
         simp only[eW] at hq1
         rw[hq1]
         exact D7
        refine⟨aF7 l4,_,q1,?_,q2,?_⟩
        ·rw[hdata]
         refine .inr ⟨w.heap.size,len,cs',by simp[A1],by omega,Go.heap_alloc_new w _,by simp[A1],hmx,Fw,fun k hk=>?_⟩
         have h5:=q3.rdg (hel k hk)
         cases hfl:i.t.flat
         ·exact h5.mono (fun b hb=>hb.mono (fun h=>by simpa [hfl] using h)) (fun _ _=>rfl)
         ·exact h5.flat hfl
        ·refine⟨w.heap.size,len,len,cs',rfl,by omega,Go.heap_alloc_new w _,?_⟩
         rw[List.take_of_length_le (by simp[Fw]),hc3]
         obtain⟨m1,m2⟩:=aZT _ hlss
         refine bG.later q3 (aRX lss (gA.toList.map fun p=>(ρ p.2).cells.toList) (by simp at m1;simp;omega) (fun k a b ha hb=>?_))
         simp only[List.getElem?_map,Option.map_eq_some_iff] at hb
         obtain⟨x,hx,rfl⟩:=hb
         have:=m2 k (uP (sh x.2)) a (by simp[hx]) ha
         exact aQE hg this (hs x.2))
       refine⟨_,_,γ',β',?_,hgr⟩
       simp only[execOp,hop,Sem.run_bind]
       rw[hrun]
       simp
      ·cases h
    ·cases h
   ·cases h
  ·cases h
 ·cases h
end
def cL2 (w:World) (e:TypeId) (n:Nat) (v:Value) (len m:Nat) (all:List Value) (v':Value) (w':World):Prop :=
 (m=0/\v'=v/\w'=w) \/
 (∃b cap cur cur',v = .slice (some ⟨b,0,none⟩) len cap/\v' = .slice (some ⟨b,0,none⟩) (len+m) cap/\0<cap/\len+m<=cap/\cap<=maxLen/\w.heap[b]?=some (.cells cur e (0,0))/\w'=w.setRow b cur' /\
  cur'.size=cap * n/\cur'.toList.take ((len+m) * n)=all) \/
 (∃cap cur',v' = .slice (some ⟨w.heap.size,0,none⟩) (len+m) cap/\0<cap/\len+m<=cap/\cap<=maxLen/\OneMore w w' (.cells cur' e (0,0))/\cur'.size=cap * n/\cur'.toList.take ((len+m) * n)=all)
section
variable {P:Program} {Cs:List Con} {X:Cx} {γ γ':Gh} {β β':Bt} {O:List Nat} {env:List SV} {w w':World} {es:Es}
theorem aPJ (T tx ty e:TypeId) (i:TypeInfo) (z:Value) (ht:P.underlying T=some (.slice e)) (hi:P.info? e=some i) (hz:i.zero=some z) (hzs:z.cells.size=i.size) (hn:0<i.size)
  {v:Value} {len:Nat} {olds:List Value} (hv:(∃p,v = .slice p 0 0/\len=0/\olds=[]) \/
   ∃b cap cur,v = .slice (some ⟨b,0,none⟩) len cap/\0<cap/\w.heap[b]?=some (.cells cur e (0,0))/\len<=cap/\cap<=maxLen/\cur.size=cap * i.size/\olds=cur.toList.take (len * i.size))
  {x:Value} {m:Nat} {news:List Value} (hs:Src P i.size tx x m news w) (hb:(len+m) * i.bytes<=140737488355328) (hm:len+m<=maxLen) :
  ∃v' w',(Builtin.append_ #[T,tx] ty #[v,x]).run P w = .ok v' w'/\cL2 w e i.size v len m (olds++news) v' w':=by
 have hnl:=hs.newsLen
 by_cases h0:m=0
 ·subst h0
  have:news=[]:=List.eq_nil_of_length_eq_zero (by rw[hnl];omega)
  subst this
  rcases hv with⟨p,rfl,rfl,rfl⟩|⟨b,cap,cur,rfl,hc,hh,h1,h2,h3,rfl⟩
  ·refine⟨_,_,?_,.inl ⟨rfl,rfl,rfl⟩⟩
   rcases hs.kind with⟨e',hk⟩|hk<;>cases p<;>simp[Builtin.append_,run_underlying ht,run_underlying hk,sizeOf,typeInfo,hi,hs.len,hs.cells,storeCells]
  ·refine⟨_,_,?_,.inl ⟨rfl,rfl,rfl⟩⟩
   rcases hs.kind with⟨e',hk⟩|hk<;>simp[Builtin.append_,run_underlying ht,run_underlying hk,sizeOf,typeInfo,hi,hs.len,h1,hs.cells,storeCells]
 ·have grow:∀(base:Option Addr) (cap:Nat),v = .slice base len cap->cap<len+m->olds.length=len * i.size->(Builtin.firstCells i.size len (.slice base len cap)).run P w.drew = .ok olds.toArray w.drew ->
    ∃v' w',(Builtin.append_ #[T,tx] ty #[v,x]).run P w = .ok v' w'/\cL2 w e i.size v len m (olds++news) v' w':=by
   intro base cap hvv hg hol hold
   subst hvv
   have hr:=run_append_grow_src (P:=P) w T tx ty e i z ht hi hz base len cap olds hold x m news hs hg (by unfold maxLen at hm;omega) (growslice_fits hg hb)
   have hge:=grownCap_ge w (len+m) cap e
   refine⟨_,_,hr,.inr (.inr ⟨_,_,rfl,by omega,hge,grownCap_le_maxLen w _ cap e hm,OneMore.drew w _,?_,?_⟩)⟩
   ·simp only[Array.size_append,List.size_toArray,size_zeroCells,hzs,List.length_append,hol,hnl,<-Nat.add_mul]
    congr 1
    omega
   ·simp only[Array.toList_append]
    exact List.take_left' (by simp[hol,hnl,Nat.add_mul])
  rcases hv with⟨p,rfl,rfl,rfl⟩|⟨b,cap,cur,rfl,hc,hh,h1,h2,h3,rfl⟩
  ·refine grow p 0 rfl (by omega) (by simp) ?_
   cases p with
   | none=>exact run_firstCells_none w.drew i.size 0 0 0
   | some a=>exact run_firstCells_some w.drew i.size 0 a 0 0 [] (by simp) (fun j v hj=>by simp at hj)
  ·have hlen:len * i.size<=cap * i.size:=Nat.mul_le_mul_right _ h1
   have hol:(cur.toList.take (len * i.size)).length=len * i.size:=by simp;omega
   by_cases hroom:len+m<=cap
   ·have hfit:len * i.size+news.length<=cur.size:=by rw[hnl,h3,<-Nat.add_mul];exact Nat.mul_le_mul_right _ hroom
    have hst:=run_storeCells_at P b (len * i.size) e news 0 cur w hh (by simpa using hfit) hs.one
    simp only[Nat.add_zero] at hst
    refine⟨_,_,?_,.inr (.inl ⟨b,cap,cur,(cur.toList.take (len * i.size)++news++cur.toList.drop (len * i.size+news.length)).toArray,rfl,rfl,hc,hroom,h2,hh,rfl,?_,?_⟩)⟩
    ·rcases hs.kind with⟨e',hk⟩|hk<;>simp[Builtin.append_,run_underlying ht,run_underlying hk,sizeOf,typeInfo,hi,hs.len,hroom,hs.cells,Addr.add_lit,hst]
    ·simp only[List.size_toArray,List.length_append,List.length_take,List.length_drop,Array.length_toList]
     omega
    ·exact List.take_left' (by simp only[List.length_append,hol,hnl,Nat.add_mul])
   ·refine grow _ cap rfl (by omega) hol (run_firstCells_some w.drew i.size len _ len cap _ hol (fun j v hj=>?_))
    rw[List.getElem?_take] at hj
    split at hj
    ·have hadd:((⟨b,0,none⟩:Addr).add j)=⟨b,j,none⟩:=by
      simp only[Addr.add];split<;>simp_all
     rw[hadd]
     have hh':w.drew.heap[b]?=some (.cells cur e (0,0)):=hh
     simp only[World.cell?,hh',Option.isSome_none,Bool.false_eq_true,if_false]
     simpa using hj
    ·cases hj
end
section
variable {P:Program} {Cs:List Con} {X:Cx} {γ γ':Gh} {β β':Bt} {O:List Nat} {env:List SV} {w w':World} {es:Es}
theorem SlG.src {G : Nat -> Prop} {t : Ty} {T e : TypeId} (hT : P.underlying T = some (.slice e)) {p : Option Addr} {len cap : Nat} {l : List t.D} (h : SlG G t.n (kS G t w) w p len cap l) :
    ∃news : List Value, Src P t.n T (.slice p len cap) l.length news w /\ news.length = l.length * t.n /\ ∀k (hk : k < l.length), kS G t w ((news.drop (k * t.n)).take t.n) l[k] := by
  have h1 := h.1
  have h4 := h.2.2.2.1
  have h2 := h.2.1
  obtain⟨news, n1, n2, n3, n4⟩ := h.news
  subst h1
  cases p with
  | none =>
    have : l.length = 0 := by have := h4 rfl; omega
    have hc : cap = 0 := h4 rfl
    subst hc
    have hnil : news = [] := List.eq_nil_of_length_eq_zero (by rw [n1, this]; omega)
    subst hnil
    refine⟨[], ?_, n1, n2⟩
    rw [this]
    exact Src.ofNil w hT 0
  | some a =>
    refine⟨news, Src.ofSlice w hT a l.length cap news n1 (fun j u hj => ?_) n3, n1, n2⟩
    by_cases hl : 0 < l.length
    · obtain⟨b, off, hp, _, hc⟩ := n4 hl
      simp only [eW] at hp
      subst hp
      have hadd : ((⟨b, off, none⟩ : Addr).add j) = ⟨b, off + j, none⟩ := by simp only [Addr.add]; split<;>simp_all
      rw [hadd]
      exact hc j u hj
    · have hnil : news = [] := List.eq_nil_of_length_eq_zero (by rw [n1]; have : l.length = 0 := by omega
                                                                 rw [this]; omega)
      subst hnil
      simp at hj
theorem aXG {G:Nat->Prop} {t:Ty} {cur olds news:List Value} {l1 l2:List t.D} (h:cur.take ((l1.length+l2.length) * t.n)=olds++news) (ho:olds.length=l1.length * t.n) (hn:news.length=l2.length * t.n)
  (h1:∀k (hk:k<l1.length),kS G t w ((olds.drop (k * t.n)).take t.n) l1[k]) (h2:∀k (hk:k<l2.length),kS G t w ((news.drop (k * t.n)).take t.n) l2[k]) :
  ∀k (hk:k<(l1++l2).length),kS G t w ((cur.drop (k * t.n)).take t.n) ((l1++l2)[k]):=by
 intro k hk
 simp only[List.length_append] at hk
 have hle:(k+1) * t.n<=(l1.length+l2.length) * t.n:=Nat.mul_le_mul_right _ (by omega)
 have e1:(cur.drop (k * t.n)).take t.n=((olds++news).drop (k * t.n)).take t.n:=by
  rw[<-h,List.drop_take,List.take_take,Nat.min_eq_left]
  rw[Nat.add_mul] at hle
  omega
 rw[e1]
 by_cases hk1:k<l1.length
 ·rw[List.getElem_append_left hk1]
  have H5:(k+1) * t.n<=l1.length * t.n:=Nat.mul_le_mul_right _ (by omega)
  rw[Nat.add_mul] at H5
  rw[List.drop_append_of_le_length (by omega),List.take_append_of_le_length (by simp;omega)]
  exact h1 k hk1
 ·rw[List.getElem_append_right (by omega)]
  have:=h2 (k - l1.length) (by omega)
  have hge:l1.length * t.n<=k * t.n:=Nat.mul_le_mul_right _ (by omega)
  rw[List.drop_append,List.drop_of_length_le (by omega),List.nil_append,ho,<-Nat.sub_mul]
  exact this
theorem bYT (hm:MemOK X γ β env w es) (hf:FrameOK X w) (hg:lF γ) {nr:Nat} (Aa:γ nr=none) {e:TypeId} {t:Ty} {a:Ar} {fr uq:Bool} {p:Option Addr} (ha:a.bd env.length=true) (hd:(a.val env).as (.slice e t)=[]) :
  ∃γ' β',Grew X γ β env w es [(nr,.sl e t a fr uq)] nr (.one (.own nr)) (.slice p 0 0) γ' β' w:=by
 have hold:∀q∈es,q.1≠nr:=fun q hp h=>by
  obtain⟨v,hv⟩:=(hm.ent q hp).gh
  rw[h,Aa] at hv;cases hv
 have Av:Os (γ.upd nr (.slice p 0 0)) [(nr,Ent.sl e t a fr uq)]=[]:=by
  cases p<;>simp[Os,oC,lY]
 have A2:Us (β.upd nr []) [(nr,Ent.sl e t a fr uq)]=[]:=by simp[Us,Bt.upd]
 obtain⟨m1,m2⟩:=hm.grow (γ':=γ.upd nr (.slice p 0 0)) (β':=β.upd nr []) (w':=w) (new:=[(nr,Ent.sl e t a fr uq)]) hf.B_le (fun _ _=>rfl) (Nat.le_refl _) (Gh.upd_mono Aa) (fun q hq=>by simp[Bt.upd,hold q hq])
  (by rw[Av,A2];simp) (by rw[Av,A2];simp) (fun hlat q hq=>by
   simp only[List.mem_singleton] at hq
   subst hq
   refine⟨ha,_,Gh.upd_same _ _ _,.inl ⟨p,rfl,hd⟩,fun _=>.inl ⟨p,rfl,?_⟩,fun _=>?_⟩<;>simp[Bt.upd])
 refine⟨_,_,m1,m2,hf.grow rfl rfl rfl (Nat.le_refl _) (fun _ _=>rfl),hg.upd rfl,fun r hr=>?_,fun q hq=>?_,?_⟩
 ·simp only[List.length_cons,List.length_nil] at hr
  exact⟨Gh.upd_other (by omega),by simp[Bt.upd];omega⟩
 ·simp only[List.mem_singleton] at hq
  subst hq
  simp
 ·show γ.upd nr (.slice p 0 0) nr=_
  simp
theorem cIJ {e:TypeId} {t:Ty} {s:Sh} (h:cJZ e t s=true) {v:Value} (hv:bU X γ O env w s v):∃p,v = .slice p 0 0:=by
 unfold cJZ at h
 split at h
 ·exact⟨none,hv⟩
 ·exact hv
 ·cases h
variable {wr:Bool} {nx nr:Nat} {ls:List Let} {s:Sh} {new:Es} {ρ:Operand->Value} {sh:Operand->Sh} {o:Oper} {lk:Lk}
theorem bV9 (hm:MemOK X γ β env w es) (hf:FrameOK X w) (hg:lF γ) (hs:∀x,bU X γ (Os γ es) env w (sh x) (ρ x)) {args:Array Operand} {tys:Array TypeId} (hop:o.op = .call { callee:=.builtin .append,args:=args,argTypes:=tys })
  (hlk:∀r e,lk r=some e->jS X γ β (Os γ es) env w r e/\∀b∈oC γ (r,e),b<w.heap.size)
  (h:sM P Cs o sh lk nx nr=some (ls,s,new)) (hl:iV Cs env nx ls) (Aa:∀r,nr<=r->r<nr+new.length->γ r=none):bKW P X γ β env w es new nr s ρ o:=by
 simp only[sM,hop] at h
 split at h
 ·rename_i x y T T2 ha ht
  have hx:=hs x
  have hy:=hs y
  have ha':args = #[x,y]:=by cases args;simp_all
  have ht':tys = #[T,T2]:=by cases tys;simp_all
  subst ha' ht'
  split at h
  ·rename_i e hT
   split at h
   ·rename_i i hi
    split at h
    ·rename_i l hn hsy
     simp only[Bool.and_eq_true,beq_iff_eq] at hn
     obtain⟨hn,rfl⟩:=hn
     rw[hsy] at hy
     split at h
     ·rename_i b f ks him
      simp only[eW,nB] at h
      obtain⟨rfl,rfl,rfl⟩:=h
      obtain⟨p,hxv⟩:=cIJ hn hx
      obtain⟨l1,l2,l3,l4,_⟩:=gC hl
      obtain⟨ll,hll⟩:∃ll:List i.t.D,SV.as (.slice e i.t) (Ar.val env b)=ll:=⟨_,rfl⟩
      have hnil:SV.as (.slice e i.t) (Ar.val env (.nl e i.t))=([]:List i.t.D):=by simp only[Ar.val,SV.as_self]
      simp only[Prim.cond,Prim.ity,cZ] at l2
      rw[hll,hnil] at l2
      obtain⟨c1,c2⟩:=l2
      simp only[List.length_nil,Nat.zero_add] at c1 c2
      have Fv:((Ar.Z nx).val env).as (.slice e i.t)=ll:=by
       rw[uC (t:=.slice e i.t) l4]
       simp only[Prim.fn,Prim.ity,cZ]
       rw[hll,hnil]
       rfl
      obtain⟨pp,len,cap,hyv,hsrc,D6⟩:∃p len cap,ρ y = .slice p len cap/\(∃news:List Value,Src P i.t.n T2 (.slice p len cap) ll.length news w/\news.length=ll.length * i.t.n/\∀k (hk:k<ll.length),kS (Gd X (Os γ es) w (f||i.t.flat)) i.t w ((news.drop (k * i.t.n)).take i.t.n) ll[k])/\True:=by
       cases hfl:i.t.flat
       ·rw[hfl] at him
        simp only[Bool.false_eq_true,if_false] at him
        obtain⟨d1,d2,hcs,g1,g2,g3⟩:=aGF (X:=X) (γ:=γ) (O:=Os γ es) (env:=env) (w:=w) (.slice e i.t) (ls:=[l]) (cs:=[ρ y]) ⟨ρ y,[],rfl,hy,rfl⟩ him
        have hd2:d2=[]:=g3
        subst hd2
        have hd1:d1=[ρ y]:=by simpa using hcs.symm
        subst hd1
        obtain⟨p,len,cap,hv,hsl⟩:=g2
        simp only[List.cons.injEq,and_true] at hv
        rw[hll] at hsl
        obtain⟨news,s1,s2,s3⟩:=hsl.src hT
        exact⟨p,len,cap,hv,⟨news,s1,s2,fun k hk=>by rw[Bool.or_false];exact s3 k hk⟩,trivial⟩
       ·rw[hfl] at him
        simp only[if_true] at him
        obtain⟨d1,d2,hcs,g1,g2,g3⟩:=aIF (X:=X) (γ:=γ) (β:=β) (O:=Os γ es) (env:=env) (w:=w) (G:=fun b=>b<w.heap.size) (fun fr b hb=>hb.1) hlk (.slice e i.t) (ls:=[l]) (cs:=[ρ y]) ⟨ρ y,[],rfl,hy,rfl⟩ him
        have hd2:d2=[]:=g3
        subst hd2
        have hd1:d1=[ρ y]:=by simpa using hcs.symm
        subst hd1
        obtain⟨p,len,cap,hv,hsl⟩:=g2
        simp only[List.cons.injEq,and_true] at hv
        rw[hll] at hsl
        obtain⟨news,s1,s2,s3⟩:=hsl.src hT
        exact⟨p,len,cap,hv,⟨news,s1,s2,fun k hk=>(s3 k hk).flat hfl⟩,trivial⟩
      obtain⟨news,s1,s2,s3⟩:=hsrc
      obtain⟨fi,Ae,hf2,hf3,zz,Ed,Eu⟩:=(uH hi).inf
      have hzs:zz.cells.size=fi.size:=by
       rw[<-Array.length_toList,Eu,hf2];exact sQ i.t
      obtain⟨v',w',hr,hA⟩:=aPJ (P:=P) (w:=w) T2 T2 o.type e fi zz hT Ae Ed hzs (by rw[hf2];exact Ty.n_pos _) (v:=.slice p 0 0) (len:=0) (olds:=[]) (.inl ⟨p,rfl,rfl,rfl⟩) (by rw[hf2];exact s1) (by rw[hf3];simpa using c1) (by simpa using c2)
      have Dt:(execOp ρ o).run P w = .ok (.value v') w':=by
       simp[execOp,hop,resolve,invoke,builtin,hxv,hyv,hr]
      rw[hf2] at hA
      simp only[cL2,Nat.zero_add,List.nil_append] at hA
      rcases hA with⟨h0,rfl,rfl⟩|⟨b',cap',cur,cur',q1,q2,q3,_⟩|⟨cap',cur',rfl,q2,q3,q4,q5,q6,q7⟩
      ·have hl0:ll=[]:=List.eq_nil_of_length_eq_zero h0
       obtain⟨γ',β',hgr⟩:=bYT hm hf hg (Aa nr (Nat.le_refl _) (by simp)) (e:=e) (t:=i.t) (a:=.Z nx) (fr:=f||i.t.flat) (uq:=i.t.flat) (p:=p) (aF7 l4) (by rw[Fv,hl0])
       exact⟨_,_,γ',β',Dt,hgr⟩
      ·simp only[Value.slice.injEq] at q1
       omega
      ·obtain⟨γ',β',hgr⟩:=bF9 hm hf hg (Aa nr (Nat.le_refl _) (by simp)) (len:=ll.length) (cap:=cap') (en:=.sl e i.t (.Z nx) (f||i.t.flat) i.t.flat) q5 (.inl ⟨_,_,_,_,rfl⟩) (fun γ' β' h1 h2 h3=>by
        have hcells:=aXG (w:=w) (G:=Gd X (Os γ es) w (f||i.t.flat)) (t:=i.t) (cur:=cur'.toList) (olds:=[]) (news:=news) (l1:=[]) (l2:=ll) (by simpa using q7) (by simp) s2 (fun k hk=>by simp at hk) s3
        simp only[List.nil_append] at hcells
        refine bYD (l:=ll) h1 h2 rfl (aF7 l4) Fv q5.new q3 q4 q6 (fun k hk=>h3.rdg (hcells k hk)) (fun hu=>?_)
        rw[q7]
        exact aFV hu s2 (fun k hk=>h3.rdg (s3 k hk)))
       exact⟨_,_,γ',β',Dt,hgr⟩
     ·cases h
    ·cases h
   ·cases h
  ·cases h
 ·cases h
end
def aCS:Ty->List Nat->List Nat
 | .cMV x y,fl=>aCS y (aCS x fl)
 | _,fl=>fl.tail
def mvR (G:Nat->Prop) (w:World):(t:Ty)->List Nat->List Value->t.D->List Nat->List Nat->Prop
 | .cMV x y,fl,cs,d,ob,ub=>∃c1 c2 o1 o2 u1 u2,cs=c1++c2/\ob=o1++o2/\ub=u1++u2/\mvR G w x fl c1 d.1 o1 u1/\mvR G w y (aCS x fl) c2 d.2 o2 u2
 | .slice e t,2::_,cs,l,ob,ub=>∃v,cs=[v]/\v.cells = #[v]/\wU G w e t v l/\aWI w e t v l ub/\ob=lY v
 | .slice e t,3::_,cs,l,ob,ub=>∃v,cs=[v]/\v.cells = #[v]/\wU G w e t v l/\ub=[]/\ob=lY v
 | .slice e t,1::_,cs,l,ob,ub=>ob=[]/\Un (.slice e t) w cs l ub/\kS G (.slice e t) w cs l
 | t,_,cs,d,ob,ub=>ob=[]/\ub=[]/\kS G t w cs d
section
variable {P:Program} {Cs:List Con} {X:Cx} {γ γ':Gh} {β β':Bt} {O:List Nat} {env:List SV} {w w':World} {es:Es} {G:Nat->Prop}
theorem bNZ {t:Ty}:{fl:List Nat}->{cs:List Value}->{d:t.D}->(fl.any (· != 0))=false->kS G t w cs d->mvR G w t fl cs d [] []:=by
 induction t with
 | cMV x y ihx ihy =>
  intro fl cs d hf h
  have hr:∀(t:Ty) (fl:List Nat),(fl.any (· != 0))=false->((aCS t fl).any (· != 0))=false:=by
   intro t
   induction t with
   | cMV x y ihx ihy=>intro fl h;exact ihy _ (ihx _ h)
   | _=>intro fl h;cases fl with
    | nil=>rfl
    | cons f fl=>simp only[List.any_cons,Bool.or_eq_false_iff] at h;exact h.2
  obtain⟨c1,c2,rfl,h1,h2⟩:=h
  exact⟨c1,c2,[],[],[],[],rfl,rfl,rfl,ihx hf h1,ihy (hr x fl hf) h2⟩
 | slice e t ih =>
  intro fl cs d hf h
  cases fl with
  | nil=>exact⟨rfl,rfl,h⟩
  | cons f fl =>
   simp only[List.any_cons,Bool.or_eq_false_iff] at hf
   have:f=0:=by simpa using hf.1
   subst this
   exact⟨rfl,rfl,h⟩
 | int k=>intro fl cs d hf h;cases fl<;>exact⟨rfl,rfl,h⟩
 | bool=>intro fl cs d hf h;cases fl<;>exact⟨rfl,rfl,h⟩
 | str=>intro fl cs d hf h;cases fl<;>exact⟨rfl,rfl,h⟩
theorem aH6 (x y:Ty) (a:Ar) (fr:Bool) (fl:List Nat) (nr:Nat):aQ (.cMV x y) a fr fl nr =
 ((aQ x (.p1 x y a) fr fl nr).1++(aQ y (.p2 x y a) fr (aQ x (.p1 x y a) fr fl nr).2.2.1 (aQ x (.p1 x y a) fr fl nr).2.2.2).1,
  (aQ x (.p1 x y a) fr fl nr).2.1++(aQ y (.p2 x y a) fr (aQ x (.p1 x y a) fr fl nr).2.2.1 (aQ x (.p1 x y a) fr fl nr).2.2.2).2.1,
  (aQ y (.p2 x y a) fr (aQ x (.p1 x y a) fr fl nr).2.2.1 (aQ x (.p1 x y a) fr fl nr).2.2.2).2.2.1,
  (aQ y (.p2 x y a) fr (aQ x (.p1 x y a) fr fl nr).2.2.1 (aQ x (.p1 x y a) fr fl nr).2.2.2).2.2.2):=rfl
theorem jI:(t:Ty)->(a:Ar)->(fr:Bool)->(fl:List Nat)->(nr:Nat) ->
  (aQ t a fr fl nr).2.2.1=aCS t fl/\(aQ t a fr fl nr).2.2.2=nr+(aQ t a fr fl nr).2.1.length/\∀p∈(aQ t a fr fl nr).2.1,nr<=p.1/\p.1<nr+(aQ t a fr fl nr).2.1.length:=by
 intro t
 induction t with
 | cMV x y ihx ihy =>
  intro a fr fl nr
  obtain⟨i1,i2,i3⟩:=ihx (.p1 x y a) fr fl nr
  obtain⟨j1,j2,j3⟩:=ihy (.p2 x y a) fr (aCS x fl) (nr+(aQ x (.p1 x y a) fr fl nr).2.1.length)
  simp only[aH6,aCS,i1,i2]
  refine⟨j1,by rw[j2,List.length_append];omega,fun p hp=>?_⟩
  rw[List.mem_append] at hp
  rw[List.length_append]
  rcases hp with hp|hp
  ·have:=i3 p hp;omega
  ·have:=j3 p hp;omega
 | slice e t ih =>
  intro a fr fl nr
  rcases fl with _|⟨_|_|_|_|f,fl⟩<;>simp[aQ,aCS]
 | _=>intro a fr fl nr;simp[aQ,aCS]
theorem bDH {fr:Bool} (hG:∀b,G b->Gd X O w fr b):(t:Ty)->{a:Ar}->{fl:List Nat}->{nr:Nat}->{γ:Gh}->{β:Bt}->{cs:List Value}->{d:t.D}->{ob ub:List Nat}->lF γ ->
  (∀r,nr<=r->r<nr+(aQ t a fr fl nr).2.1.length->γ r=none)->mvR G w t fl cs d ob ub->a.bd env.length=true->(a.val env).as t=d ->
  ∃γ' β',lF γ'/\(∀r v,γ r=some v->γ' r=some v)/\(∀r,(r<nr\/nr+(aQ t a fr fl nr).2.1.length<=r)->γ' r=γ r/\β' r=β r) /\
   bG X γ' O env w (aQ t a fr fl nr).1 cs/\Os γ' (aQ t a fr fl nr).2.1=ob/\Us β' (aQ t a fr fl nr).2.1=ub/\∀p∈(aQ t a fr fl nr).2.1,jS X γ' β' O env w p.1 p.2:=by
 intro t
 have base:∀(t:Ty),(∀x y,t ≠ .cMV x y)->∀{a:Ar} {γ:Gh} {β:Bt} {cs:List Value} {d:t.D} {ob ub:List Nat} {nr:Nat},lF γ->ob=[]/\ub=[]/\kS G t w cs d->a.bd env.length=true->(a.val env).as t=d ->
   ∃γ' β',lF γ'/\(∀r v,γ r=some v->γ' r=some v)/\(∀r,(r<nr\/nr+0<=r)->γ' r=γ r/\β' r=β r)/\bG X γ' O env w [.d a t fr 0] cs/\Os γ' []=ob/\Us β' []=ub/\∀p∈([]:Es),jS X γ' β' O env w p.1 p.2:=by
  intro t ht a γ β cs d ob ub nr hg h ha hd
  obtain⟨rfl,rfl,h⟩:=h
  have hl:=h.length
  have h1:t.n=1:=by cases t<;>first|rfl|exact absurd rfl (ht _ _)
  rw[h1] at hl
  obtain⟨v,rfl⟩:=List.length_eq_one_iff.1 hl
  exact⟨γ,β,hg,fun _ _ h=>h,fun _ _=>⟨rfl,rfl⟩,⟨v,[],rfl,⟨ha,by rw[hd];exact h.mono (hG) (fun _ _=>rfl),fun h=>absurd rfl h⟩,rfl⟩,rfl,rfl,fun p hp=>by simp at hp⟩
 induction t with
 | cMV x y ihx ihy =>
  intro a fl nr γ β cs d ob ub hg hf h ha hd
  obtain⟨c1,c2,o1,o2,u1,u2,rfl,rfl,rfl,h1,h2⟩:=h
  obtain⟨n1,n2,n3⟩:=jI x (.p1 x y a) fr fl nr
  obtain⟨m1,m2,m3⟩:=jI y (.p2 x y a) fr (aCS x fl) (nr+(aQ x (.p1 x y a) fr fl nr).2.1.length)
  simp only[aH6,n1,n2,List.length_append] at hf⊢
  obtain⟨γ1,β1,i1,i2,i3,i4,i5,i6,i7⟩:=ihx (a:=.p1 x y a) (nr:=nr) (β:=β) hg (fun r h1 h2=>hf r h1 (by omega)) h1 (by simpa [Ar.bd] using ha) (by simp only[Ar.val,SV.as_self];exact congrArg Prod.fst hd)
  obtain⟨γ2,β2,j1,j2,j3,j4,j5,j6,j7⟩:=ihy (a:=.p2 x y a) (nr:=nr+(aQ x (.p1 x y a) fr fl nr).2.1.length) (γ:=γ1) (β:=β1) i1 (fun r h1 h2=>by rw[(i3 r (by omega)).1];exact hf r (by omega) (by omega)) h2 (by simpa [Ar.bd] using ha) (by
   simp only[Ar.val]
   exact(SV.as_self _ _).trans (congrArg Prod.snd hd))
  have hlat:Later X γ1 O env w γ2 O env w:=⟨j2,⟨[],by simp⟩,Nat.le_refl _,fun b _ h _=>⟨rfl,h⟩⟩
  have hβ:∀p∈(aQ x (.p1 x y a) fr fl nr).2.1,β2 p.1=β1 p.1:=fun p hp=>by
   have:=n3 p hp
   exact(j3 p.1 (by omega)).2
  refine⟨γ2,β2,j1,fun r v h=>j2 r v (i2 r v h),fun r hr=>?_,qG (bG.later hlat i4) j4,?_,?_,fun p hp=>?_⟩
  ·obtain⟨a1,a2⟩:=i3 r (by omega)
   obtain⟨b1,b2⟩:=j3 r (by omega)
   exact⟨b1.trans a1,b2.trans a2⟩
  ·rw[fJ,j5,aJP j2 (fun p hp=>(i7 p hp).gh),i5]
  ·rw[iJ,j6,aLG hβ,i6]
  ·rw[List.mem_append] at hp
   rcases hp with hp|hp
   ·exact jS.later hlat (hβ p hp) (fun _ _=>rfl) (fun _ _=>rfl) (i7 p hp)
   ·exact j7 p hp
 | slice e t ih =>
  intro a fl nr γ β cs d ob ub hg hf h ha hd
  rcases fl with _|⟨_|_|_|_|f,fl⟩
  ·exact base (.slice e t) (fun _ _ h=>by cases h) hg h ha hd
  ·exact base (.slice e t) (fun _ _ h=>by cases h) hg h ha hd
  ·obtain⟨rfl,hu,hr⟩:=h
   obtain⟨v,rfl⟩:=List.length_eq_one_iff.1 (by have:=hr.length;simpa [Ty.n] using this)
   simp only[aQ,List.length_cons,List.length_nil] at hf⊢
   have Bl:γ nr=none:=hf nr (Nat.le_refl _) (by omega)
   have C2:v.cells = #[v]:=by
    obtain⟨p,len,cap,hv,_⟩:=hr
    simp only[List.cons.injEq,and_true] at hv
    rw[hv];rfl
   refine⟨γ.upd nr v,β.upd nr ub,hg.upd C2,Gh.upd_mono Bl,fun r hr=>⟨Gh.upd_other (by omega),by simp[Bt.upd];omega⟩,⟨v,[],rfl,⟨ha,by rw[hd];exact hr.mono (hG) (fun _ _=>rfl),fun _=>by simp⟩,rfl⟩,rfl,by simp[Us,Bt.upd],fun p hp=>?_⟩
   simp only[List.mem_singleton] at hp
   subst hp
   exact⟨ha,v,by simp,by rw[hd];simpa [Bt.upd] using hu⟩
  ·obtain⟨v,rfl,C2,hr,hu,rfl⟩:=h
   simp only[aQ,List.length_cons,List.length_nil] at hf⊢
   have Bl:γ nr=none:=hf nr (Nat.le_refl _) (by omega)
   refine⟨γ.upd nr v,β.upd nr ub,hg.upd C2,Gh.upd_mono Bl,fun r hr=>⟨Gh.upd_other (by omega),by simp[Bt.upd];omega⟩,⟨v,[],rfl,by show γ.upd nr v nr=_;simp,rfl⟩,by simp[Os,oC],by simp[Us,Bt.upd],fun p hp=>?_⟩
   simp only[List.mem_singleton] at hp
   subst hp
   refine⟨ha,v,by simp,?_,fun _=>?_,fun h=>by cases h⟩
   ·rw[hd];exact hr.mono (hG) (fun _ _=>rfl) (fun _ _ _ _ _=>rfl)
   ·rw[hd];simpa [Bt.upd] using hu
  ·obtain⟨v,rfl,C2,hr,rfl,rfl⟩:=h
   simp only[aQ,List.length_cons,List.length_nil] at hf⊢
   have Bl:γ nr=none:=hf nr (Nat.le_refl _) (by omega)
   refine⟨γ.upd nr v,β.upd nr [],hg.upd C2,Gh.upd_mono Bl,fun r hr=>⟨Gh.upd_other (by omega),by simp[Bt.upd];omega⟩,⟨v,[],rfl,by show γ.upd nr v nr=_;simp,rfl⟩,by simp[Os,oC],by simp[Us,Bt.upd],fun p hp=>?_⟩
   simp only[List.mem_singleton] at hp
   subst hp
   refine⟨ha,v,by simp,?_,fun h=>(by cases h),fun _=>by simp[Bt.upd]⟩
   rw[hd];exact hr.mono (hG) (fun _ _=>rfl) (fun _ _ _ _ _=>rfl)
  ·exact base (.slice e t) (fun _ _ h=>by cases h) hg h ha hd
 | int k=>intro a fl nr γ β cs d ob ub hg hf h ha hd;cases fl<;>exact base _ (fun _ _ h=>by cases h) hg h ha hd
 | bool=>intro a fl nr γ β cs d ob ub hg hf h ha hd;cases fl<;>exact base _ (fun _ _ h=>by cases h) hg h ha hd
 | str=>intro a fl nr γ β cs d ob ub hg hf h ha hd;cases fl<;>exact base _ (fun _ _ h=>by cases h) hg h ha hd
theorem bXP (hg:lF γ):(t:Ty)->{a:Ar}->{fr:Bool}->{fl:List Nat}->{nr:Nat}->{cs:List Value}->{ls:List Leaf}->0<nr->bG X γ O env w ((aQ t a fr fl nr).1++ls) cs->(∀p∈(aQ t a fr fl nr).2.1,jS X γ β O env w p.1 p.2) ->
  ∃c1 c2,cs=c1++c2/\mvR (Gd X O w fr) w t fl c1 ((a.val env).as t) (Os γ (aQ t a fr fl nr).2.1) (Us β (aQ t a fr fl nr).2.1)/\bG X γ O env w ls c2:=by
 intro t
 have base:∀(t:Ty) {a:Ar} {fr:Bool} {nr:Nat} {cs:List Value} {ls:List Leaf},bG X γ O env w (.d a t fr 0::ls) cs ->
   ∃c1 c2,cs=c1++c2/\(Os γ []=[]/\Us β []=[]/\kS (Gd X O w fr) t w c1 ((a.val env).as t))/\bG X γ O env w ls c2:=by
  intro t a fr nr cs ls h
  obtain⟨v,cs',rfl,h1,h2⟩:=h
  exact⟨[v],cs',rfl,⟨rfl,rfl,h1.2.1⟩,h2⟩
 induction t with
 | cMV x y ihx ihy =>
  intro a fr fl nr cs ls h0 h he
  obtain⟨n1,n2,n3⟩:=jI x (.p1 x y a) fr fl nr
  simp only[aH6,n1,n2,List.append_assoc] at h he⊢
  obtain⟨c1,c2,rfl,i1,i2⟩:=ihx h0 h (fun p hp=>he p (by rw[List.mem_append];exact .inl hp))
  obtain⟨c3,c4,rfl,j1,j2⟩:=ihy (by omega) i2 (fun p hp=>he p (by rw[List.mem_append];exact .inr hp))
  refine⟨c1++c3,c4,by simp,⟨c1,c3,_,_,_,_,rfl,fJ _ _,iJ _ _,?_,?_⟩,j2⟩
  ·have:((Ar.p1 x y a).val env).as x=((a.val env).as (.cMV x y)).1:=by simp only[Ar.val,SV.as_self]
   rw[<-this];exact i1
  ·have:((Ar.p2 x y a).val env).as y=((a.val env).as (.cMV x y)).2:=by simp only[Ar.val];exact SV.as_self _ _
   rw[<-this];exact j1
 | slice e t ih =>
  intro a fr fl nr cs ls h0 h he
  rcases fl with _|⟨_|_|_|_|f,fl⟩
  ·exact base (.slice e t) (nr:=nr) h
  ·exact base (.slice e t) (nr:=nr) h
  ·obtain⟨v,cs',rfl,h1,h2⟩:=h
   obtain⟨e1,v',e2,e3⟩:=he (nr,.uq (.slice e t) a fr) (by simp[aQ])
   refine⟨[v],cs',rfl,⟨by simp[aQ,Os,oC],?_,h1.2.1⟩,h2⟩
   have Br:Us β [(nr,Ent.uq (.slice e t) a fr)]=β nr:=by simp[Us]
   show Un _ _ _ _ (Us β [(nr,Ent.uq (.slice e t) a fr)])
   rw[Br]
   have:=h1.2.2 (by omega)
   simp only at e2
   rw[e2] at this
   simp only[eW] at this
   subst this
   exact e3
  ·obtain⟨v,cs',rfl,h1,h2⟩:=h
   have h1':γ nr=some v:=h1
   obtain⟨e1,v',e2,e3,e4,e5⟩:=he (nr,.sl e t a fr true) (by simp[aQ])
   simp only at e2
   rw[e2] at h1'
   simp only[eW] at h1'
   subst h1'
   refine⟨[v'],cs',rfl,⟨v',rfl,hg _ _ e2,e3,?_,?_⟩,h2⟩
   ·have Br:Us β [(nr,Ent.sl e t a fr true)]=β nr:=by simp[Us]
    show aWI _ _ _ _ _ (Us β [(nr,Ent.sl e t a fr true)])
    rw[Br]
    exact e4 rfl
   ·show Os γ [(nr,Ent.sl e t a fr true)]=_
    simp[Os,oC,e2]
  ·obtain⟨v,cs',rfl,h1,h2⟩:=h
   have h1':γ nr=some v:=h1
   obtain⟨e1,v',e2,e3,e4,e5⟩:=he (nr,.sl e t a fr false) (by simp[aQ])
   simp only at e2
   rw[e2] at h1'
   simp only[eW] at h1'
   subst h1'
   refine⟨[v'],cs',rfl,⟨v',rfl,hg _ _ e2,e3,?_,?_⟩,h2⟩
   ·have Br:Us β [(nr,Ent.sl e t a fr false)]=β nr:=by simp[Us]
    show Us β [(nr,Ent.sl e t a fr false)]=_
    rw[Br]
    exact e5 rfl
   ·show Os γ [(nr,Ent.sl e t a fr false)]=_
    simp[Os,oC,e2]
  ·exact base (.slice e t) (nr:=nr) h
 | int k=>intro a fr fl nr cs ls h0 h he;cases fl<;>exact base _ (nr:=nr) h
 | bool=>intro a fr fl nr cs ls h0 h he;cases fl<;>exact base _ (nr:=nr) h
 | str=>intro a fr fl nr cs ls h0 h he;cases fl<;>exact base _ (nr:=nr) h
end
def gA:(ts:List Ty)->(dI ts).D->List SV
 | [],_=>[]
 | [t],d=>[⟨t,d⟩]
 | t::u::ts,d=>⟨t,(show t.D×(dI (u::ts)).D from d).1⟩::gA (u::ts) (show t.D×(dI (u::ts)).D from d).2
def aKA (G:Nat->Prop) (w:World):List AM->List Value->List SV->List Nat->List Nat->Prop
 | [],vs,_,ob,ub=>vs=[]/\ob=[]/\ub=[]
 | .val m::ms,vs,ds,ob,ub=>∃v vs' d ds' o1 o2 u1 u2,vs=v::vs'/\ds=d::ds'/\ob=o1++o2/\ub=u1++u2/\v=mkV m.ag v.cells.toList/\mvR G w m.t m.fl v.cells.toList (d.as m.t) o1 u1/\aKA G w ms vs' ds' o2 u2
 | .box T m::ms,vs,ds,ob,ub=>∃b c vs' d ds' o1 o2 u1 u2,vs = .pointer (some ⟨b,0,none⟩)::vs'/\ds=d::ds'/\ob=b::(o1++o2)/\ub=u1++u2/\w.heap[b]?=some (.cells c T (0,0)) /\
  mvR G w m.t m.fl c.toList (d.as m.t) o1 u1/\aKA G w ms vs' ds' o2 u2
def zW:List AM->List Value->List (Nat×TypeId×MV)
 | .box T m::ms,.pointer (some a)::vs=>(a.block,T,m)::zW ms vs
 | .val _::ms,_::vs=>zW ms vs
 | _,_=>[]
def aBZ:List AM->List MV
 | .box _ m::ms=>m::aBZ ms
 | .val _::ms=>aBZ ms
 | []=>[]
def cH5 (G:Nat->Prop) (w:World):List (Nat×TypeId×MV)->List SV->List Nat->List Nat->Prop
 | [],_,ob,ub=>ob=[]/\ub=[]
 | (b,T,m)::bs,ds,ob,ub=>∃c d ds' o1 o2 u1 u2,ds=d::ds'/\ob=b::(o1++o2)/\ub=u1++u2/\w.heap[b]?=some (.cells c T (0,0))/\mvR G w m.t m.fl c.toList (d.as m.t) o1 u1/\cH5 G w bs ds' o2 u2
def bC0:List Value->Value
 | [r]=>r
 | rs=>.tuple rs.toArray
def cJV (X:Cx) (C:Con) (vs:List Value) (x:C.argTy.D) (v:Value) (w:World):Prop :=
 ∃rs o1 u1 o2 u2,v=bC0 rs/\FrameOK X w /\
  aKA (Gd X (o1++o2) w (!C.alias)) w C.ras rs ((gA ((C.rms++aBZ C.ams).map (·.t)) (SV.as _ ⟨C.resTy,C.fn x⟩)).take C.rms.length) o1 u1 /\
  cH5 (Gd X (o1++o2) w false) w (zW C.ams vs) ((gA ((C.rms++aBZ C.ams).map (·.t)) (SV.as _ ⟨C.resTy,C.fn x⟩)).drop C.rms.length) o2 u2 /\
  ((o1++o2)++(u1++u2)).Nodup/\(∀b∈o1++o2,b<w.heap.size/\(X.B<=b\/b∈X.O0)/\¬X.A b)/\∀b∈u1++u2,Gd X (o1++o2) w true b
structure Con.Holds (P:Program) (C:Con):Prop where
 ok:∀x:C.argTy.D,C.pre x->okD C.argTy x->okD C.resTy (C.fn x)
 fn:∃f,P.funcs[C.f]?=some f/\(f.name == "runtime.NumGoroutine")=false/\f.body.isNone=false
 run:∀(X:Cx) (vs:List Value) (x:C.argTy.D) (ob ub:List Nat),C.pre x->okD C.argTy x->X.O0=ob->X.U0=ub->(ob++ub).Nodup->(∀b∈ob++ub,b<X.w0.heap.size/\¬X.A b) ->
  aKA (Gd X ob X.w0 false) X.w0 C.ams vs (gA (C.ams.map (·.mv.t)) (SV.as _ ⟨C.argTy,x⟩)) ob ub ->
  Calls P C.f vs.toArray X.w0 fun e w'=>∃v,e = .returned v/\cJV X C vs x v w'
section
variable {P:Program} {Cs:List Con} {X:Cx} {γ γ':Gh} {β β':Bt} {O:List Nat} {env:List SV} {w w':World} {es:Es} {G:Nat->Prop}
theorem aUF:(ps:List (Ty×Ar))->gA (ps.map (·.1)) (((pK ps).val env).as (dI (ps.map (·.1))))=ps.map fun p=>⟨p.1,(p.2.val env).as p.1⟩
 | []=>rfl
 | [p]=>rfl
 | p::q::ps=>by
  have ih:=aUF (q::ps)
  have h:((pK (p::q::ps)).val env).as (dI ((p::q::ps).map (·.1)))=((p.2.val env).as p.1,((pK (q::ps)).val env).as (dI ((q::ps).map (·.1)))):=zS _ _ _ _ _
  rw[h]
  show(⟨p.1,(p.2.val env).as p.1⟩:SV)::gA ((q::ps).map (·.1)) _=_
  rw[ih]
  rfl
theorem aBY:(ts:List Ty)->(a:Ar)->(k:Nat)->(b:Ar)->(t:Ty)->(d:SV)->(gP ts a)[k]?=some b->ts[k]?=some t->(gA ts ((a.val env).as (dI ts)))[k]?=some d->(b.val env).as t=d.as t
 | [],a,k,b,t,d,h1,h2,h3=>by simp at h2
 | [s],a,k,b,t,d,h1,h2,h3=>by
  cases k with
  | zero =>
   simp[gP] at h1;simp at h2;simp[gA] at h3
   subst h1 h2 h3
   simp[dI]
  | succ k=>simp at h2
 | s::u::ts,a,k,b,t,d,h1,h2,h3=>by
  cases k with
  | zero =>
   simp[gP] at h1;simp at h2;simp[gA] at h3
   subst h1 h2 h3
   simp only[Ar.val,SV.as_self]
   rfl
  | succ k =>
   simp only[gP,List.getElem?_cons_succ] at h1
   simp only[List.getElem?_cons_succ] at h2
   simp only[gA,List.getElem?_cons_succ] at h3
   refine aBY (u::ts) _ k b t d h1 h2 ?_
   have:((Ar.p2 s (dI (u::ts)) a).val env).as (dI (u::ts))=((a.val env).as (.cMV s (dI (u::ts)))).2:=by
    simp only[Ar.val];exact SV.as_self _ _
   rw[this]
   exact h3
theorem aLM:(ts:List Ty)->(d:(dI ts).D)->(gA ts d).length=ts.length
 | [],_=>rfl
 | [_],_=>rfl
 | t::u::ts,d=>by simp[gA,aLM (u::ts)]
theorem bWD:(ms:List AM)->(vs:List Value)->(ds:List SV)->ms.length=vs.length->ds.length=ms.length ->
  (∀(k:Nat) (m:AM) (d:SV) (v:Value),ms[k]?=some m->ds[k]?=some d->vs[k]?=some v->m = .val m.mv/\(m.mv.fl.any (· != 0))=false/\kS G m.mv.t w v.cells.toList (d.as m.mv.t)/\v=mkV m.mv.ag v.cells.toList)->aKA G w ms vs ds [] []
 | [],[],_,_,_,_=>⟨rfl,rfl,rfl⟩
 | m::ms,v::vs,[],hl,hd,_=>by simp at hd
 | m::ms,v::vs,d::ds,hl,hd,h=>by
  obtain⟨h1,h2,h3,h4⟩:=h 0 m d v rfl rfl rfl
  rw[h1]
  exact⟨v,vs,d,ds,[],[],[],[],rfl,rfl,rfl,rfl,h4,bNZ h2 h3,bWD ms vs ds (by simpa using hl) (by simpa using hd) (fun k m d v hm hd hv=>h (k+1) m d v (by simpa using hm) (by simpa using hd) (by simpa using hv))⟩
theorem aFY:(ms:List MV)->(as':List Ar)->(fr:Bool)->(nr:Nat)->as'.length=ms.length ->
  (fI ms as' fr nr).2.2=nr+(fI ms as' fr nr).2.1.length/\(∀p∈(fI ms as' fr nr).2.1,nr<=p.1/\p.1<nr+(fI ms as' fr nr).2.1.length)/\(fI ms as' fr nr).1.length=ms.length
 | [],[],fr,nr,_=>⟨rfl,fun p hp=>by simp[fI] at hp,rfl⟩
 | m::ms,a::as',fr,nr,hl=>by
  obtain⟨n1,n2,n3⟩:=jI m.t a fr m.fl nr
  obtain⟨i1,i2,i3⟩:=aFY ms as' fr (nr+(aQ m.t a fr m.fl nr).2.1.length) (by simpa using hl)
  have e:fI (m::ms) (a::as') fr nr=(bBX m.ag (aQ m.t a fr m.fl nr).1::(fI ms as' fr (aQ m.t a fr m.fl nr).2.2.2).1,
   (aQ m.t a fr m.fl nr).2.1++(fI ms as' fr (aQ m.t a fr m.fl nr).2.2.2).2.1,(fI ms as' fr (aQ m.t a fr m.fl nr).2.2.2).2.2):=rfl
  rw[e,n2]
  refine⟨by simp only[List.length_append,i1];omega,fun p hp=>?_,by simp only[List.length_cons,i3]⟩
  simp only[List.mem_append,List.length_append] at hp⊢
  rcases hp with hp|hp
  ·have:=n3 p hp;omega
  ·have:=i2 p hp;omega
theorem bWT {ag:Bool} {ls:List Leaf} {v:Value} (hv:v=mkV ag v.cells.toList) (h:bG X γ O env w ls v.cells.toList):uQ X γ O env w (bBX ag ls) v:=by
 cases ag with
 | true =>
  simp only[mkV,if_true] at hv
  exact⟨v.cells,by simpa using hv,h⟩
 | false =>
  simp only[mkV,Bool.false_eq_true,if_false] at hv
  unfold bBX
  simp only[Bool.false_eq_true,if_false]
  split
  ·rename_i l
   obtain⟨c,cs',hc,h1,h2⟩:=h
   have h2':cs'=[]:=h2
   subst h2'
   rw[hc] at hv
   simp at hv
   subst hv
   exact h1
  ·trivial
theorem bGU {fr:Bool} (hG:∀b,G b->Gd X O w fr b):(ms:List MV)->{as':List Ar}->{nr:Nat}->{γ:Gh}->{β:Bt}->{vs:List Value}->{ds:List SV}->{ob ub:List Nat}->lF γ ->
  (∀r,nr<=r->r<nr+(fI ms as' fr nr).2.1.length->γ r=none)->aKA G w (ms.map .val) vs ds ob ub->as'.length=ms.length->(∀a∈as',a.bd env.length=true) ->
  (∀(k:Nat) (a:Ar) (m:MV) (d:SV),as'[k]?=some a->ms[k]?=some m->ds[k]?=some d->(a.val env).as m.t=d.as m.t) ->
  ∃γ' β',lF γ'/\(∀r v,γ r=some v->γ' r=some v)/\(∀r,(r<nr\/nr+(fI ms as' fr nr).2.1.length<=r)->γ' r=γ r/\β' r=β r) /\
   xW X γ' O env w (fI ms as' fr nr).1 vs/\Os γ' (fI ms as' fr nr).2.1=ob/\Us β' (fI ms as' fr nr).2.1=ub/\∀p∈(fI ms as' fr nr).2.1,jS X γ' β' O env w p.1 p.2
 | [],[],nr,γ,β,vs,ds,ob,ub,hg,hf,⟨h1,h2,h3⟩,_,_,_=>⟨γ,β,hg,fun _ _ h=>h,fun _ _=>⟨rfl,rfl⟩,h1,h2.symm ▸ rfl,h3.symm ▸ rfl,fun p hp=>by simp[fI] at hp⟩
 | m::ms,a::as',nr,γ,β,vs,ds,ob,ub,hg,hf,h,hl,hb,hd=>by
  obtain⟨v,vs',d,ds',o1,o2,u1,u2,rfl,rfl,rfl,rfl,hv,h1,h2⟩:=h
  obtain⟨n1,n2,n3⟩:=jI m.t a fr m.fl nr
  obtain⟨m1,m2,m3⟩:=aFY ms as' fr (nr+(aQ m.t a fr m.fl nr).2.1.length) (by simpa using hl)
  have e:fI (m::ms) (a::as') fr nr=(bBX m.ag (aQ m.t a fr m.fl nr).1::(fI ms as' fr (aQ m.t a fr m.fl nr).2.2.2).1,
   (aQ m.t a fr m.fl nr).2.1++(fI ms as' fr (aQ m.t a fr m.fl nr).2.2.2).2.1,(fI ms as' fr (aQ m.t a fr m.fl nr).2.2.2).2.2):=rfl
  rw[e,n2] at hf⊢
  simp only[List.length_append] at hf⊢
  obtain⟨γ1,β1,i1,i2,i3,i4,i5,i6,i7⟩:=bDH (X:=X) (O:=O) (env:=env) (fr:=fr) hG m.t (a:=a) (nr:=nr) (β:=β) hg (fun r h1 h2=>hf r h1 (by omega)) h1 (hb a (by simp)) (hd 0 a m d rfl rfl rfl)
  obtain⟨γ2,β2,j1,j2,j3,j4,j5,j6,j7⟩:=bGU hG ms (as':=as') (nr:=nr+(aQ m.t a fr m.fl nr).2.1.length) (γ:=γ1) (β:=β1) i1 (fun r h1 h2=>by rw[(i3 r (by omega)).1];exact hf r (by omega) (by omega)) h2 (by simpa using hl)
   (fun a ha=>hb a (by simp[ha])) (fun k a m d ha hm hds=>hd (k+1) a m d (by simpa using ha) (by simpa using hm) (by simpa using hds))
  have hlat:Later X γ1 O env w γ2 O env w:=⟨j2,⟨[],by simp⟩,Nat.le_refl _,fun b _ h _=>⟨rfl,h⟩⟩
  have hβ:∀p∈(aQ m.t a fr m.fl nr).2.1,β2 p.1=β1 p.1:=fun p hp=>by
   have:=n3 p hp
   exact(j3 p.1 (by omega)).2
  refine⟨γ2,β2,j1,fun r v h=>j2 r v (i2 r v h),fun r hr=>?_,⟨v,vs',rfl,bWT hv (bG.later hlat i4),j4⟩,?_,?_,fun p hp=>?_⟩
  ·obtain⟨a1,a2⟩:=i3 r (by omega)
   obtain⟨b1,b2⟩:=j3 r (by omega)
   exact⟨b1.trans a1,b2.trans a2⟩
  ·rw[fJ,j5,aJP j2 (fun p hp=>(i7 p hp).gh),i5]
  ·rw[iJ,j6,aLG hβ,i6]
  ·rw[List.mem_append] at hp
   rcases hp with hp|hp
   ·exact jS.later hlat (hβ p hp) (fun _ _=>rfl) (fun _ _=>rfl) (i7 p hp)
   ·exact j7 p hp
 | [],_::_,_,_,_,_,_,_,_,_,_,_,hl,_,_=>by simp at hl
 | _::_,[],_,_,_,_,_,_,_,_,_,_,hl,_,_=>by simp at hl
theorem cF8 (C:Con):(as':List Ar)->(fr:Bool)->(nr:Nat)->as'.length=C.rms.length ->
  (aHM C as' fr nr).2.2=nr+(aHM C as' fr nr).2.1.length/\(∀p∈(aHM C as' fr nr).2.1,nr<=p.1/\p.1<nr+(aHM C as' fr nr).2.1.length):=by
 intro as' fr nr hl
 unfold aHM
 split
 ·rename_i T m a _ _
  obtain⟨n1,n2,n3⟩:=jI m.t a fr m.fl (nr+1)
  refine⟨by rw[n2];simp only[List.length_cons];omega,fun p hp=>?_⟩
  simp only[List.mem_cons,List.length_cons] at hp⊢
  rcases hp with rfl|hp
  ·simp only;omega
  ·have:=n3 p hp;omega
 ·exact⟨(aFY _ _ fr nr hl).1,(aFY _ _ fr nr hl).2.1⟩
theorem cHJ {C:Con} {fr:Bool} (hG:∀b,G b->Gd X O w fr b) {as':List Ar} {nr:Nat} {γ:Gh} {β:Bt} {vs:List Value} {ds:List SV} {ob ub:List Nat} (hg:lF γ)
  (hf:∀r,nr<=r->r<nr+(aHM C as' fr nr).2.1.length->γ r=none) (h:aKA G w C.ras vs ds ob ub) (hl:as'.length=C.rms.length) (hb:∀a∈as',a.bd env.length=true)
  (hd:∀(k:Nat) (a:Ar) (m:MV) (d:SV),as'[k]?=some a->C.rms[k]?=some m->ds[k]?=some d->(a.val env).as m.t=d.as m.t) :
  ∃γ' β',lF γ'/\(∀r v,γ r=some v->γ' r=some v)/\(∀r,(r<nr\/nr+(aHM C as' fr nr).2.1.length<=r)->γ' r=γ r/\β' r=β r) /\
   xW X γ' O env w (aHM C as' fr nr).1 vs/\Os γ' (aHM C as' fr nr).2.1=ob/\Us β' (aHM C as' fr nr).2.1=ub/\∀p∈(aHM C as' fr nr).2.1,jS X γ' β' O env w p.1 p.2:=by
 have hplain:(∀T m,C.bx=some T->C.rms≠[m])->C.ras=C.rms.map .val/\aHM C as' fr nr=fI C.rms as' fr nr:=fun hno=>by
  unfold Con.ras aHM
  constructor
  ·split
   ·rename_i T m h1 h2;exact absurd h2 (hno T m h1)
   ·rfl
  ·split
   ·rename_i T m a h1 h2;exact absurd h2 (hno T m h1)
   ·rfl
 by_cases hc:∃T m,C.bx=some T/\C.rms=[m]
 ·obtain⟨T,m,h1,h2⟩:=hc
  rw[h2] at hl
  obtain⟨a,rfl⟩:=List.length_eq_one_iff.1 hl
  have e1:C.ras=[.box T m]:=by unfold Con.ras;rw[h1,h2]
  have e2:aHM C [a] fr nr=([.pbox nr 0],(nr,.box T (aQ m.t a fr m.fl (nr+1)).1)::(aQ m.t a fr m.fl (nr+1)).2.1,(aQ m.t a fr m.fl (nr+1)).2.2.2):=by unfold aHM;rw[h1,h2]
  rw[e1] at h
  rw[e2] at hf⊢
  simp only[List.length_cons] at hf⊢
  obtain⟨b,c,vs',d,ds',o1,o2,u1,u2,rfl,rfl,rfl,rfl,hh,hm,h3⟩:=h
  obtain⟨rfl,rfl,rfl⟩:=h3
  have Bl:γ nr=none:=hf nr (Nat.le_refl _) (by omega)
  have hg1:=hg.upd (r:=nr) (v:=.pointer (some ⟨b,0,none⟩)) rfl
  obtain⟨n1,n2,n3⟩:=jI m.t a fr m.fl (nr+1)
  obtain⟨γ1,β1,i1,i2,i3,i4,i5,i6,i7⟩:=bDH (X:=X) (O:=O) (env:=env) (fr:=fr) hG m.t (a:=a) (nr:=nr+1) (β:=fun r=>if r=nr then [] else β r) hg1
   (fun r k1 k2=>by rw[Gh.upd_other (by omega)];exact hf r (by omega) (by omega)) hm (hb a (by simp)) (hd 0 a m d rfl (by rw[h2];rfl) rfl)
  have hγn:γ1 nr=some (.pointer (some ⟨b,0,none⟩)):=i2 _ _ (by simp)
  have hβn:β1 nr=[]:=by rw[(i3 nr (.inl (by omega))).2];simp
  refine⟨γ1,β1,i1,fun r v k=>i2 r v (Gh.upd_mono Bl r v k),fun r hr=>?_,⟨_,[],rfl,⟨b,hγn,rfl⟩,rfl⟩,?_,?_,fun p hp=>?_⟩
  ·obtain⟨k1,k2⟩:=i3 r (by omega)
   rw[Gh.upd_other (by omega)] at k1
   exact⟨k1,by rw[k2];show(if r=nr then [] else β r)=β r;rw[if_neg (by omega)]⟩
  ·show oC γ1 _++Os γ1 _=_
   rw[i5]
   simp[oC,hγn,lY]
  ·show β1 nr++Us β1 _=_
   rw[i6,hβn]
   simp
  ·rw[List.mem_cons] at hp
   rcases hp with rfl|hp
   ·exact⟨b,c,hγn,hh,i4,hβn⟩
   ·exact i7 p hp
 ·obtain⟨e1,e2⟩:=hplain fun T m k1 k2=>hc ⟨T,m,k1,k2⟩
  rw[e1] at h
  rw[e2] at hf⊢
  exact bGU hG C.rms hg hf h hl hb hd
end
def aFA (P:Program) (ρ:Operand->Value) (o:Oper) (w:World) (Post:Value->World->Prop):Prop :=
 (∃v w',(execOp ρ o).run P w = .ok (.value v) w'/\Post v w')\/(∃w',(execOp ρ o).run P w = .ok .skip w'/\Post undef w') \/
  ∃f args,(execOp ρ o).run P w = .ok (.enter f args) w/\Calls P f args w fun e w'=>∃v,e = .returned v/\Post v w'
theorem Calls.mono' {P:Program} {f:FuncId} {args:Array Value} {w:World} {R R':Ending->World->Prop} (h:Calls P f args w R) (hr:∀e w',R e w'->R' e w'):Calls P f args w R':=fun cs=>by
 obtain⟨e,w',fr,h1,h2⟩:=h cs
 exact⟨e,w',fr,hr _ _ h1,h2⟩
theorem aFA.mono {P:Program} {ρ:Operand->Value} {o:Oper} {w:World} {Q Q':Value->World->Prop} (h:aFA P ρ o w Q) (hq:∀v w',Q v w'->Q' v w'):aFA P ρ o w Q':=by
 rcases h with⟨v,w',h1,h2⟩|⟨w',h1,h2⟩|⟨f,args,h1,h2⟩
 ·exact .inl ⟨v,w',h1,hq _ _ h2⟩
 ·exact .inr (.inl ⟨w',h1,hq _ _ h2⟩)
 ·exact .inr (.inr ⟨f,args,h1,Calls.mono' h2 fun e w' ⟨v,he,hp⟩=>⟨v,he,hq _ _ hp⟩⟩)
theorem SV.as_as {t t':Ty} (h:t=t') (u:SV):SV.as t' ⟨t,SV.as t u⟩=SV.as t' u:=by subst h;simp
theorem aNJ {ts ts':List Ty} (h:ts=ts') (u:SV):gA ts (SV.as (dI ts) u)=gA ts' (SV.as (dI ts') u):=by subst h;rfl
theorem bH8 {Cs:List Con} {f:FuncId} {c:Nat} {C:Con} (h:bC3 Cs f=some (c,C)):Cs[c]?=some C/\C.f=f:=by
 unfold bC3 at h
 simp only[Option.map_eq_some_iff] at h
 obtain⟨⟨C',k⟩,h1,h2⟩:=h
 simp only[nB] at h2
 obtain⟨rfl,rfl⟩:=h2
 have h3:=List.find?_some h1
 have h4:=List.mem_of_find?_eq_some h1
 have:=List.mem_zipIdx_iff_getElem?.1 h4
 simp only at this h3
 exact⟨this,by simpa using h3⟩
theorem aUB:(ms:List AM)->(vs:List Value)->(∀m∈ms,m = .val m.mv)->aBZ ms=[]/\zW ms vs=[]
 | [],vs,_=>⟨rfl,rfl⟩
 | .val m::ms,[],h=>⟨(aUB ms [] (fun m hm=>h m (by simp[hm]))).1,rfl⟩
 | .val m::ms,v::vs,h=>aUB ms vs (fun m hm=>h m (by simp[hm]))
 | .box T m::ms,vs,h=>by have:=h (.box T m) (by simp);cases this
section
variable {P:Program} {Cs:List Con} {X:Cx} {γ γ':Gh} {β β':Bt} {O:List Nat} {env:List SV} {w w':World} {es:Es}
theorem bDB:(ss:List Sh)->(vs:List Value)->xW X γ O env w ss vs->ss.length=vs.length
 | [],vs,h=>by have h':vs=[]:=h;subst h';rfl
 | s::ss,vs,⟨c,cs',h1,h2,h3⟩=>by subst h1;simp[bDB ss cs' h3]
theorem bYA:{ss:List Sh}->{rs:List Value}->xW X γ O env w ss rs->bU X γ O env w (bYI ss) (bC0 rs)
 | [],rs,h=>by have h':rs=[]:=h;subst h';exact⟨_,rfl,rfl⟩
 | [s],rs,h=>by
  obtain⟨c,cs',rfl,h1,h2⟩:=h
  have h2':cs'=[]:=h2
  subst h2'
  exact yQ h1
 | s::t::ss,rs,h=>by
  obtain⟨c,cs',rfl,h1,c2,cs2,rfl,h2,h3⟩:=h
  exact⟨_,rfl,c,_,rfl,h1,c2,_,rfl,h2,h3⟩
theorem bHI:(ps:List (Ty×Ar))->(∀p∈ps,okD p.1 ((p.2.val env).as p.1))->okD (dI (ps.map (·.1))) (((pK ps).val env).as (dI (ps.map (·.1))))
 | [],_=>trivial
 | [p],h=>h p (by simp)
 | p::q::ps,h=>by
  have ih:=bHI (q::ps) (fun r hr=>h r (List.mem_cons_of_mem _ hr))
  have h':((pK (p::q::ps)).val env).as (dI ((p::q::ps).map (·.1)))=((p.2.val env).as p.1,((pK (q::ps)).val env).as (dI ((q::ps).map (·.1)))):=zS _ _ _ _ _
  rw[h']
  exact⟨h p (by simp),ih⟩
variable {wr:Bool} {nx nr:Nat} {ls:List Let} {s:Sh} {new:Es} {ρ:Operand->Value} {sh:Operand->Sh} {o:Oper} {lk:Lk}
theorem bL0 {f:Operand} {args:Array Operand} {tys:Array TypeId} {sg:Bool} (hop:o.op = .call { callee:=.value f,args:=args,argTypes:=tys }) {g:FuncId} (hf:ρ f = .func (.func g) #[] #[])
  (hfn:∃f,P.funcs[g]?=some f/\(f.name == "runtime.NumGoroutine")=false/\f.body.isNone=false):(execOp ρ o).run P w = .ok (.enter g (args.map ρ)) w:=by
 obtain⟨fn,h1,h2,h3⟩:=hfn
 have h4:fn.name ≠ "runtime.NumGoroutine":=by simpa using h2
 simp[execOp,hop,resolve,invoke,Deferred.ofValue,hf,callFunc,h1,h4]
 intro h5
 rw[h5] at h3
 cases h3
theorem cDZ (hC:∀(c:Nat) (C:Con),Cs[c]?=some C->Con.Holds P C) (hm:MemOK X γ β env w es) (hf:FrameOK X w) (hg:lF γ) (hs:∀x,bU X γ (Os γ es) env w (sh x) (ρ x)) {f:Operand} {args:Array Operand} {tys:Array TypeId}
  (hop:o.op = .call { callee:=.value f,args:=args,argTypes:=tys })
  (hlk:∀r e,lk r=some e->jS X γ β (Os γ es) env w r e/\∀b∈oC γ (r,e),b<w.heap.size)
  (h:sM P Cs o sh lk nx nr=some (ls,s,new)) (hl:iV Cs env nx ls) (Aa:∀r,nr<=r->r<nr+new.length->γ r=none) :
  aFA P ρ o w fun v w'=>∃γ' β',Grew X γ β env w es new nr s v γ' β' w':=by
 have D3:=hs f
 simp only[sM,hop] at h
 split at h
 ·rename_i g hg'
  rw[hg'] at D3
  split at h
  ·rename_i c C hcon
   obtain⟨hc1,rfl⟩:=bH8 hcon
   have hH:=hC c C hc1
   split at h
   ·rename_i ars fl ks A1
    split at h
    ·rename_i hty
     obtain⟨ht1,ht2⟩:=hty
     let X':Cx:=⟨fun b=>C.alias=true/\(X.A b\/b∈Os γ es),[],[],w,fun b hb=>by
      rcases hb.2 with hb|hb
      ·exact Nat.lt_of_lt_of_le (X.hA b hb) hf.B_le
      ·exact(hm.at' b hb).1,⟨hf.tab,by simp⟩⟩
     have Fe:ls=[.call c (pK ars)]/\s=bYI (aHM C (gP (C.rms.map (·.t)) (.Z nx)) (!C.alias) nr).1/\new=(aHM C (gP (C.rms.map (·.t)) (.Z nx)) (!C.alias) nr).2.1:=by
      simp only[eW,nB] at h
      exact⟨h.1.symm,h.2.1.symm,h.2.2.symm⟩
     obtain⟨rfl,rfl,rfl⟩:=Fe
     obtain⟨⟨l1,C',El,l2,l3,l4⟩,_⟩:=hl
     rw[hc1] at El
     simp only[eW] at El
     subst El
     have hargs:ars.map (·.1)=C.ams.map (·.mv.t)/\C.ams.length=(args.toList.map ρ).length/\∀(k:Nat) (m:AM) (p:Ty×Ar) (v:Value),C.ams[k]?=some m->ars[k]?=some p->(args.toList.map ρ)[k]?=some v ->
       m = .val m.mv/\(m.mv.fl.any (· != 0))=false/\p.2.bd env.length=true/\kS (Gd X' [] w false) p.1 w v.cells.toList ((p.2.val env).as p.1)/\v=mkV m.mv.ag v.cells.toList:=by
      have hvs:∀(k:Nat) (s:Sh) (v:Value),(args.toList.map sh)[k]?=some s->(args.toList.map ρ)[k]?=some v->bU X γ (Os γ es) env w s v:=fun k s v h1 h2=>by
       simp only[List.getElem?_map,Option.map_eq_some_iff] at h1 h2
       obtain⟨x,hx,rfl⟩:=h1
       obtain⟨y,hy,rfl⟩:=h2
       rw[hx] at hy
       simp only[eW] at hy
       subst hy
       exact hs x
      cases ha:C.alias
      ·rw[ha] at A1
       simp only[Bool.false_eq_true,if_false] at A1
       obtain⟨g1,g2,g3⟩:=bGL (X:=X) (γ:=γ) (β:=β) (O:=Os γ es) (env:=env) (w:=w) hg (G:=fun b=>b<w.heap.size) (fun fr b hb=>hb.1) hlk C.ams (args.toList.map sh) (args.toList.map ρ) A1 (by simp) hvs
       refine⟨g1,g2,fun k m p v h1 h2 h3=>?_⟩
       obtain⟨q1,q2,q3,q4,q5⟩:=g3 k m p v h1 h2 h3
       exact⟨q1,q2,q3,q4.mono (fun b hb=>by
        refine⟨hb,by simp,fun hA=>?_,fun h=>by cases h⟩
        have h1:C.alias=true:=hA.1
        rw[ha] at h1
        cases h1) (fun _ _=>rfl),q5⟩
      ·rw[ha] at A1
       simp only[if_true] at A1
       obtain⟨g1,g2,g3⟩:=aXM (X:=X) (γ:=γ) (O:=Os γ es) (env:=env) (w:=w) hg C.ams (args.toList.map sh) (args.toList.map ρ) A1 (by simp) hvs
       refine⟨g1,g2,fun k m p v h1 h2 h3=>?_⟩
       obtain⟨q1,q2,q3,q4,q5⟩:=g3 k m p v h1 h2 h3
       exact⟨q1,q2,q3,q4.mono (fun b hb=>⟨hb.1,by simp,fun hA=>hA.2.elim hb.2.2.1 hb.2.1,fun h=>by cases h⟩) (fun _ _=>rfl),q5⟩
     obtain⟨g1,g2,g3⟩:=hargs
     have hlen:ars.length=C.ams.length:=by have:=congrArg List.length g1;simpa using this
     have hx:C.argTy=dI (C.ams.map (·.mv.t)):=by rw[<-g1];exact ht1.symm
     have hds:gA (C.ams.map (·.mv.t)) (SV.as _ ⟨C.argTy,SV.as C.argTy ((pK ars).val env)⟩)=ars.map fun p=>⟨p.1,(p.2.val env).as p.1⟩:=by
      rw[SV.as_as hx,<-aNJ g1,aUF]
     have hval:∀m∈C.ams,m = .val m.mv:=fun m hm'=>by
      obtain⟨k,hk,rfl⟩:=List.mem_iff_getElem.1 hm'
      exact(g3 k _ (ars[k]'(by omega)) ((args.toList.map ρ)[k]'(by omega)) (List.getElem?_eq_getElem hk) (List.getElem?_eq_getElem _) (List.getElem?_eq_getElem _)).1
     obtain⟨hb1,hb2⟩:=aUB C.ams (args.toList.map ρ) hval
     have hrun:=hH.run X' (args.toList.map ρ) _ [] [] l2 (by
      have:=bHI (env:=env) ars (fun p hp=>by
       obtain⟨k,hk,rfl⟩:=List.mem_iff_getElem.1 hp
       exact(g3 k _ _ _ (List.getElem?_eq_getElem (by omega)) (List.getElem?_eq_getElem hk) (List.getElem?_eq_getElem (by omega))).2.2.2.1.okD)
      rw[ht1] at this
      exact this) rfl rfl (by simp) (by simp) (by
       rw[hds]
       refine bWD _ _ _ g2 (by simp[hlen]) (fun k m d v h1 h2 h3=>?_)
       simp only[List.getElem?_map,Option.map_eq_some_iff] at h2
       obtain⟨p,hp,rfl⟩:=h2
       obtain⟨q1,q2,q3,q4,q5⟩:=g3 k m p v h1 hp h3
       have:p.1=m.mv.t:=by
        have:=congrArg (·[k]?) g1
        simp only[List.getElem?_map,hp,h1,Option.map_some,eW] at this
        exact this
       refine⟨q1,q2,?_,q5⟩
       rw[<-this,SV.as_self]
       exact q4)
     refine .inr (.inr ⟨_,_,bL0 (sg:=true) hop D3 hH.fn,?_⟩)
     have I0:args.map ρ=(args.toList.map ρ).toArray:=Array.ext' (by simp)
     rw[I0]
     refine Calls.mono' hrun fun e w' hp=>?_
     obtain⟨v,he,rs,o1,u1,o2,u2,hv,hf',r1,r2,r3,r4,r5⟩:=hp
     refine⟨v,he,?_⟩
     rw[hb2] at r2
     obtain⟨rfl,rfl⟩:=r2
     simp only[List.append_nil] at r1 r3 r4 r5
     have hsz:w.heap.size<=w'.heap.size:=hf'.size
     have Dm:∀b,b<w.heap.size->w'.heap[b]?=w.heap[b]?:=fun b hb=>hf'.block b hb (by simp[X'])
     have hO:∀b∈Os γ es,b<w.heap.size:=fun b hb=>(hm.at' b hb).1
     have Ge:(gP (C.rms.map (·.t)) (.Z nx)).length=C.rms.length:=by rw[vN];simp
     have hres:(gA ((C.rms++aBZ C.ams).map (·.t)) (SV.as _ ⟨C.resTy,C.fn (SV.as C.argTy ((pK ars).val env))⟩)).take C.rms.length=gA (C.rms.map (·.t)) (SV.as _ ((Ar.Z nx).val env)):=by
      rw[aNJ (ts':=C.rms.map (·.t)) (by rw[hb1];simp),List.take_of_length_le (by rw[aLM];simp)]
      simp only[Ar.val,aVN l4]
     rw[hres] at r1
     have hG:∀b,Gd X' o1 w' (!C.alias) b->Gd X (o1++Os γ es) w' (!C.alias) b:=fun b ⟨a1,a2,a3,a4⟩=>by
      cases ha:C.alias
      ·have hb:w.heap.size<=b:=by
        rcases a4 (by rw[ha];rfl) with h|h
        ·exact h
        ·simp[X',Cx.F0] at h
       refine⟨a1,?_,fun hA=>?_,fun _=>.inl (Nat.le_trans hf.B_le hb)⟩
       ·rw[List.mem_append]
        rintro(h|h)
        ·exact a2 h
        ·have:=hO b h;omega
       ·have h1:=X.hA b hA
        have h2:=hf.size
        omega
      ·refine⟨a1,?_,fun hA=>a3 ⟨ha,.inl hA⟩,fun h=>by cases h⟩
       rw[List.mem_append]
       rintro(h|h)
       ·exact a2 h
       ·exact a3 ⟨ha,.inr h⟩
     obtain⟨γ',β',i1,i2,i3,i4,i5,i6,i7⟩:=cHJ (X:=X) (O:=o1++Os γ es) (env:=env) (C:=C) hG (nr:=nr) (β:=β) hg Aa r1 Ge (aI9 _ (aF7 l4)) (fun k a m d h1 h2 h3=>aBY _ _ k a m.t d h1 (by simp[h2]) h3)
     obtain⟨n1,n2⟩:=cF8 C (gP (C.rms.map (·.t)) (.Z nx)) (!C.alias) nr Ge
     have hold:∀p∈es,¬(nr<=p.1/\p.1<nr+(aHM C (gP (C.rms.map (·.t)) (.Z nx)) (!C.alias) nr).2.1.length):=fun p hp hh=>by
      obtain⟨v,hv⟩:=(hm.ent p hp).gh
      rw[Aa p.1 hh.1 hh.2] at hv;cases hv
     have eO:Os γ' ((aHM C (gP (C.rms.map (·.t)) (.Z nx)) (!C.alias) nr).2.1++es)=o1++Os γ es:=by
      rw[fJ,i5,aJP i2 (fun p hp=>(hm.ent p hp).gh)]
     obtain⟨m1,m2⟩:=hm.grow (γ':=γ') (β':=β') (w':=w') (new:=(aHM C (gP (C.rms.map (·.t)) (.Z nx)) (!C.alias) nr).2.1) hf.B_le Dm hsz i2 (fun p hp=>(i3 p.1 (by have:=hold p hp;omega)).2) (by rw[i5,i6];exact r3)
      (by
       rw[i5,i6]
       intro b hb
       rw[List.mem_append] at hb
       rcases hb with hb|hb
       ·obtain⟨a1,a2,a3⟩:=r4 b hb
        rcases a2 with a2|a2
        ·exact⟨a2,a1⟩
        ·simp[X'] at a2
       ·obtain⟨a1,a2,a3,a4⟩:=r5 b hb
        rcases a4 rfl with a2|a2
        ·exact⟨a2,a1⟩
        ·simp[X',Cx.F0] at a2) (fun _ p hp=>by rw[eO];exact i7 p hp)
     refine⟨γ',β',m1,m2,hf.grow hf'.os hf'.tape hf'.output hsz Dm,i1,i3,n2,?_⟩
     rw[eO,hv]
     exact bYA i4
    ·cases h
   ·cases h
  ·cases h
 ·cases h
end
end Go.Proofs.YtfmfeplebgbpmaaGreat
