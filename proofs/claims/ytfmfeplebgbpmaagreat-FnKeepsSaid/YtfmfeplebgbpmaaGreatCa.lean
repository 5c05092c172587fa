/- Ca: lemmas. No conditions. -/
import Derived.Test.YtfmfeplebgbpmaaGreatRows
import Derived.WalkKit
import Derived.ProofKit
import Derived.OpenShut
import Derived.Deep.Slices
import Derived.Lib.Hide
import Derived.Deep.QuietTactic
import Derived.BigQuiet
import Derived.Deep.LoopGhost
import Derived.Deep.RegionWith
import Derived.Deep.DeepMust
import Derived.WalkLawsBesides
import Derived.WalkSpells
import Derived.OwnWalk
import Derived.StillTailTactics
import Derived.Laws.MakeOwn
import Derived.Orders
import Derived.Laws.StructEq
namespace Go.Proofs.YtfmfeplebgbpmaaGreat
open Go.ChangeShapes Go.WideShapes Go.ChangeAt Go.RowKit Go.Deep
theorem eW {α:Type} {a b:α}:(some a=some b)=(a=b):=Option.some.injEq a b
theorem nB {α β:Type} {a c:α} {b d:β}:((a,b)=(c,d))=(a=c/\b=d):=Prod.mk.injEq a b c d
set_option linter.unusedVariables false
inductive Ty where
 | int (k:IntKind)
 | bool
 | str
 | slice (e:TypeId) (t:Ty)
 | cMV (a b:Ty)
def Ty.n:Ty->Nat
 | .cMV a b=>a.n+b.n
 | _=>1
@[reducible] def Ty.D:Ty->Type
 | .int _=>Int
 | .bool=>Bool
 | .str=>ByteArray
 | .slice _ t=>List t.D
 | .cMV a b=>a.D×b.D
theorem Ty.n_pos (t:Ty):0<t.n:=by
 induction t with
 | cMV a b iha ihb=>simp[Ty.n];omega
 | _=>simp[Ty.n]
def tC {α:Type} (n:Nat) (R:List Value->α->Prop) (w:World) (p:Option Addr) (len cap:Nat) (l:List α):Prop :=
 len=l.length/\len<=cap/\cap<=maxLen/\(p=none->cap=0) /\
  ∀k (h:k<l.length),∃b off,p=some ⟨b,off,none⟩/\b<w.heap.size/\∃cs,cs.length=n/\(∀j (hj:j<cs.length),w.cell? ⟨b,off+k * n+j,none⟩=some cs[j])/\R cs l[k]
theorem bMR {α:Type} {Q:Nat->α->Prop}:(len:Nat)->(∀k,k<len->∃d,Q k d)->∃l:List α,l.length=len/\∀k (h:k<l.length),Q k l[k]
 | 0,_=>⟨[],rfl,fun k hk=>by simp at hk⟩
 | q+1,hex=>by
  obtain⟨l,hlen,hall⟩:=bMR q (fun k hk=>hex k (by omega))
  obtain⟨d,h1⟩:=hex q (by omega)
  refine⟨l++[d],by simp[hlen],fun k hk=>?_⟩
  by_cases Et:k<l.length
  ·rw[List.getElem_append_left Et];exact hall k Et
  ·have:k=l.length:=by simp at hk;omega
   subst this
   rw[<-hlen] at h1
   simpa using h1
def rd:(t:Ty)->World->List Value->t.D->Prop
 | .int k,_,cs,x=>cs=[.int k x]/\(Lit.int k x).wf=true
 | .bool,_,cs,x=>cs=[.bool x]
 | .str,_,cs,s=>cs=[.string s]/\s.size<=maxLen
 | .slice _ t,w,cs,l=>∃p len cap,cs=[.slice p len cap]/\tC t.n (rd t w) w p len cap l
 | .cMV a b,w,cs,x=>∃c1 c2,cs=c1++c2/\rd a w c1 x.1/\rd b w c2 x.2
def bDE (w w':World):Prop:=∀b,b<w.heap.size->w'.heap[b]?=w.heap[b]?
theorem bDE.cell {w w':World} (h:bDE w w') {a:Addr} {v:Value} (hc:w.cell? a=some v):w'.cell? a=some v :=
 (World.cell?_of_block (h a.block (World.block_lt_of_cell? w a hc))).trans hc
theorem bDE.size {w w':World} (h:bDE w w'):w.heap.size<=w'.heap.size:=by
 by_cases hz:w.heap.size=0
 ·omega
 ·have h0:=h (w.heap.size - 1) (by omega)
  have h1:w.heap[w.heap.size - 1]?=some (w.heap[w.heap.size - 1]'(by omega)):=Array.getElem?_eq_getElem (by omega)
  obtain⟨h2,_⟩:=Array.getElem?_eq_some_iff.1 (h0.trans h1)
  omega
theorem Below.keeps {w w':World} (h:Below w.heap.size w w'):bDE w w':=h.block
theorem tC.mono {α:Type} {n:Nat} {R R':List Value->α->Prop} {w w':World} {p:Option Addr} {len cap:Nat} {l:List α}
  (hw:bDE w w') (hR:∀cs x,R cs x->R' cs x) (h:tC n R w p len cap l):tC n R' w' p len cap l:=by
 obtain⟨h1,h2,h3,h4,h5⟩:=h
 refine⟨h1,h2,h3,h4,fun k hk=>?_⟩
 obtain⟨b,off,hp,hb,cs,hn,hc,hr⟩:=h5 k hk
 exact⟨b,off,hp,Nat.lt_of_lt_of_le hb hw.size,cs,hn,fun j hj=>hw.cell (hc j hj),hR _ _ hr⟩
theorem bYF {w w':World} (hw:bDE w w'):(t:Ty)->(cs:List Value)->(d:t.D)->rd t w cs d->rd t w' cs d:=by
 intro t
 induction t with
 | int k=>intro cs d h;exact h
 | bool=>intro cs d h;exact h
 | str=>intro cs d h;exact h
 | slice e t ih =>
  intro cs d h
  obtain⟨p,len,cap,rfl,h⟩:=h
  exact⟨p,len,cap,rfl,h.mono hw (fun cs x=>ih cs x)⟩
 | cMV a b iha ihb =>
  intro cs d h
  obtain⟨c1,c2,rfl,h1,h2⟩:=h
  exact⟨c1,c2,rfl,iha _ _ h1,ihb _ _ h2⟩
def aG7 (P:Program) (go:TypeId->Option Ty):Nat->List Field->Option Ty
 | _,[]=>none
 | off,[f]=>match go f.type with
  | some t=>if f.offset=off/\P.cellsOf f.type=t.n then some t else none
  | none=>none
 | off,f::g::fs=>match go f.type with
  | some t=>if f.offset=off/\P.cellsOf f.type=t.n then(aG7 P go (off+t.n) (g::fs)).map (Ty.cMV t) else none
  | none=>none
def bUF (P:Program):Nat->TypeId->Option Ty
 | 0,_=>none
 | n+1,T=>match P.underlying T with
  | some .bool=>some .bool
  | some (.int k)=>some (.int k)
  | some .string=>some .str
  | some (.slice e)=>match bUF P n e with
   | some t=>if P.cellsOf e=t.n then some (.slice e t) else none
   | none=>none
  | some (.struct fs)=>match aG7 P (bUF P n) 0 fs.toList with
   | some t=>if P.cellsOf T=t.n then some t else none
   | none=>none
  | _=>none
section
variable {H:Type} {enc:TypeId×Value->H} {P:Program} {w:World} {base:Nat} {spare:Nat->Bool} {held:Bool}
theorem bKA {go:TypeId->Option Ty} {m:Nat} (hgo:∀T t,go T=some t->∀cs x,DataW.trod enc P w base spare held m T cs=some x->∃d,rd t w cs d) :
  ∀(fs:List Field) (off:Nat) (t:Ty) (cs:List Value),aG7 P go off fs=some t->cs.length=off+t.n ->
   (∀(i:Nat) (f:Field),fs[i]?=some f->∃x,DataW.trod enc P w base spare held m f.type ((cs.drop f.offset).take (P.cellsOf f.type))=some x) ->
   ∃d,rd t w (cs.drop off) d
 | [],off,t,cs,h,_,_=>by simp[aG7] at h
 | [f],off,t,cs,h,hl,hx=>by
  unfold aG7 at h
  cases hg:go f.type with
  | none=>simp[hg] at h
  | some u =>
   simp only[hg] at h
   split at h
   ·rename_i hc
    obtain rfl:u=t:=by simpa using h
    obtain⟨x,hx⟩:=hx 0 f rfl
    obtain⟨d,hd⟩:=hgo _ _ hg _ _ hx
    rw[hc.1,hc.2,List.take_of_length_le (by simp;omega)] at hd
    exact⟨d,hd⟩
   ·cases h
 | f::g::fs,off,t,cs,h,hl,hx=>by
  unfold aG7 at h
  cases hg:go f.type with
  | none=>simp[hg] at h
  | some u =>
   simp only[hg] at h
   split at h
   ·rename_i hc
    cases hr:aG7 P go (off+u.n) (g::fs) with
    | none=>simp[hr] at h
    | some v =>
     obtain rfl:Ty.cMV u v=t:=by simpa [hr] using h
     simp only[Ty.n] at hl
     obtain⟨x,hx0⟩:=hx 0 f rfl
     obtain⟨d,hd⟩:=hgo _ _ hg _ _ hx0
     obtain⟨d',hd'⟩:=bKA hgo (g::fs) (off+u.n) v cs hr (by omega) (fun i f' hf'=>hx (i+1) f' (by simpa using hf'))
     rw[hc.1,hc.2] at hd
     exact⟨(d,d'),_,_,by rw[<-List.drop_drop];exact(List.take_append_drop u.n (cs.drop off)).symm,hd,hd'⟩
   ·cases h
theorem aH7:∀(n:Nat) (T:TypeId) (t:Ty),bUF P n T=some t->∀(m:Nat) (cs:List Value) (x:DataW H×List MemPlace),
  DataW.trod enc P w base spare held m T cs=some x->∃d,rd t w cs d
 | 0,T,t,h=>by simp[bUF] at h
 | n+1,T,t,h=>by
  intro m cs x hx
  unfold bUF at h
  split at h
  ·rename_i hu
   obtain rfl:Ty.bool=t:=by simpa using h
   obtain⟨b,rfl,_⟩:=DataW.trod_bool hu hx
   exact⟨b,rfl⟩
  ·rename_i k hu
   obtain rfl:Ty.int k=t:=by simpa using h
   obtain⟨b,rfl,_,hw⟩:=DataW.trod_int hu hx
   exact⟨b,rfl,hw⟩
  ·rename_i hu
   obtain rfl:Ty.str=t:=by simpa using h
   obtain⟨b,rfl,_,hw⟩:=DataW.trod_string hu hx
   exact⟨b,rfl,hw⟩
  ·rename_i e hu
   split at h
   ·rename_i u hr
    split at h
    ·rename_i hc
     obtain rfl:Ty.slice e u=t:=by simpa using h
     rcases open_slice hu hx with⟨rfl,_⟩|⟨a,len,cap,m',n',D,Pl,rfl,hb,hl,hm,hmm,_,hi⟩
     ·exact⟨[],none,0,0,rfl,rfl,Nat.le_refl _,Nat.zero_le _,fun _=>rfl,fun k hk=>by simp at hk⟩
     ·have hle:len<=m':=by rw[hmm];split<;>omega
      have hex:∀k,k<len->∃(d:u.D),∃cs,w.cells? base (a.add (k * u.n)) u.n=some cs/\rd u w cs d:=by
       intro k hk
       obtain⟨cs,hcs,ht⟩:=hi k (by omega)
       obtain⟨d,hd⟩:=aH7 n e u hr _ _ _ ht
       rw[hc] at hcs
       exact⟨d,cs,hcs,hd⟩
      obtain⟨l,hlen,hall⟩:=bMR len hex
      refine⟨l,some a,len,cap,rfl,hlen.symm,hl,hm,(fun h=>by cases h),fun k hk=>?_⟩
      obtain⟨cs,h1,h2⟩:=hall k hk
      obtain⟨_,hcl,hat⟩:=World.cells?_some h1
      have hsp:a.spot=none:=by
       obtain⟨cs0,h0,_⟩:=hall 0 (by omega)
       obtain⟨_,F1,I1⟩:=World.cells?_some h0
       have hpos:=Ty.n_pos u
       have hc0:=I1 0 hpos
       rw[List.getElem?_eq_getElem (by omega)] at hc0
       simp only[Nat.zero_mul,Addr.add,if_true] at hc0
       unfold World.cell? at hc0
       split at hc0
       ·cases hs:a.spot with
        | none=>rfl
        | some s=>simp[hs] at hc0
       ·cases hc0
      obtain⟨ab,ao,asp⟩:=a
      simp only at hsp
      subst hsp
      have hadd:∀j,((⟨ab,ao,none⟩:Addr).add (k * u.n)).add j=⟨ab,ao+k * u.n+j,none⟩:=fun j=>by
       simp only[Addr.add]
       repeat (split<;>simp_all)
      have hlt:∀j (hj:j<cs.length),w.cell? ⟨ab,ao+k * u.n+j,none⟩=some cs[j]:=fun j hj=>by
       rw[<-hadd,hat j (by omega),List.getElem?_eq_getElem hj]
      have hpos:=Ty.n_pos u
      exact⟨ab,ao,rfl,World.block_lt_of_cell? w _ (hlt 0 (by omega)),cs,hcl,hlt,h2⟩
    ·cases h
   ·cases h
  ·rename_i fs hu
   obtain⟨xs,q,_,_,hcl,hxl,hf⟩:=DataW.trod_struct hu hx
   split at h
   ·rename_i u Bw
    split at h
    ·rename_i hc
     obtain rfl:u=t:=by simpa using h
     have:=bKA (m:=q) (w:=w) (fun T t hg cs x hx=>aH7 n T t hg q cs x hx) fs.toList 0 u cs Bw (by omega) (fun i f hi=>by
      have hi':fs[i]?=some f:=by simpa using hi
      have h1:=hf i f hi'
      have hlt:i<fs.size:=(Array.getElem?_eq_some_iff.1 hi').1
      exact⟨_,h1.trans (List.getElem?_eq_getElem (by omega))⟩)
     simpa using this
    ·cases h
   ·cases h
  ·cases h
end
abbrev tI:Ty:=.int .i64
abbrev pN:Ty:=.int .i64
abbrev aA:Ty:=.slice 3 tI
abbrev mG:Ty:=.slice 4 .bool
abbrev aU:Ty:=.cMV tI tI
abbrev bI:Ty:=.slice 159 aU
abbrev fD:Ty:=aA
abbrev bK:Ty:=.cMV tI (.cMV tI (.cMV tI aA))
abbrev aL:Ty:=.cMV aA aA
abbrev aM:Ty:=.cMV tI aA
abbrev aG:Ty:=.slice 243 bK
abbrev aO:Ty:=.slice 138 aL
abbrev aF:Ty:=.slice 253 fD
abbrev aT:Ty:=.cMV aF (.cMV tI .bool)
abbrev aJ:Ty:=.cMV tI aF
abbrev aD:Ty:=.cMV tI (.slice 249 aM)
abbrev bZR:Ty:=.cMV bI (.cMV aG (.cMV .bool (.cMV .bool (.cMV (.slice 245 aJ) (.cMV aF (.cMV aA (.cMV aA (.cMV aA (.cMV aA aT)))))))))
abbrev aB:Ty:=.cMV tI bZR
abbrev aI:Ty:=.slice 147 aD
abbrev aE:Ty:=.cMV aO (.cMV (.slice 142 aB) (.cMV aI aI))
abbrev bR:Ty:=.cMV aG (.cMV aA (.cMV tI (.cMV mG (.cMV aA aA))))
abbrev bX:=List Int
abbrev cT:=List bX
abbrev fP:=Int×(Int×(Int×List Int))
abbrev eP:=Int×Int
abbrev gI:=List (List Int)×(Int×Bool)
abbrev bT:=List Int×List Int
abbrev cC:=List fP
abbrev iC:=List bT
abbrev eC:=Int×List (List Int)
abbrev aR:=Int×(List eP×(List fP×(Bool×(Bool×(List eC×(List (List Int)×(List Int×(List Int×(List Int×(List Int×gI))))))))))
abbrev cP:=Int×List Int
abbrev bE:=Int×List cP
abbrev aW:=List bT×(List aR×(List bE×List bE))
abbrev dE:=List fP×(List Int×(Int×(List Bool×(List Int×List Int))))
theorem dM {p:Prop} (h:p:=by first|(with_reducible assumption)|((try simp only[World.size_alloc,World.size_setCell,World.size_drew])<;>omega)|(simp[World.setCell];done)|(simp[World.setCell];omega)):p:=h
theorem bNS {p:Prop} (h:p:=by(repeat' first|(with_reducible exact Below.refl _ _)|(with_reducible refine Below.drew ?_)|(with_reducible refine Below.setCell ?_ ?_ _)|(with_reducible refine Below.alloc ?_ ?_ _)|(with_reducible refine Below.mono (by assumption) ?_)|(with_reducible refine Below.trans ?_ (Below.mono (by assumption) ?_)))<;>(first|(with_reducible assumption)|((try simp only[World.size_alloc,World.size_setCell,World.size_drew])<;>omega)|(simp[World.setCell];done)|(simp[World.setCell];omega))):p:=h
structure TabP where
 p:World->Prop
 bl:List Nat
 keep:∀w w':World,p w->(∀b∈bl,w'.heap[b]?=w.heap[b]?)->p w'
 lt:∀w,p w->∀b∈bl,b<w.heap.size
def bNA:TabP:=⟨fun _=>True,[],fun _ _ _ _=>trivial,fun _ _ b h=>by simp at h⟩
theorem bGH (w:World):bNA.p w:=trivial
def pC {α:Type} (n:Nat) (R:List Value->α->List Nat->Prop):List Value->List α->List Nat->Prop
 | xs,[],bl=>xs=[]/\bl=[]
 | xs,x::l,bl=>∃c xs' b1 b2,c.length=n/\xs=c++xs'/\bl=b1++b2/\R c x b1/\pC n R xs' l b2
section
variable {α:Type} {n:Nat} {R R':List Value->α->List Nat->Prop}
theorem pC.len:{l:List α}->{xs:List Value}->{bl:List Nat}->pC n R xs l bl->xs.length=l.length * n
 | [],xs,bl,h=>by simp[h.1]
 | x::l,xs,bl,h=>by
  obtain⟨c,xs',b1,b2,hc,rfl,rfl,_,hr⟩:=h
  simp[hc,pC.len hr,Nat.add_mul];omega
theorem pC.append:{l:List α}->{xs:List Value}->{bl:List Nat}->pC n R xs l bl->{m:List α}->{ys:List Value}->{bm:List Nat}->pC n R ys m bm ->
  pC n R (xs++ys) (l++m) (bl++bm)
 | [],xs,bl,h,m,ys,bm,k=>by obtain⟨rfl,rfl⟩:=h;simpa using k
 | x::l,xs,bl,h,m,ys,bm,k=>by
  obtain⟨c,xs',b1,b2,hc,rfl,rfl,h1,hr⟩:=h
  exact⟨c,xs'++ys,b1,b2++bm,hc,by simp,by simp,h1,hr.append k⟩
theorem pC.one {c:List Value} {x:α} {b:List Nat} (hc:c.length=n) (h:R c x b):pC n R c [x] b :=
 ⟨c,[],b,[],hc,by simp,by simp,h,rfl,rfl⟩
theorem pC.mono:{l:List α}->{xs:List Value}->{bl:List Nat}->(∀c x b,(∀k∈b,k∈bl)->R c x b->R' c x b)->pC n R xs l bl->pC n R' xs l bl
 | [],xs,bl,hR,h=>h
 | x::l,xs,bl,hR,h=>by
  obtain⟨c,xs',b1,b2,hc,rfl,rfl,h1,hr⟩:=h
  exact⟨c,xs',b1,b2,hc,rfl,rfl,hR _ _ _ (fun k hk=>by simp[hk]) h1,hr.mono (fun c x b hb=>hR c x b (fun k hk=>by simp[hb k hk]))⟩
theorem pC.split:(k:Nat)->{l:List α}->{xs:List Value}->{bl:List Nat}->(hk:k<l.length)->pC n R xs l bl ->
  ∃xs1 c xs2 b1 bk b2,xs=xs1++(c++xs2)/\xs1.length=k * n/\c.length=n/\bl=b1++(bk++b2)/\pC n R xs1 (l.take k) b1/\R c l[k] bk/\pC n R xs2 (l.drop (k+1)) b2
 | _,[],xs,bl,hk,h=>by simp at hk
 | 0,x::l,xs,bl,hk,h=>by
  obtain⟨c,xs',b1,b2,hc,rfl,rfl,h1,hr⟩:=h
  exact⟨[],c,xs',[],b1,b2,rfl,by simp,hc,rfl,⟨rfl,rfl⟩,h1,hr⟩
 | k+1,x::l,xs,bl,hk,h=>by
  obtain⟨c,xs',b1,b2,hc,rfl,rfl,h1,hr⟩:=h
  obtain⟨xs1,c',xs2,d1,dk,d2,rfl,hl,hc',rfl,ha,hb,hd⟩:=pC.split k (by simpa using hk) hr
  exact⟨c++xs1,c',xs2,b1++d1,dk,d2,by simp,by simp[hc,hl,Nat.add_mul];omega,hc',by simp,⟨c,xs1,b1,d1,hc,rfl,rfl,h1,ha⟩,by simpa using hb,by simpa using hd⟩
theorem pC.join {k:Nat} {l:List α} {xs1 c xs2:List Value} {b1 bk b2:List Nat} {x:α} (hk:k<l.length) (hc:c.length=n) (h1:pC n R xs1 (l.take k) b1) (h:R c x bk)
  (h2:pC n R xs2 (l.drop (k+1)) b2):pC n R (xs1++(c++xs2)) (l.set k x) (b1++(bk++b2)):=by
 rw[List.set_eq_take_append_cons_drop,if_pos hk]
 exact h1.append ⟨c,xs2,bk,b2,hc,rfl,rfl,h,h2⟩
end
def rep:(t:Ty)->World->List Value->t.D->List Nat->Prop
 | .int k,_,cs,x,bl=>cs=[.int k x]/\(Lit.int k x).wf=true/\bl=[]
 | .bool,_,cs,x,bl=>cs=[.bool x]/\bl=[]
 | .str,_,cs,s,bl=>cs=[.string s]/\s.size<=maxLen/\bl=[]
 | .slice e t,w,cs,l,bl=>∃v xs bl',cs=[v]/\w.ownsRow 0 e t.n v l.length xs/\pC t.n (rep t w) xs l bl'/\bl=v.ownBlock.toList++bl'
 | .cMV a b,w,cs,x,bl=>∃c1 c2 b1 b2,cs=c1++c2/\bl=b1++b2/\rep a w c1 x.1 b1/\rep b w c2 x.2 b2
theorem bNP {w w':World} {B:Nat} {e:TypeId} {n:Nat} {v:Value} {m:Nat} {xs:List Value} (h:w.ownsRow B e n v m xs) (hw:∀g,v.ownBlock=some g->w'.heap[g]?=w.heap[g]?):w'.ownsRow B e n v m xs:=by
 obtain⟨h1,h2⟩:=h
 refine⟨h1,?_⟩
 rcases h2 with h2|⟨g,cap,cur,rfl,hg,hh,r⟩
 ·exact .inl h2
 ·exact .inr ⟨g,cap,cur,rfl,hg,(hw g rfl).trans hh,r⟩
theorem aOB {w w':World}:(t:Ty)->(cs:List Value)->(d:t.D)->(bl:List Nat)->(∀b∈bl,w'.heap[b]?=w.heap[b]?)->rep t w cs d bl->rep t w' cs d bl:=by
 intro t
 induction t with
 | int k=>intro cs d bl hb h;exact h
 | bool=>intro cs d bl hb h;exact h
 | str=>intro cs d bl hb h;exact h
 | slice e t ih =>
  intro cs d bl hb h
  obtain⟨v,xs,bl',rfl,ho,hr,rfl⟩:=h
  exact⟨v,xs,bl',rfl,bNP ho (fun g hg=>hb g (by simp[hg])),hr.mono (fun c x b hk hx=>ih c x b (fun k hkb=>hb k (by simp[hk k hkb])) hx),rfl⟩
 | cMV a b iha ihb =>
  intro cs d bl hb h
  obtain⟨c1,c2,b1,b2,rfl,rfl,h1,h2⟩:=h
  exact⟨c1,c2,b1,b2,rfl,rfl,iha _ _ _ (fun k hk=>hb k (by simp[hk])) h1,ihb _ _ _ (fun k hk=>hb k (by simp[hk])) h2⟩
theorem bTG (t:Ty) (w:World) (cs:List Value) (d:t.D) (bl:List Nat) (h:rep t w cs d bl):cs.length=t.n:=by
 induction t generalizing cs bl with
 | int k=>simp[h.1,Ty.n]
 | bool=>simp[h.1,Ty.n]
 | str=>simp[h.1,Ty.n]
 | slice e t ih=>obtain⟨v,xs,bl',rfl,_⟩:=h;rfl
 | cMV a b iha ihb =>
  obtain⟨c1,c2,b1,b2,rfl,rfl,h1,h2⟩:=h
  simp[Ty.n,iha _ _ _ h1,ihb _ _ _ h2]
theorem cJS (w:World):(t:Ty)->(cs:List Value)->(d:t.D)->(bl:List Nat)->rep t w cs d bl->rd t w cs d:=by
 intro t
 induction t with
 | int k=>intro cs d bl h;exact⟨h.1,h.2.1⟩
 | bool=>intro cs d bl h;exact h.1
 | str=>intro cs d bl h;exact⟨h.1,h.2.1⟩
 | slice e t ih =>
  intro cs d bl h
  obtain⟨v,xs,bl',rfl,ho,hr,rfl⟩:=h
  obtain⟨h1,⟨rfl,hn⟩|⟨g,cap,cur,rfl,hg,hh,hc,hm,hs,hx⟩⟩:=ho
  ·exact⟨none,0,0,rfl,hn.symm,Nat.le_refl _,Nat.zero_le _,fun _=>rfl,fun k hk=>by omega⟩
  ·refine⟨some ⟨g,0,none⟩,d.length,cap,rfl,rfl,hc,hm,(fun h=>by cases h),fun k hk=>?_⟩
   obtain⟨xs1,c,xs2,b1,bk,b2,he,hl,hcl,_,_,hR,_⟩:=hr.split k hk
   refine⟨g,0,rfl,(Array.getElem?_eq_some_iff.1 hh).1,c,hcl,fun j hj=>?_,ih _ _ _ hR⟩
   have h2:xs[k * t.n+j]?=some c[j]:=by
    rw[he,List.getElem?_append_right (by omega),List.getElem?_append_left (by omega),hl,Nat.add_sub_cancel_left,List.getElem?_eq_getElem hj]
   have h3:cur[k * t.n+j]?=some c[j]:=by
    rw[<-hx,List.getElem?_take] at h2
    split at h2
    ·simpa using h2
    ·cases h2
   simp[World.cell?,hh,h3]
 | cMV a b iha ihb =>
  intro cs d bl h
  obtain⟨c1,c2,b1,b2,rfl,rfl,h1,h2⟩:=h
  exact⟨c1,c2,rfl,iha _ _ _ h1,ihb _ _ _ h2⟩
def mJ (t:Ty) (lo hi:Nat) (w:World) (cs:List Value) (d:t.D):Prop :=
 ∃bl,rep t w cs d bl/\bl.Nodup/\(∀b∈bl,lo<=b/\b<hi)/\hi<=w.heap.size
section
variable {t:Ty} {lo hi lo' hi':Nat} {w w':World} {cs:List Value} {d:t.D}
theorem mJ.rd (h:mJ t lo hi w cs d):rd t w cs d:=by
 obtain⟨bl,h,_⟩:=h
 exact cJS _ _ _ _ _ h
theorem mJ.mono (h:mJ t lo hi w cs d) (h1:lo'<=lo) (h2:hi<=hi') (h3:hi'<=w.heap.size):mJ t lo' hi' w cs d:=by
 obtain⟨bl,h,hn,hb,hs⟩:=h
 exact⟨bl,h,hn,fun b hb'=>by have:=hb b hb';omega,h3⟩
theorem mJ.keep (h:mJ t lo hi w cs d) (hw:∀b,lo<=b->b<hi->w'.heap[b]?=w.heap[b]?) (hs:w.heap.size<=w'.heap.size):mJ t lo hi w' cs d:=by
 obtain⟨bl,h,hn,hb,hz⟩:=h
 exact⟨bl,aOB _ _ _ _ (fun b hb'=>hw b (hb b hb').1 (hb b hb').2) h,hn,hb,by omega⟩
theorem mJ.below {B:Nat} (h:mJ t lo hi w cs d) (hw:Below B w w') (hB:hi<=B):mJ t lo hi w' cs d :=
 h.keep (fun b _ h2=>hw.block b (by omega)) hw.size
theorem mJ.hi_le (h:mJ t lo hi w cs d):hi<=w.heap.size:=h.choose_spec.2.2.2
end
theorem mJ.int {k:IntKind} {lo hi:Nat} {w:World} {x:Int} (hx:(Lit.int k x).wf=true) (h:hi<=w.heap.size):mJ (.int k) lo hi w [.int k x] x :=
 ⟨[],⟨rfl,hx,rfl⟩,List.nodup_nil,(fun b hb=>by simp at hb),h⟩
theorem mJ.bool {lo hi:Nat} {w:World} {x:Bool} (h:hi<=w.heap.size):mJ .bool lo hi w [.bool x] x :=
 ⟨[],⟨rfl,rfl⟩,List.nodup_nil,(fun b hb=>by simp at hb),h⟩
theorem mJ.str {lo hi:Nat} {w:World} {x:ByteArray} (hx:x.size<=maxLen) (h:hi<=w.heap.size):mJ .str lo hi w [.string x] x :=
 ⟨[],⟨rfl,hx,rfl⟩,List.nodup_nil,(fun b hb=>by simp at hb),h⟩
theorem mJ.nil {e:TypeId} {t:Ty} {lo hi:Nat} {w:World} (h:hi<=w.heap.size):mJ (.slice e t) lo hi w [.slice none 0 0] ([]:List t.D) :=
 ⟨[],⟨_,[],[],rfl,World.ownsRow_nil _ _ _ _,⟨rfl,rfl⟩,rfl⟩,List.nodup_nil,(fun b hb=>by simp at hb),h⟩
theorem mJ.cMV {a b:Ty} {lo mid hi:Nat} {w:World} {c1 c2:List Value} {x:a.D} {y:b.D} (h1:mJ a lo mid w c1 x) (h2:mJ b mid hi w c2 y) (hl:lo<=mid) (hm:mid<=hi) :
  mJ (.cMV a b) lo hi w (c1++c2) (x,y):=by
 obtain⟨b1,r1,n1,i1,_⟩:=h1
 obtain⟨b2,r2,n2,i2,s2⟩:=h2
 refine⟨b1++b2,⟨c1,c2,b1,b2,rfl,rfl,r1,r2⟩,?_,fun k hk=>?_,s2⟩
 ·rw[List.nodup_append]
  refine⟨n1,n2,fun x hx y hy e=>?_⟩
  have:=i1 x hx;have:=i2 y hy;omega
 ·rw[List.mem_append] at hk
  rcases hk with hk|hk
  ·have:=i1 k hk;omega
  ·have:=i2 k hk;omega
section
variable {P:Program} (w:World)
end
def xZ:Ty->List Value
 | .int k=>[.int k 0]
 | .bool=>[.bool false]
 | .str=>[.string ⟨#[]⟩]
 | .slice _ _=>[.slice none 0 0]
 | .cMV a b=>xZ a++xZ b
def aK:(t:Ty)->t.D
 | .int _=>(0:Int)
 | .bool=>false
 | .str=>(⟨#[]⟩:ByteArray)
 | .slice _ t=>([]:List t.D)
 | .cMV a b=>(aK a,aK b)
theorem bX5 (k:IntKind):(Lit.int k 0).wf=true:=by cases k<;>rfl
theorem cE0 (w:World) (t:Ty):rep t w (xZ t) (aK t) []:=by
 induction t with
 | int k=>exact⟨rfl,bX5 k,rfl⟩
 | bool=>exact⟨rfl,rfl⟩
 | str=>exact⟨rfl,Nat.zero_le _,rfl⟩
 | slice e t ih=>exact⟨_,[],[],rfl,World.ownsRow_nil _ _ _ _,⟨rfl,rfl⟩,rfl⟩
 | cMV a b iha ihb=>exact⟨_,_,[],[],rfl,rfl,iha,ihb⟩
theorem sQ (t:Ty):(xZ t).length=t.n:=by
 induction t with
 | cMV a b iha ihb=>simp[xZ,Ty.n,iha,ihb]
 | _=>simp[xZ,Ty.n]
def aNB (t:Ty):Nat->List Value
 | 0=>[]
 | n+1=>xZ t++aNB t n
def aSQ (t:Ty) (n:Nat):Array Value:=(aNB t n).toArray
theorem aFI (t:Ty) (n:Nat):(aNB t n).length=n * t.n:=by
 induction n with
 | zero=>simp[aNB]
 | succ n ih=>simp[aNB,ih,sQ,Nat.add_mul];omega
theorem aYY (t:Ty) (n:Nat):(aSQ t n).size=n * t.n:=by simp[aSQ,aFI]
theorem bKU (t:Ty):(n j:Nat)->j<n * t.n->(aNB t n)[j]?=(xZ t)[j % t.n]?
 | 0,j,h=>by simp at h
 | n+1,j,h=>by
  have hp:=Ty.n_pos t
  simp only[aNB]
  by_cases hj:j<t.n
  ·rw[List.getElem?_append_left (by rw[sQ];exact hj),Nat.mod_eq_of_lt hj]
  ·rw[List.getElem?_append_right (by rw[sQ];omega),sQ,bKU t n (j - t.n) (by rw[Nat.add_mul] at h;omega),Nat.mod_eq_sub_mod (a:=j) (by omega)]
theorem bZE (z:Value) (t:Ty) (n:Nat) (hz:z.cells.toList=xZ t):madeCells z.cells (n * t.n)=aSQ t n:=by
 have hsz:z.cells.size=t.n:=by rw[<-Array.length_toList,hz,sQ]
 have hp:=Ty.n_pos t
 apply Array.ext
 ·rw[size_madeCells,aYY]
 ·intro j h1 h2
  rw[size_madeCells] at h1
  have h3:=bKU t n j h1
  have hm:j % t.n<t.n:=Nat.mod_lt _ hp
  have h4:(aSQ t n)[j]?=(xZ t)[j % t.n]?:=by simpa [aSQ] using h3
  rw[Array.getElem?_eq_getElem h2,<-hz,Array.getElem?_toList,Array.getElem?_eq_getElem (by omega)] at h4
  have h5:(aSQ t n)[j]=z.cells[j % t.n]'(by omega):=by simpa using h4
  rw[h5]
  simp only[madeCells,Array.getElem_map,Array.getElem_range,hsz]
  rw[getElem!_pos z.cells (j % t.n) (by omega)]
theorem aZI (P:Program) (T e:TypeId) (z:Value) (bytes:Nat) (t:Ty) (ht:P.underlying T=some (.slice e)) (hinfo:(P.info? e).map (fun i=>(i.zero,i.size,i.bytes))=some (some z,t.n,bytes))
  (hz:z.cells.toList=xZ t) (n:Nat) (hb:bytes * n<=281474976710656) (hn:n<=9223372036854775807) (w:World) :
  (Instr.makeSlice T (.int .i64 (n:Int)) (.int .i64 (n:Int))).run P w = .ok (.slice (some ⟨w.heap.size,0,none⟩) n n) (w.alloc (.cells (aSQ t n) e)):=by
 obtain⟨i,hi,hzz⟩:=Option.map_eq_some_iff.1 hinfo
 simp only[nB] at hzz
 obtain⟨h0,hs,hby⟩:=hzz
 have hb':(i.bytes:Int) * (n:Int)<=281474976710656:=by
  have h:((bytes * n:Nat):Int)<=281474976710656:=by omega
  rw[hby];rwa [Int.natCast_mul] at h
 have hr:=run_make (P:=P) w T e i z ht hi h0 .i64 .i64 n n (by omega) (Int.le_refl _) hb' (by omega)
 rw[hr]
 simp only[Int.toNat_natCast,hs,bZE z t n hz]
theorem aYD (w:World) (t:Ty):(n:Nat)->pC t.n (rep t w) (aNB t n) (List.replicate n (aK t)) []
 | 0=>⟨rfl,rfl⟩
 | n+1=>⟨xZ t,aNB t n,[],[],sQ t,rfl,rfl,cE0 w t,aYD w t n⟩
theorem mJ.made (w:World) (t:Ty) (e:TypeId) (n:Nat) (hn:n<=maxLen) :
  mJ (.slice e t) w.heap.size (w.heap.size+1) (w.alloc (.cells (aSQ t n) e)) [.slice (some ⟨w.heap.size,0,none⟩) n n] (List.replicate n (aK t)):=by
 refine⟨[w.heap.size],⟨_,aNB t n,[],rfl,⟨by simp[aFI],.inr ⟨w.heap.size,n,aSQ t n,by simp,Nat.zero_le _,Go.heap_alloc_new w _,by simp,hn,aYY t n,?_⟩⟩,aYD _ t n,rfl⟩,by simp,(fun b hb=>by simp at hb;omega),by simp⟩
 simp only[aSQ,List.length_replicate]
 exact List.take_of_length_le (by rw[aFI];exact Nat.le_refl _)
def setCells (w:World) (b off:Nat):List Value->World
 | []=>w
 | v::vs=>setCells (w.setCell ⟨b,off,none⟩ v) b (off+1) vs
theorem aSL {w:World} {b j:Nat} {c:Array Value} {e:TypeId} {fr:Nat×Nat} (v:Value) (h:w.heap[b]?=some (.cells c e fr)) :
  (w.setCell ⟨b,j,none⟩ v).heap[b]?=some (.cells (c.setIfInBounds j v) e fr):=by
 simp[World.setCell,Array.getElem?_modify,h]
theorem aPG:(vs:List Value)->(w:World)->(b off:Nat)->(c:Array Value)->{e:TypeId}->{fr:Nat×Nat}->w.heap[b]?=some (.cells c e fr)->off+vs.length<=c.size ->
  ∃c',(setCells w b off vs).heap[b]?=some (.cells c' e fr)/\c'.toList=c.toList.take off++(vs++c.toList.drop (off+vs.length))
 | [],w,b,off,c,e,fr,h,hs=>⟨c,h,by simp⟩
 | v::vs,w,b,off,c,e,fr,h,hs=>by
  simp only[List.length_cons] at hs
  obtain⟨c',h1,h2⟩:=aPG vs _ b (off+1) _ (aSL (j:=off) v h) (by simp;omega)
  refine⟨c',h1,?_⟩
  rw[h2,Array.toList_setIfInBounds,List.set_eq_take_append_cons_drop,if_pos (by simp;omega)]
  have e1:(List.take off c.toList).length=off:=by simp;omega
  rw[List.take_append,e1,List.drop_append,e1]
  simp only[Nat.add_sub_cancel_left,List.take_succ_cons,List.take_zero,List.length_cons]
  rw[List.take_of_length_le (l:=List.take off c.toList) (by omega),List.drop_of_length_le (l:=List.take off c.toList) (by omega)]
  rw[show off+1+vs.length - off=vs.length+1 by omega,List.drop_succ_cons,List.drop_drop]
  simp[Nat.add_assoc,Nat.add_comm 1]
theorem aRV:(vs:List Value)->(w:World)->(b off:Nat)->(setCells w b off vs).heap.size=w.heap.size
 | [],w,b,off=>rfl
 | v::vs,w,b,off=>by rw[setCells,aRV vs];simp[World.setCell]
theorem aG6:(vs:List Value)->(w:World)->(b off k:Nat)->k≠b->(setCells w b off vs).heap[k]?=w.heap[k]?
 | [],w,b,off,k,h=>rfl
 | v::vs,w,b,off,k,h=>by rw[setCells,aG6 vs _ _ _ _ h,Below.heap_setCell _ _ _ _ h]
theorem Below.setCells {B:Nat} {a w:World}:{vs:List Value}->{b off:Nat}->Below B a w->B<=b->Below B a (setCells w b off vs)
 | [],b,off,h,hb=>h
 | v::vs,b,off,h,hb=>Below.setCells (vs:=vs) (h.setCell (p:=⟨b,off,none⟩) hb v) hb
section
variable {t:Ty} {e:TypeId} {lo mid hi:Nat} {w:World} {b len cap:Nat} {l:List t.D}
theorem mJ.at {v:Value} (h:mJ (.slice e t) lo mid w [v] l) (k:Nat) (hk:k<l.length) :
  ∃b cap,v = .slice (some ⟨b,0,none⟩) l.length cap/\lo<=b/\b<mid/\(∀j,w.frozen? ⟨b,j,none⟩=false) /\
   ∃c,c.length=t.n/\(∀j (hj:j<c.length),w.cell? ⟨b,k * t.n+j,none⟩=some c[j])/\mJ t lo mid w c l[k]:=by
 obtain⟨bl,⟨v0,xs,bl',hv,ho,hr,rfl⟩,hnd,hin,hs⟩:=h
 obtain rfl:v=v0:=by simpa using hv
 obtain⟨h1,⟨rfl,hn⟩|⟨g,cap,cur,rfl,hg,hh,hc,hm,hcs,hx⟩⟩:=ho
 ·omega
 ·obtain⟨xs1,c,xs2,b1,bk,b2,he,hl,hcl,rfl,_,hR,_⟩:=hr.split k hk
  have hb:=hin g (by simp[Value.ownBlock])
  refine⟨g,cap,rfl,hb.1,hb.2,fun j=>by simp[World.frozen?,hh],c,hcl,fun j hj=>?_,?_⟩
  ·have h2:xs[k * t.n+j]?=some c[j]:=by
    rw[he,List.getElem?_append_right (by omega),List.getElem?_append_left (by omega),hl,Nat.add_sub_cancel_left,List.getElem?_eq_getElem hj]
   have h3:cur[k * t.n+j]?=some c[j]:=by
    rw[<-hx,List.getElem?_take] at h2
    split at h2
    ·simpa using h2
    ·cases h2
   simp[World.cell?,hh,h3]
  ·refine⟨bk,hR,?_,fun b' hb'=>hin b' (by simp[hb']),hs⟩
   rw[List.nodup_append,List.nodup_append] at hnd
   have:=hnd.2.1
   simp only[List.nodup_append] at this
   exact this.2.1.1
theorem mJ.set (h:mJ (.slice e t) lo mid w [.slice (some ⟨b,0,none⟩) len cap] l) (k:Nat) (hk:k<l.length) (hlm:lo<=mid) (M7:mid<=hi) {c:List Value} {x:t.D} (hx:mJ t mid hi w c x) :
  mJ (.slice e t) lo hi (setCells w b (k * t.n) c) [.slice (some ⟨b,0,none⟩) len cap] (l.set k x):=by
 obtain⟨bl,⟨v0,xs,bl',hv,ho,hr,rfl⟩,hnd,hin,hs⟩:=h
 obtain rfl:Value.slice (some ⟨b,0,none⟩) len cap=v0:=by simpa using hv
 obtain⟨bx,hrx,Hs,Cu,L8⟩:=hx
 have Ef:c.length=t.n:=bTG _ _ _ _ _ hrx
 obtain⟨h1,⟨h0,hn⟩|⟨g,cap',cur,hv',hg,hh,hc,hm,hcs,htk⟩⟩:=ho
 ·omega
 ·obtain⟨rfl,rfl,rfl⟩:b=g/\len=l.length/\cap=cap':=by simpa using hv'
  obtain⟨xs1,c0,xs2,b1,bk,b2,he,hl,hcl,rfl,hr1,hR,hr2⟩:=hr.split k hk
  have Mq:=hin b (by simp[Value.ownBlock])
  have hsz:k * t.n+c.length<=cur.size:=by
   rw[Ef,hcs]
   have:(k+1) * t.n<=cap * t.n:=Nat.mul_le_mul_right _ (by omega)
   rw[Nat.add_mul] at this;omega
  obtain⟨c',hb',hc'⟩:=aPG c w b (k * t.n) cur hh hsz
  have hnd':=hnd
  simp only[Value.ownBlock,Option.toList_some,List.singleton_append,List.nodup_cons,List.mem_append,not_or,List.nodup_append] at hnd'
  obtain⟨⟨nb1,nbk,nb2⟩,n1,⟨nk,n2,d2⟩,d1⟩:=hnd'
  have mv:∀(bs:List Nat) (ys:List Value) (m:List t.D),b ∉ bs->pC t.n (rep t w) ys m bs->pC t.n (rep t (setCells w b (k * t.n) c)) ys m bs:=fun bs ys m hb hr =>
   hr.mono (fun c y bb hq hy=>aOB _ _ _ _ (fun q Bk=>aG6 _ _ _ _ _ (fun e=>hb (by rw[<-e];exact hq q Bk))) hy)
  have hx':rep t (setCells w b (k * t.n) c) c x bx:=aOB _ _ _ _ (fun q Bk=>aG6 _ _ _ _ _ (fun e=>by have:=Cu q Bk;omega)) hrx
  refine⟨b::(b1++(bx++b2)),⟨_,xs1++(c++xs2),b1++(bx++b2),rfl,⟨?_,.inr ⟨b,cap,c',by simp,Nat.zero_le _,hb',by simpa using hc,hm,?_,?_⟩⟩,pC.join hk Ef (mv _ _ _ nb1 hr1) hx' (mv _ _ _ nb2 hr2),rfl⟩,?_,?_,?_⟩
  ·have:=congrArg List.length he
   simp only[List.length_append,h1] at this
   simp only[List.length_append,List.length_set];omega
  ·have:=congrArg List.length hc'
   simp only[Array.length_toList,List.length_append,List.length_take,List.length_drop] at this
   omega
  ·rw[hc',List.length_set]
   have e1:xs1=cur.toList.take (k * t.n):=by
    have:=congrArg (List.take (k * t.n)) htk
    rw[he,List.take_left' hl,List.take_take,Nat.min_eq_left (Nat.mul_le_mul_right _ (by omega))] at this
    exact this.symm
   have e2:xs2=(cur.toList.drop (k * t.n+c.length)).take (l.length * t.n - (k * t.n+c.length)):=by
    have:=congrArg (List.drop (k * t.n+c.length)) htk
    rw[he,<-List.append_assoc,List.drop_left' (by simp[hl,hcl,Ef]),List.drop_take] at this
    exact this.symm
   have hle:k * t.n+c.length<=l.length * t.n:=by
    have:(k+1) * t.n<=l.length * t.n:=Nat.mul_le_mul_right _ (by omega)
    rw[Nat.add_mul] at this;omega
   rw[<-e1,List.take_append,hl,List.take_of_length_le (l:=xs1) (by omega),List.take_append,List.take_of_length_le (l:=c) (by omega),e2]
   congr 3
   omega
  ·simp only[List.nodup_cons,List.mem_append,not_or,List.nodup_append]
   refine⟨⟨nb1,fun hm=>?_,nb2⟩,n1,⟨Hs,n2,fun p hp q hq e=>?_⟩,fun p hp q hq e=>?_⟩
   ·have:=Cu b hm;omega
   ·have:=Cu p hp;have:=hin q (by simp[hq]);omega
   ·rcases hq with hq|hq
    ·have:=Cu q hq;have:=hin p (by simp[hp]);omega
    ·exact d1 p hp q (by simp[hq]) e
  ·intro q hq
   simp only[List.mem_cons,List.mem_append] at hq
   rcases hq with rfl|hq|hq|hq
   ·omega
   ·have:=hin q (by simp[hq]);omega
   ·have:=Cu q hq;omega
   ·have:=hin q (by simp[hq]);omega
  ·rw[aRV];exact L8
end
set_option linter.unusedSimpArgs false
def Ty.beq:Ty->Ty->Bool
 | .int k,.int j=>decide (k=j)
 | .bool,.bool=>true
 | .str,.str=>true
 | .slice e t,.slice f u=>e==f&&t.beq u
 | .cMV a b,.cMV c d=>a.beq c&&b.beq d
 | _,_=>false
theorem Ty.beq_refl:(a:Ty)->a.beq a=true
 | .int k=>by simp[Ty.beq]
 | .bool | .str=>rfl
 | .slice e t=>by simp[Ty.beq,Ty.beq_refl t]
 | .cMV a b=>by simp[Ty.beq,Ty.beq_refl a,Ty.beq_refl b]
theorem Ty.beq_eq:{a b:Ty}->a.beq b=true->a=b
 | .int k,.int j,h=>by simp[Ty.beq] at h;rw[h]
 | .bool,.bool,_=>rfl
 | .str,.str,_=>rfl
 | .slice e t,.slice f u,h=>by
  simp[Ty.beq] at h
  rw[h.1,Ty.beq_eq h.2]
 | .cMV a b,.cMV c d,h=>by
  simp[Ty.beq] at h
  rw[Ty.beq_eq h.1,Ty.beq_eq h.2]
instance Ty.dec:DecidableEq Ty:=fun a b=>if h:a.beq b=true then isTrue (Ty.beq_eq h) else isFalse fun e=>h (by rw[e];exact Ty.beq_refl b)
def Ty.flat:Ty->Bool
 | .slice _ _=>false
 | .cMV a b=>a.flat&&b.flat
 | _=>true
abbrev SV:=(t:Ty)×t.D
def SV.as (t:Ty) (v:SV):t.D:=if h:v.1=t then h ▸ v.2 else aK t
@[simp] theorem SV.as_self (t:Ty) (x:t.D):SV.as t ⟨t,x⟩=x:=by simp[SV.as]
def inK:IntKind->Int->Prop
 | .i64,z=>-9223372036854775808<=z/\z<=9223372036854775807
 | .u8,z=>0<=z/\z<=255
 | k,z=>k.min<=z/\z<=k.max
def okD:(t:Ty)->t.D->Prop
 | .int k,x=>inK k x
 | .bool,_=>True
 | .str,s=>s.size<=maxLen
 | .slice _ t,l=>List.length l<=maxLen/\∀y∈l,okD t y
 | .cMV a b,x=>okD a x.1/\okD b x.2
inductive Ar where
 | Z (n:Nat)
 | ci (k:IntKind) (n:Int)
 | cb (v:Bool)
 | cs (v:ByteArray)
 | nl (e:TypeId) (t:Ty)
 | p1 (a b:Ty) (p:Ar)
 | p2 (a b:Ty) (p:Ar)
 | cMX (a b:Ty) (p q:Ar)
def aSJ (env:List SV) (n:Nat):SV:=(env[n]?).getD ⟨.bool,false⟩
def pjA:Ty->Nat->Ar->Ar
 | .cMV a b,0,p=>.p1 a b p
 | .cMV a b,n+1,p=>pjA b n (.p2 a b p)
 | _,_,p=>p
def prA:Ty->Nat->Ar->Ar
 | .cMV a b,n+1,p=>prA b n (.p2 a b p)
 | _,_,p=>p
def oH:Ty->List Ar->Ar
 | .cMV a b,x::y::l=>.cMX a b x (oH b (y::l))
 | _,x::_=>x
 | _,[]=>.Z 0
def Ar.val (env:List SV):Ar->SV
 | .Z n=>aSJ env n
 | .ci k n=>⟨.int k,n⟩
 | .cb v=>⟨.bool,v⟩
 | .cs v=>⟨.str,v⟩
 | .nl e t=>⟨.slice e t,([]:List t.D)⟩
 | .p1 a b p=>⟨a,((p.val env).as (.cMV a b)).1⟩
 | .p2 a b p=>⟨b,((p.val env).as (.cMV a b)).2⟩
 | .cMX a b p q=>⟨.cMV a b,((p.val env).as a,(q.val env).as b)⟩
def Ar.bd (n:Nat):Ar->Bool
 | .Z m=>m<n
 | .p1 _ _ p=>p.bd n
 | .p2 _ _ p=>p.bd n
 | .cMX _ _ p q=>p.bd n&&q.bd n
 | _=>true
theorem Ar.val_ext {env ext:List SV}:(a:Ar)->a.bd env.length=true->a.val (env++ext)=a.val env
 | .Z n,h=>by
  simp only[Ar.bd,decide_eq_true_eq] at h
  simp[Ar.val,aSJ,List.getElem?_append_left h]
 | .ci _ _,_=>rfl
 | .cb _,_=>rfl
 | .cs _,_=>rfl
 | .nl _ _,_=>rfl
 | .p1 _ _ p,h=>by simp only[Ar.val,Ar.val_ext p h]
 | .p2 _ _ p,h=>by simp only[Ar.val,Ar.val_ext p h]
 | .cMX _ _ p q,h=>by
  simp only[Ar.bd,Bool.and_eq_true] at h
  simp only[Ar.val,Ar.val_ext p h.1,Ar.val_ext q h.2]
theorem Ar.bd_mono {m n:Nat} (Gp:m<=n):(a:Ar)->a.bd m=true->a.bd n=true
 | .Z k,h=>by simp only[Ar.bd,decide_eq_true_eq] at h⊢;omega
 | .ci _ _,_=>rfl
 | .cb _,_=>rfl
 | .cs _,_=>rfl
 | .nl _ _,_=>rfl
 | .p1 _ _ p,h=>Ar.bd_mono Gp p h
 | .p2 _ _ p,h=>Ar.bd_mono Gp p h
 | .cMX _ _ p q,h=>by
  simp only[Ar.bd,Bool.and_eq_true] at h⊢
  exact⟨Ar.bd_mono Gp p h.1,Ar.bd_mono Gp q h.2⟩
def aES:(t:Ty)->t.D->t.D->Bool
 | .int _,x,y=>(x:Int)==y
 | .bool,x,y=>(x:Bool)==y
 | .str,x,y=>decide ((x:ByteArray)=y)
 | .slice _ _,_,_=>false
 | .cMV a b,x,y=>aES a x.1 y.1&&aES b x.2 y.2
def aN9 (t:Ty):Nat->Ty
 | 0=>.bool
 | 1=>t
 | n+2=>.cMV t (aN9 t (n+1))
def aPM (t:Ty):(n:Nat)->(aN9 t n).D->List t.D
 | 0,_=>[]
 | 1,x=>[x]
 | n+2,x=>x.1::aPM t (n+1) x.2
def lD (s:ByteArray) (i:Int):Int:=((s.data[i.toNat]?).getD 0).toNat
def lM (s:ByteArray):List Int:=s.data.toList.map fun b=>(b.toNat:Int)
def jG (l:List Int):ByteArray:=⟨(l.map fun n=>UInt8.ofNat n.toNat).toArray⟩
def arI:BinOp->Int->Int->Int
 | .add,x,y=>x+y
 | .sub,x,y=>x - y
 | _,x,y=>x * y
def cGG:BinOp->Int->Int->Bool
 | .eql,x,y=>x==y
 | .neq,x,y=>x != y
 | .lss,x,y=>decide (x<y)
 | .leq,x,y=>decide (x<=y)
 | .gtr,x,y=>decide (x>y)
 | _,x,y=>decide (x ≥ y)
@[reducible] def negI (x:Int):Int:=-x
@[reducible] def minI (x y:Int):Int:=min x y
@[reducible] def maxI (x y:Int):Int:=max x y
@[reducible] def repC (b:Nat) (v:Int):Prop:=0<=v/\(b:Int) * v<=281474976710656/\v<=4611686018427387904
inductive Prim where
 | ar (op:BinOp) (k:IntKind)
 | arw (op:BinOp) (k:IntKind)
 | quo (k:IntKind)
 | rem (k:IntKind)
 | shr (k k2:IntKind)
 | shl (k k2:IntKind)
 | bits (op:BinOp) (k:IntKind)
 | cmp (op:BinOp) (k:IntKind)
 | not
 | neg (k:IntKind)
 | conv (k k2:IntKind)
 | mn (k:IntKind)
 | mx (k:IntKind)
 | sadd
 | seq (neg:Bool)
 | slen
 | sidx
 | ssub
 | cMZ (e:TypeId) (t:Ty)
 | cN0 (e:TypeId) (t:Ty)
 | cN1 (e:TypeId) (t:Ty)
 | cN2 (e:TypeId) (t:Ty) (bytes:Nat)
 | lapps (e:TypeId)
 | cN3 (e:TypeId) (t:Ty)
 | lit (e:TypeId) (t:Ty) (n:Nat)
 | rep (e:TypeId) (t:Ty) (bytes:Nat)
 | b2s (e:TypeId)
 | eqv (neg:Bool) (t:Ty)
def Prim.ity:Prim->Ty
 | .ar _ k | .arw _ k | .quo k | .rem k | .bits _ k | .cmp _ k | .mn k | .mx k=>.cMV (.int k) (.int k)
 | .shr k k2 | .shl k k2=>.cMV (.int k) (.int k2)
 | .not=>.bool
 | .neg k | .conv k _=>.int k
 | .sadd | .seq _=>.cMV .str .str
 | .slen=>.str
 | .sidx=>.cMV .str tI
 | .ssub=>.cMV .str (.cMV tI tI)
 | .cMZ e t=>.slice e t
 | .cN0 e t=>.cMV (.slice e t) tI
 | .cN1 e t=>.cMV (.slice e t) (.cMV tI tI)
 | .cN2 e t _=>.cMV (.slice e t) (.slice e t)
 | .lapps e=>.cMV (.slice e (.int .u8)) .str
 | .cN3 e t=>.cMV (.slice e t) (.cMV tI t)
 | .lit _ t n=>aN9 t n
 | .rep _ _ _=>tI
 | .b2s e=>.slice e (.int .u8)
 | .eqv _ t=>.cMV t t
def Prim.oty:Prim->Ty
 | .ar _ k | .arw _ k | .quo k | .rem k | .bits _ k | .mn k | .mx k | .shr k _ | .shl k _ | .neg k | .conv _ k=>.int k
 | .cmp _ _ | .not | .seq _ | .eqv _ _=>.bool
 | .sadd | .ssub | .b2s _=>.str
 | .slen | .cMZ _ _=>tI
 | .sidx=>.int .u8
 | .cN0 _ t=>t
 | .cN1 e t | .cN2 e t _ | .cN3 e t | .lit e t _ | .rep e t _=>.slice e t
 | .lapps e=>.slice e (.int .u8)
def aRQ (op:BinOp) (k:IntKind) (x y:Int):Int :=
 let a:=BitVec.ofInt k.bits x
 let b:=BitVec.ofInt k.bits y
 k.wrap ((match op with | .and=>a &&& b | .or=>a ||| b | .xor=>a ^^^ b|_=>a &&& ~~~b).toNat:Int)
def Prim.cond:(p:Prim)->p.ity.D->Prop
 | .ar op k,v=>inK k (arI op v.1 v.2)
 | .quo k,v=>@Ne Int v.2 0/\inK k ((v.1:Int).tdiv v.2)
 | .rem _,v=>@Ne Int v.2 0
 | .shr _ _,v | .shl _ _,v=>@LE.le Int _ 0 v.2
 | .neg k,v=>inK k (negI v)
 | .sadd,v=>(v.1:ByteArray).size+(v.2:ByteArray).size<=maxLen
 | .sidx,v=>@LE.le Int _ 0 v.2/\@LT.lt Int _ v.2 (v.1:ByteArray).size
 | .ssub,v=>@LE.le Int _ 0 v.2.1/\@LE.le Int _ v.2.1 v.2.2/\@LE.le Int _ v.2.2 (v.1:ByteArray).size
 | .cN0 _ t,v=>@LE.le Int _ 0 v.2/\@LT.lt Int _ v.2 (v.1:List t.D).length
 | .cN1 _ t,v=>@LE.le Int _ 0 v.2.1/\@LE.le Int _ v.2.1 v.2.2/\@LE.le Int _ v.2.2 (v.1:List t.D).length
 | .cN2 _ t b,v=>((v.1:List t.D).length+(v.2:List t.D).length) * b<=140737488355328/\(v.1:List t.D).length+(v.2:List t.D).length<=maxLen
 | .lapps _,v=>(v.1:List Int).length+(v.2:ByteArray).size<=140737488355328
 | .cN3 _ t,v=>@LE.le Int _ 0 v.2.1/\@LT.lt Int _ v.2.1 (v.1:List t.D).length
 | .rep _ _ b,v=>repC b v
 | _,_=>True
def Prim.fn:(p:Prim)->p.ity.D->p.oty.D
 | .ar op _,v=>arI op v.1 v.2
 | .arw op k,v=>k.wrap (arI op v.1 v.2)
 | .quo _,v=>(v.1:Int).tdiv v.2
 | .rem _,v=>(v.1:Int).tmod v.2
 | .shr k _,v=>(v.1:Int).fdiv (2 ^ min (v.2:Int).toNat k.bits)
 | .shl k _,v=>k.wrap ((v.1:Int) * 2 ^ min (v.2:Int).toNat k.bits)
 | .bits op k,v=>aRQ op k v.1 v.2
 | .cmp op _,v=>cGG op v.1 v.2
 | .not,v=>!(v:Bool)
 | .neg _,v=>negI v
 | .conv _ k,v=>k.wrap (v:Int)
 | .mn _,v=>minI v.1 v.2
 | .mx _,v=>maxI v.1 v.2
 | .sadd,v=>(v.1:ByteArray)++v.2
 | .seq n,v=>(decide ((v.1:ByteArray)=v.2)) != n
 | .slen,v=>((v:ByteArray).size:Int)
 | .sidx,v=>lD v.1 v.2
 | .ssub,v=>(v.1:ByteArray).extract (v.2.1:Int).toNat (v.2.2:Int).toNat
 | .cMZ _ t,v=>((v:List t.D).length:Int)
 | .cN0 _ t,v=>(v.1:List t.D).getD (v.2:Int).toNat (aK t)
 | .cN1 _ t,v=>((v.1:List t.D).take (v.2.2:Int).toNat).drop (v.2.1:Int).toNat
 | .cN2 _ t _,v=>(v.1:List t.D)++v.2
 | .lapps _,v=>(v.1:List Int)++lM v.2
 | .cN3 _ t,v=>(v.1:List t.D).set (v.2.1:Int).toNat v.2.2
 | .lit _ t n,v=>aPM t n v
 | .rep _ t _,v=>List.replicate (v:Int).toNat (aK t)
 | .b2s _,v=>jG v
 | .eqv n t,v=>(aES t v.1 v.2) != n
structure MV where
 ag:Bool
 t:Ty
 fl:List Nat
inductive AM where
 | val (m:MV)
 | box (T:TypeId) (m:MV)
def AM.mv:AM->MV
 | .val m=>m
 | .box _ m=>m
structure Con where
 f:FuncId
 argTy:Ty
 resTy:Ty
 ams:List AM
 rms:List MV
 alias:Bool
 bx:Option TypeId
 pre:argTy.D->Prop
 fn:argTy.D->resTy.D
def Con.ras (C:Con):List AM:=match C.bx,C.rms with
 | some T,[m]=>[.box T m]
 | _,ms=>ms.map .val
theorem Con.ras_none {C:Con} (h:C.bx=none):C.ras=C.rms.map .val:=by unfold Con.ras;rw[h]
inductive T where
 | cMW (p:Prim) (a:Ar) (k:T)
 | call (c:Nat) (a:Ar) (k:T)
 | ite (a:Ar) (x y:T)
 | loop (t:Ty) (a:Ar) (body:T)
 | cMY (d:Nat) (a:Ar)
 | ret (a:Ar)
def T.wp (Cs:List Con):T->List SV->List (SV->Prop)->(SV->Prop)->Prop
 | .cMW p a k,env,L,Q=>p.cond ((a.val env).as p.ity)/\(okD p.oty (p.fn ((a.val env).as p.ity))->k.wp Cs (env++[⟨p.oty,p.fn ((a.val env).as p.ity)⟩]) L Q)
 | .call c a k,env,L,Q=>match Cs[c]? with
  | some C=>C.pre ((a.val env).as C.argTy)/\(okD C.resTy (C.fn ((a.val env).as C.argTy))->k.wp Cs (env++[⟨C.resTy,C.fn ((a.val env).as C.argTy)⟩]) L Q)
  | none=>False
 | .ite a x y,env,L,Q=>((a.val env).as .bool=true->x.wp Cs env L Q)/\((a.val env).as .bool=false->y.wp Cs env L Q)
 | .loop t a body,env,L,Q=>∃(I:t.D->Prop) (μ:t.D->Nat),I ((a.val env).as t) /\
   ∀x,okD t x->I x->body.wp Cs (env++[⟨t,x⟩]) ((fun v=>I (v.as t)/\μ (v.as t)<μ x)::L) Q
 | .cMY d a,env,L,Q=>match L[d]? with
  | some I=>I (a.val env)
  | none=>False
 | .ret a,env,L,Q=>Q (a.val env)
def SlG {α:Type} (G:Nat->Prop) (n:Nat) (R:List Value->α->Prop) (w:World) (p:Option Addr) (len cap:Nat) (l:List α):Prop :=
 len=l.length/\len<=cap/\cap<=maxLen/\(p=none->cap=0) /\
  ∀k (h:k<l.length),∃b off,p=some ⟨b,off,none⟩/\G b/\∃cs,cs.length=n/\(∀j (hj:j<cs.length),w.cell? ⟨b,off+k * n+j,none⟩=some cs[j])/\R cs l[k]
def kS (G:Nat->Prop):(t:Ty)->World->List Value->t.D->Prop
 | .int k,_,cs,x=>cs=[.int k x]/\(Lit.int k x).wf=true
 | .bool,_,cs,x=>cs=[.bool x]
 | .str,_,cs,s=>cs=[.string s]/\s.size<=maxLen
 | .slice _ t,w,cs,l=>∃p len cap,cs=[.slice p len cap]/\SlG G t.n (kS G t w) w p len cap l
 | .cMV a b,w,cs,x=>∃c1 c2,cs=c1++c2/\kS G a w c1 x.1/\kS G b w c2 x.2
theorem SlG.mono {α:Type} {n:Nat} {G G':Nat->Prop} {R R':List Value->α->Prop} {w w':World} {p:Option Addr} {len cap:Nat} {l:List α}
  (hG:∀b,G b->G' b) (hw:∀b,G b->w'.heap[b]?=w.heap[b]?) (hR:∀cs x,R cs x->R' cs x) (h:SlG G n R w p len cap l):SlG G' n R' w' p len cap l:=by
 obtain⟨h1,h2,h3,h4,h5⟩:=h
 refine⟨h1,h2,h3,h4,fun k hk=>?_⟩
 obtain⟨b,off,hp,hb,cs,hn,hc,hr⟩:=h5 k hk
 exact⟨b,off,hp,hG b hb,cs,hn,fun j hj=>(World.cell?_of_block (w:=w) (hw b hb)).trans (hc j hj),hR _ _ hr⟩
theorem kS.mono {G G':Nat->Prop} {w w':World} (hG:∀b,G b->G' b) (hw:∀b,G b->w'.heap[b]?=w.heap[b]?):{t:Ty}->{cs:List Value}->{d:t.D}->kS G t w cs d->kS G' t w' cs d:=by
 intro t
 induction t with
 | int k=>intro cs d h;exact h
 | bool=>intro cs d h;exact h
 | str=>intro cs d h;exact h
 | slice e t ih =>
  intro cs d h
  obtain⟨p,len,cap,rfl,h⟩:=h
  exact⟨p,len,cap,rfl,h.mono hG hw (fun cs x=>ih)⟩
 | cMV a b iha ihb =>
  intro cs d h
  obtain⟨c1,c2,rfl,h1,h2⟩:=h
  exact⟨c1,c2,rfl,iha h1,ihb h2⟩
theorem kS.length {G:Nat->Prop} {w:World}:{t:Ty}->{cs:List Value}->{d:t.D}->kS G t w cs d->cs.length=t.n:=by
 intro t
 induction t with
 | int k=>intro cs d h;obtain⟨rfl,_⟩:=h;rfl
 | bool=>intro cs d h;cases h;rfl
 | str=>intro cs d h;obtain⟨rfl,_⟩:=h;rfl
 | slice e t ih=>intro cs d h;obtain⟨p,len,cap,rfl,_⟩:=h;rfl
 | cMV a b iha ihb =>
  intro cs d h
  obtain⟨c1,c2,rfl,h1,h2⟩:=h
  simp[Ty.n,iha h1,ihb h2]
theorem aXW {k:IntKind} {x:Int} (h:(Lit.int k x).wf=true):inK k x:=by
 cases k<;>simp only[Lit.wf,inK,IntKind.min,IntKind.max,IntKind.signed,IntKind.bits,decide_eq_true_eq,Bool.and_eq_true] at h⊢<;>simp_all<;>omega
theorem kS.okD {G:Nat->Prop} {w:World}:{t:Ty}->{cs:List Value}->{d:t.D}->kS G t w cs d->okD t d:=by
 intro t
 induction t with
 | int k=>intro cs d h;exact aXW h.2
 | bool=>intro cs d h;trivial
 | str=>intro cs d h;exact h.2
 | slice e t ih =>
  intro cs d h
  obtain⟨p,len,cap,rfl,h1,h2,h3,h4,h5⟩:=h
  refine⟨by omega,fun y hy=>?_⟩
  obtain⟨k,hk,rfl⟩:=List.mem_iff_getElem.1 hy
  obtain⟨b,off,_,_,cs,_,_,hr⟩:=h5 k hk
  exact ih hr
 | cMV a b iha ihb =>
  intro cs d h
  obtain⟨c1,c2,rfl,h1,h2⟩:=h
  exact⟨iha h1,ihb h2⟩
theorem kS.of_rd {w:World}:{t:Ty}->{cs:List Value}->{d:t.D}->rd t w cs d->kS (fun b=>b<w.heap.size) t w cs d:=by
 intro t
 induction t with
 | int k=>intro cs d h;exact h
 | bool=>intro cs d h;exact h
 | str=>intro cs d h;exact h
 | slice e t ih =>
  intro cs d h
  obtain⟨p,len,cap,rfl,h1,h2,h3,h4,h5⟩:=h
  refine⟨p,len,cap,rfl,h1,h2,h3,h4,fun k hk=>?_⟩
  obtain⟨b,off,hp,hb,cs,hn,hc,hr⟩:=h5 k hk
  exact⟨b,off,hp,hb,cs,hn,hc,ih hr⟩
 | cMV a b iha ihb =>
  intro cs d h
  obtain⟨c1,c2,rfl,h1,h2⟩:=h
  exact⟨c1,c2,rfl,iha h1,ihb h2⟩
theorem kS.rd {G:Nat->Prop} {w:World} (hG:∀b,G b->b<w.heap.size):{t:Ty}->{cs:List Value}->{d:t.D}->kS G t w cs d->rd t w cs d:=by
 intro t
 induction t with
 | int k=>intro cs d h;exact h
 | bool=>intro cs d h;exact h
 | str=>intro cs d h;exact h
 | slice e t ih =>
  intro cs d h
  obtain⟨p,len,cap,rfl,h1,h2,h3,h4,h5⟩:=h
  refine⟨p,len,cap,rfl,h1,h2,h3,h4,fun k hk=>?_⟩
  obtain⟨b,off,hp,hb,cs,hn,hc,hr⟩:=h5 k hk
  exact⟨b,off,hp,hG b hb,cs,hn,hc,ih hr⟩
 | cMV a b iha ihb =>
  intro cs d h
  obtain⟨c1,c2,rfl,h1,h2⟩:=h
  exact⟨c1,c2,rfl,iha h1,ihb h2⟩
theorem kS.of_rep {w:World}:(t:Ty)->(cs:List Value)->(d:t.D)->(bl:List Nat)->rep t w cs d bl->kS (fun b=>b∈bl) t w cs d:=by
 intro t
 induction t with
 | int k=>intro cs d bl h;exact⟨h.1,h.2.1⟩
 | bool=>intro cs d bl h;exact h.1
 | str=>intro cs d bl h;exact⟨h.1,h.2.1⟩
 | slice e t ih =>
  intro cs d bl h
  obtain⟨v,xs,bl',rfl,ho,hr,rfl⟩:=h
  obtain⟨h1,⟨rfl,hn⟩|⟨g,cap,cur,rfl,hg,hh,hc,hm,hs,hx⟩⟩:=ho
  ·exact⟨none,0,0,rfl,hn.symm,Nat.le_refl _,Nat.zero_le _,fun _=>rfl,fun k hk=>by omega⟩
  ·refine⟨some ⟨g,0,none⟩,d.length,cap,rfl,rfl,hc,hm,(fun h=>by cases h),fun k hk=>?_⟩
   obtain⟨xs1,c,xs2,b1,bk,b2,he,hl,hcl,hbl,_,hR,_⟩:=hr.split k hk
   refine⟨g,0,rfl,by simp[Value.ownBlock],c,hcl,fun j hj=>?_,(ih _ _ _ hR).mono (fun b hb=>by rw[hbl];simp[hb]) (fun _ _=>rfl)⟩
   have h2:xs[k * t.n+j]?=some c[j]:=by
    rw[he,List.getElem?_append_right (by omega),List.getElem?_append_left (by omega),hl,Nat.add_sub_cancel_left,List.getElem?_eq_getElem hj]
   have h3:cur[k * t.n+j]?=some c[j]:=by
    rw[<-hx,List.getElem?_take] at h2
    split at h2
    ·simpa using h2
    ·cases h2
   simp[World.cell?,hh,h3]
 | cMV a b iha ihb =>
  intro cs d bl h
  obtain⟨c1,c2,b1,b2,rfl,rfl,h1,h2⟩:=h
  exact⟨c1,c2,rfl,(iha _ _ _ h1).mono (fun b hb=>by simp[hb]) (fun _ _=>rfl),(ihb _ _ _ h2).mono (fun b hb=>by simp[hb]) (fun _ _=>rfl)⟩
def wU (G:Nat->Prop) (w:World) (e:TypeId) (t:Ty) (v:Value) (l:List t.D):Prop :=
 (∃p,v = .slice p 0 0/\l=[]) \/
  ∃b cap cur,v = .slice (some ⟨b,0,none⟩) l.length cap/\0<cap/\w.heap[b]?=some (.cells cur e (0,0))/\l.length<=cap/\cap<=maxLen/\cur.size=cap * t.n /\
   ∀k (h:k<l.length),kS G t w ((cur.toList.drop (k * t.n)).take t.n) l[k]
theorem wU.mono {G G':Nat->Prop} {w w':World} {e:TypeId} {t:Ty} {v:Value} {l:List t.D} (hG:∀b,G b->G' b) (hw:∀b,G b->w'.heap[b]?=w.heap[b]?)
  (hb:∀b n c,0<c->v = .slice (some ⟨b,0,none⟩) n c->w'.heap[b]?=w.heap[b]?) (h:wU G w e t v l):wU G' w' e t v l:=by
 rcases h with h|⟨b,cap,cur,hv,h0,hh,h1,h2,h3,h4⟩
 ·exact .inl h
 ·exact .inr ⟨b,cap,cur,hv,h0,(hb b _ _ h0 hv).trans hh,h1,h2,h3,fun k hk=>(h4 k hk).mono hG hw⟩
theorem wU.rd {G G':Nat->Prop} {w:World} {e:TypeId} {t:Ty} {v:Value} {l:List t.D} (hG:∀b,G b->G' b)
  (hb:∀b n c,0<c->v = .slice (some ⟨b,0,none⟩) n c->G' b) (h:wU G w e t v l):kS G' (.slice e t) w [v] l:=by
 rcases h with⟨p,rfl,rfl⟩|⟨b,cap,cur,rfl,h0,hh,h1,h2,h3,h4⟩
 ·exact⟨p,0,0,rfl,rfl,Nat.le_refl _,Nat.zero_le _,fun _=>rfl,fun k hk=>by simp at hk⟩
 ·refine⟨_,_,_,rfl,rfl,h1,h2,(fun h=>by cases h),fun k hk=>?_⟩
  have hr:=h4 k hk
  have hl:=hr.length
  refine⟨b,0,rfl,hb b _ _ h0 rfl,_,hl,fun j hj=>?_,hr.mono hG (fun _ _=>rfl)⟩
  have hj':j<t.n:=by omega
  simp only[World.cell?,hh,Option.isSome_none,Bool.false_eq_true,if_false,Nat.zero_add,List.getElem_take,List.getElem_drop]
  rw[<-Array.getElem?_toList,List.getElem?_eq_getElem]
def Un:(t:Ty)->World->List Value->t.D->List Nat->Prop
 | .int k,_,cs,x,bl=>cs=[.int k x]/\(Lit.int k x).wf=true/\bl=[]
 | .bool,_,cs,x,bl=>cs=[.bool x]/\bl=[]
 | .str,_,cs,s,bl=>cs=[.string s]/\s.size<=maxLen/\bl=[]
 | .slice e t,w,cs,l,bl=>(∃p,cs=[.slice p 0 0]/\l=[]/\bl=[]) \/
  ∃b off cap cur xs bl',off=0/\cs=[.slice (some ⟨b,off,none⟩) l.length cap]/\w.heap[b]?=some (.cells cur e (0,0))/\l.length<=cap/\cap<=maxLen/\off+l.length * t.n<=cur.size /\
   xs=(cur.toList.drop off).take (l.length * t.n)/\pC t.n (Un t w) xs l bl'/\bl=b::bl'
 | .cMV a b,w,cs,x,bl=>∃c1 c2 b1 b2,cs=c1++c2/\bl=b1++b2/\Un a w c1 x.1 b1/\Un b w c2 x.2 b2
theorem Un.keep {w w':World}:(t:Ty)->(cs:List Value)->(d:t.D)->(bl:List Nat)->(∀b∈bl,w'.heap[b]?=w.heap[b]?)->Un t w cs d bl->Un t w' cs d bl:=by
 intro t
 induction t with
 | int k=>intro cs d bl hb h;exact h
 | bool=>intro cs d bl hb h;exact h
 | str=>intro cs d bl hb h;exact h
 | slice e t ih =>
  intro cs d bl hb h
  rcases h with h|⟨b,off,cap,cur,xs,bl',h0,h1,h2,h3,h4,h5,h6,h7,rfl⟩
  ·exact .inl h
  ·exact .inr ⟨b,off,cap,cur,xs,bl',h0,h1,(hb b (by simp)).trans h2,h3,h4,h5,h6,h7.mono (fun c x b hk hx=>ih c x b (fun k hkb=>hb k (by simp[hk k hkb])) hx),rfl⟩
 | cMV a b iha ihb =>
  intro cs d bl hb h
  obtain⟨c1,c2,b1,b2,rfl,rfl,h1,h2⟩:=h
  exact⟨c1,c2,b1,b2,rfl,rfl,iha _ _ _ (fun k hk=>hb k (by simp[hk])) h1,ihb _ _ _ (fun k hk=>hb k (by simp[hk])) h2⟩
theorem Un.length {w:World}:{t:Ty}->{cs:List Value}->{d:t.D}->{bl:List Nat}->Un t w cs d bl->cs.length=t.n:=by
 intro t
 induction t with
 | int k=>intro cs d bl h;simp[h.1,Ty.n]
 | bool=>intro cs d bl h;simp[h.1,Ty.n]
 | str=>intro cs d bl h;simp[h.1,Ty.n]
 | slice e t ih =>
  intro cs d bl h
  rcases h with⟨p,rfl,_⟩|⟨b,off,cap,cur,xs,bl',_,rfl,_⟩<;>rfl
 | cMV a b iha ihb =>
  intro cs d bl h
  obtain⟨c1,c2,b1,b2,rfl,rfl,h1,h2⟩:=h
  simp[Ty.n,iha h1,ihb h2]
theorem Un.rdg {w:World}:(t:Ty)->(cs:List Value)->(d:t.D)->(bl:List Nat)->Un t w cs d bl->kS (fun b=>b∈bl) t w cs d:=by
 intro t
 induction t with
 | int k=>intro cs d bl h;exact⟨h.1,h.2.1⟩
 | bool=>intro cs d bl h;exact h.1
 | str=>intro cs d bl h;exact⟨h.1,h.2.1⟩
 | slice e t ih =>
  intro cs d bl h
  rcases h with⟨p,rfl,rfl,rfl⟩|⟨b,off,cap,cur,xs,bl',_,rfl,h2,h3,h4,h5,rfl,h7,rfl⟩
  ·exact⟨p,0,0,rfl,rfl,Nat.le_refl _,Nat.zero_le _,fun _=>rfl,fun k hk=>by simp at hk⟩
  ·refine⟨_,_,_,rfl,rfl,h3,h4,(fun h=>by cases h),fun k hk=>?_⟩
   obtain⟨xs1,c,xs2,b1,bk,b2,he,hl,hcl,hbl,_,hR,_⟩:=h7.split k hk
   refine⟨b,off,rfl,by simp,c,hcl,fun j hj=>?_,(ih _ _ _ hR).mono (fun b hb=>by rw[hbl];simp[hb]) (fun _ _=>rfl)⟩
   have h8:((cur.toList.drop off).take (d.length * t.n))[k * t.n+j]?=some c[j]:=by
    rw[he,List.getElem?_append_right (by omega),List.getElem?_append_left (by omega),hl,Nat.add_sub_cancel_left,List.getElem?_eq_getElem hj]
   rw[List.getElem?_take] at h8
   split at h8
   ·rw[List.getElem?_drop,Array.getElem?_toList] at h8
    simp only[World.cell?,h2,Option.isSome_none,Bool.false_eq_true,if_false]
    rw[<-h8,Nat.add_assoc]
   ·cases h8
 | cMV a b iha ihb =>
  intro cs d bl h
  obtain⟨c1,c2,b1,b2,rfl,rfl,h1,h2⟩:=h
  exact⟨c1,c2,rfl,(iha _ _ _ h1).mono (fun b hb=>by simp[hb]) (fun _ _=>rfl),(ihb _ _ _ h2).mono (fun b hb=>by simp[hb]) (fun _ _=>rfl)⟩
theorem Un.of_rep {w:World}:(t:Ty)->(cs:List Value)->(d:t.D)->(bl:List Nat)->rep t w cs d bl->Un t w cs d bl:=by
 intro t
 induction t with
 | int k=>intro cs d bl h;exact h
 | bool=>intro cs d bl h;exact h
 | str=>intro cs d bl h;exact h
 | slice e t ih =>
  intro cs d bl h
  obtain⟨v,xs,bl',rfl,⟨h1,ho⟩,hr,rfl⟩:=h
  have hr':=hr.mono (R':=Un t w) (fun c x b _ hx=>ih c x b hx)
  rcases ho with⟨rfl,hn⟩|⟨g,cap,cur,rfl,hg,hh,hc,hm,hs,hx⟩
  ·refine .inl ⟨none,rfl,List.eq_nil_of_length_eq_zero hn,?_⟩
   cases d with
   | nil=>simp[Value.ownBlock,hr.2]
   | cons x l=>simp at hn
  ·refine .inr ⟨g,0,cap,cur,xs,bl',rfl,rfl,hh,hc,hm,?_,?_,hr',by simp[Value.ownBlock]⟩
   ·rw[hs,Nat.zero_add];exact Nat.mul_le_mul_right _ hc
   ·simpa using hx.symm
 | cMV a b iha ihb =>
  intro cs d bl h
  obtain⟨c1,c2,b1,b2,rfl,rfl,h1,h2⟩:=h
  exact⟨c1,c2,b1,b2,rfl,rfl,iha _ _ _ h1,ihb _ _ _ h2⟩
theorem Un.flat {w:World} {G:Nat->Prop}:{t:Ty}->t.flat=true->{cs:List Value}->{d:t.D}->kS G t w cs d->Un t w cs d []:=by
 intro t
 induction t with
 | int k=>intro hf cs d h;exact⟨h.1,h.2,rfl⟩
 | bool=>intro hf cs d h;exact⟨h,rfl⟩
 | str=>intro hf cs d h;exact⟨h.1,h.2,rfl⟩
 | slice e t ih=>intro hf;cases hf
 | cMV a b iha ihb =>
  intro hf cs d h
  simp only[Ty.flat,Bool.and_eq_true] at hf
  obtain⟨c1,c2,rfl,h1,h2⟩:=h
  exact⟨c1,c2,[],[],rfl,rfl,iha hf.1 h1,ihb hf.2 h2⟩
theorem kS.flat {w w':World} {G G':Nat->Prop}:{t:Ty}->t.flat=true->{cs:List Value}->{d:t.D}->kS G t w cs d->kS G' t w' cs d:=by
 intro t
 induction t with
 | int k=>intro hf cs d h;exact h
 | bool=>intro hf cs d h;exact h
 | str=>intro hf cs d h;exact h
 | slice e t ih=>intro hf;cases hf
 | cMV a b iha ihb =>
  intro hf cs d h
  simp only[Ty.flat,Bool.and_eq_true] at hf
  obtain⟨c1,c2,rfl,h1,h2⟩:=h
  exact⟨c1,c2,rfl,iha hf.1 h1,ihb hf.2 h2⟩
def aWI (w:World) (e:TypeId) (t:Ty) (v:Value) (l:List t.D) (bl:List Nat):Prop :=
 (∃p,v = .slice p 0 0/\bl=[]) \/
  ∃b n cap cur,v = .slice (some ⟨b,0,none⟩) n cap/\0<cap/\w.heap[b]?=some (.cells cur e (0,0))/\pC t.n (Un t w) (cur.toList.take (l.length * t.n)) l bl
inductive Leaf where
 | d (a:Ar) (t:Ty) (fr:Bool) (k:Nat)
 | own (r:Nat)
 | nl (e:TypeId) (t:Ty)
inductive Sh where
 | no
 | one (l:Leaf)
 | agg (ls:List Leaf)
 | nilS
 | pbox (r off:Nat)
 | pelem (r:Nat) (e:TypeId) (t:Ty) (ix:Ar) (off:Nat)
 | cut (r:Nat) (e:TypeId) (t:Ty) (ix:Ar) (suf:Bool)
 | pro (ls:List Leaf)
 | tup (ls:List Sh)
 | fn (f:FuncId)
 | und
inductive Ent where
 | box (T:TypeId) (ls:List Leaf)
 | sl (e:TypeId) (t:Ty) (a:Ar) (fr uq:Bool)
 | uq (t:Ty) (a:Ar) (fr:Bool)
 | arr (e:TypeId) (t:Ty) (a:Ar) (fr:Bool) (ls:List Leaf)
structure Cx where
 A:Nat->Prop
 O0:List Nat
 U0:List Nat
 w0:World
 hA:∀b,A b->b<w0.heap.size
 tb:bNA.p w0/\∀b∈bNA.bl,b ∉ O0
def Cx.B (X:Cx):Nat:=X.w0.heap.size
def Cx.F0 (X:Cx):List Nat:=X.O0++X.U0
def Gd (X:Cx) (O:List Nat) (w:World) (fr:Bool) (b:Nat):Prop:=b<w.heap.size/\b ∉ O/\¬X.A b/\(fr=true->X.B<=b\/b∈X.F0)
abbrev Gh:=Nat->Option Value
def kJ (X:Cx) (γ:Gh) (O:List Nat) (env:List SV) (w:World):Leaf->Value->Prop
 | .d a t fr k,v=>a.bd env.length=true/\kS (Gd X O w fr) t w [v] ((a.val env).as t)/\(k≠0->γ k=some v)
 | .own r,v=>γ r=some v
 | .nl e t,v=>∃p,v = .slice p 0 0
def bG (X:Cx) (γ:Gh) (O:List Nat) (env:List SV) (w:World):List Leaf->List Value->Prop
 | [],cs=>cs=[]
 | l::ls,cs=>∃c cs',cs=c::cs'/\kJ X γ O env w l c/\bG X γ O env w ls cs'
def uQ (X:Cx) (γ:Gh) (O:List Nat) (env:List SV) (w:World):Sh->Value->Prop
 | .no,_=>True
 | .one l,v=>kJ X γ O env w l v
 | .agg ls,v=>∃cs,v = .agg cs/\bG X γ O env w ls cs.toList
 | .nilS,v=>v = .slice none 0 0
 | .pbox r off,v=>∃b,γ r=some (.pointer (some ⟨b,0,none⟩))/\v = .pointer (some ⟨b,off,none⟩)
 | .pelem r e t ix off,v=>ix.bd env.length=true/\∃b len cap,γ r=some (.slice (some ⟨b,0,none⟩) len cap)/\0<=(ix.val env).as tI/\(ix.val env).as tI<(len:Int) /\
  v = .pointer (some ⟨b,((ix.val env).as tI).toNat * t.n+off,none⟩)
 | .cut r e t ix suf,v=>ix.bd env.length=true/\∃b len cap,γ r=some (.slice (some ⟨b,0,none⟩) len cap)/\0<=(ix.val env).as tI/\(ix.val env).as tI<=(len:Int) /\
  v=(if suf=true then .slice (if cap=((ix.val env).as tI).toNat then some ⟨b,0,none⟩ else some ⟨b,((ix.val env).as tI).toNat * t.n,none⟩) (len - ((ix.val env).as tI).toNat) (cap - ((ix.val env).as tI).toNat)
   else .slice (some ⟨b,0,none⟩) ((ix.val env).as tI).toNat cap)
 | .pro ls,v=>∃b off cs,v = .pointer (some ⟨b,off,none⟩)/\bG X γ O env w ls cs/\(∀j (hj:j<cs.length),w.cell? ⟨b,off+j,none⟩=some cs[j])/\Gd X O w false b
 | .fn f,v=>v = .func (.func f) #[] #[]
 | .und,v=>v=undef
 | .tup _,_=>False
def xW (X:Cx) (γ:Gh) (O:List Nat) (env:List SV) (w:World):List Sh->List Value->Prop
 | [],cs=>cs=[]
 | l::ls,cs=>∃c cs',cs=c::cs'/\uQ X γ O env w l c/\xW X γ O env w ls cs'
def bU (X:Cx) (γ:Gh) (O:List Nat) (env:List SV) (w:World):Sh->Value->Prop
 | .tup ls,v=>∃vs,v = .tuple vs/\xW X γ O env w ls vs.toList
 | s,v=>uQ X γ O env w s v
abbrev Bt:=Nat->List Nat
def jS (X:Cx) (γ:Gh) (β:Bt) (O:List Nat) (env:List SV) (w:World) (r:Nat):Ent->Prop
 | .box T ls=>∃b c,γ r=some (.pointer (some ⟨b,0,none⟩))/\w.heap[b]?=some (.cells c T (0,0))/\bG X γ O env w ls c.toList/\β r=[]
 | .sl e t a fr uq=>a.bd env.length=true/\∃v,γ r=some v/\wU (Gd X O w fr) w e t v ((a.val env).as (.slice e t)) /\
  (uq=true->aWI w e t v ((a.val env).as (.slice e t)) (β r))/\(uq=false->β r=[])
 | .uq t a fr=>a.bd env.length=true/\∃v,γ r=some v/\Un t w [v] ((a.val env).as t) (β r)
 | .arr e t a fr ls=>a.bd env.length=true/\∃v,γ r=some v/\wU (Gd X O w fr) w e t v ((a.val env).as (.slice e t))/\β r=[] /\
  ∃b n cap cur,v = .slice (some ⟨b,0,none⟩) n cap/\0<cap/\w.heap[b]?=some (.cells cur e (0,0))/\bG X γ O env w ls (cur.toList.take (n * t.n))
def lY:Value->List Nat
 | .pointer (some a)=>[a.block]
 | .slice (some a) _ c=>if c=0 then [] else [a.block]
 | _=>[]
def oC (γ:Gh):Nat×Ent->List Nat
 | (_,.uq _ _ _)=>[]
 | (r,_)=>match γ r with
  | some v=>lY v
  | none=>[]
def Os (γ:Gh) (es:List (Nat×Ent)):List Nat:=es.flatMap (oC γ)
def Us (β:Bt) (es:List (Nat×Ent)):List Nat:=es.flatMap fun p=>β p.1
structure MemOK (X:Cx) (γ:Gh) (β:Bt) (env:List SV) (w:World) (es:List (Nat×Ent)):Prop where
 nd:(Os γ es++Us β es).Nodup
 at':∀b∈Os γ es,b<w.heap.size/\(X.B<=b\/b∈X.O0)/\¬X.A b
 good:∀b∈Us β es,Gd X (Os γ es) w true b
 ent:∀p∈es,jS X γ β (Os γ es) env w p.1 p.2
structure FrameOK (X:Cx) (w:World):Prop where
 os:w.os=X.w0.os
 tape:w.tape=X.w0.tape
 output:w.output=X.w0.output
 size:X.w0.heap.size<=w.heap.size
 block:∀b,b<X.B->b ∉ X.O0->w.heap[b]?=X.w0.heap[b]?
theorem FrameOK.tab {X:Cx} {w:World} (h:FrameOK X w):bNA.p w:=bNA.keep _ _ X.tb.1 fun b hb=>h.block b (bNA.lt _ X.tb.1 b hb) (X.tb.2 b hb)
structure Later (X:Cx) (γ:Gh) (O:List Nat) (env:List SV) (w:World) (γ':Gh) (O':List Nat) (env':List SV) (w':World):Prop where
 gh:∀r v,γ r=some v->γ' r=some v
 env:∃ext,env'=env++ext
 size:w.heap.size<=w'.heap.size
 block:∀b,b<w.heap.size->b ∉ O->¬X.A b->w'.heap[b]?=w.heap[b]?/\b ∉ O'
section
variable {X:Cx} {γ γ':Gh} {O O':List Nat} {env env':List SV} {w w':World}
theorem Later.refl:Later X γ O env w γ O env w:=⟨fun _ _ h=>h,⟨[],by simp⟩,Nat.le_refl _,fun b h1 h2 _=>⟨rfl,h2⟩⟩
theorem Later.trans {γ2:Gh} {O2:List Nat} {env2:List SV} {w2:World} (h:Later X γ O env w γ' O' env' w') (k:Later X γ' O' env' w' γ2 O2 env2 w2):Later X γ O env w γ2 O2 env2 w2:=by
 refine⟨fun r v hr=>k.gh r v (h.gh r v hr),?_,Nat.le_trans h.size k.size,fun b h1 h2 h3=>?_⟩
 ·obtain⟨e1,rfl⟩:=h.env
  obtain⟨e2,rfl⟩:=k.env
  exact⟨e1++e2,by simp⟩
 ·obtain⟨a1,a2⟩:=h.block b h1 h2 h3
  obtain⟨b1,b2⟩:=k.block b (Nat.lt_of_lt_of_le h1 h.size) a2 h3
  exact⟨b1.trans a1,b2⟩
theorem Later.gd (h:Later X γ O env w γ' O' env' w') {fr:Bool} {b:Nat} (hb:Gd X O w fr b):Gd X O' w' fr b/\w'.heap[b]?=w.heap[b]?:=by
 obtain⟨h1,h2,h3,h4⟩:=hb
 obtain⟨a1,a2⟩:=h.block b h1 h2 h3
 exact⟨⟨Nat.lt_of_lt_of_le h1 h.size,a2,h3,h4⟩,a1⟩
theorem Later.bd (h:Later X γ O env w γ' O' env' w') {a:Ar} (ha:a.bd env.length=true):a.bd env'.length=true/\a.val env'=a.val env:=by
 obtain⟨ext,rfl⟩:=h.env
 exact⟨Ar.bd_mono (by simp) a ha,Ar.val_ext a ha⟩
theorem Later.rdg (h:Later X γ O env w γ' O' env' w') {fr:Bool} {t:Ty} {cs:List Value} {d:t.D} (hr:kS (Gd X O w fr) t w cs d):kS (Gd X O' w' fr) t w' cs d :=
 hr.mono (fun b hb=>(h.gd hb).1) (fun b hb=>(h.gd hb).2)
theorem kJ.later (h:Later X γ O env w γ' O' env' w'):{l:Leaf}->{v:Value}->kJ X γ O env w l v->kJ X γ' O' env' w' l v
 | .d a t fr k,v,⟨h1,h2,h3⟩=>by
  obtain⟨b1,b2⟩:=h.bd h1
  exact⟨b1,by rw[b2];exact h.rdg h2,fun hk=>h.gh _ _ (h3 hk)⟩
 | .own r,v,hl=>h.gh _ _ hl
 | .nl e t,v,hl=>hl
theorem bG.later (h:Later X γ O env w γ' O' env' w'):{ls:List Leaf}->{cs:List Value}->bG X γ O env w ls cs->bG X γ' O' env' w' ls cs
 | [],_,hl=>hl
 | l::ls,_,⟨c,cs',hc,h1,h2⟩=>⟨c,cs',hc,kJ.later h h1,bG.later h h2⟩
theorem uQ.later (h:Later X γ O env w γ' O' env' w') {s:Sh} {v:Value} (hv:uQ X γ O env w s v):uQ X γ' O' env' w' s v:=by
 cases s with
 | no=>trivial
 | one l=>exact kJ.later h hv
 | agg ls=>obtain⟨cs,rfl,hl⟩:=hv;exact⟨cs,rfl,bG.later h hl⟩
 | nilS=>exact hv
 | pbox r off=>obtain⟨b,h1,h2⟩:=hv;exact⟨b,h.gh _ _ h1,h2⟩
 | pelem r e t ix off =>
  obtain⟨h0,b,len,cap,h1,h2,h3,h4⟩:=hv
  obtain⟨b1,b2⟩:=h.bd h0
  exact⟨b1,b,len,cap,h.gh _ _ h1,by rw[b2];exact h2,by rw[b2];exact h3,by rw[b2];exact h4⟩
 | cut r e t ix suf =>
  obtain⟨h0,b,len,cap,h1,h2,h3,h4⟩:=hv
  obtain⟨b1,b2⟩:=h.bd h0
  exact⟨b1,b,len,cap,h.gh _ _ h1,by rw[b2];exact h2,by rw[b2];exact h3,by rw[b2];exact h4⟩
 | pro ls =>
  obtain⟨b,off,cs,h1,h2,h3,h4⟩:=hv
  exact⟨b,off,cs,h1,bG.later h h2,fun j hj=>(World.cell?_of_block (w:=w) (h.gd h4).2).trans (h3 j hj),(h.gd h4).1⟩
 | fn f=>exact hv
 | und=>exact hv
 | tup ls=>exact hv
theorem xW.later (h:Later X γ O env w γ' O' env' w'):{ls:List Sh}->{cs:List Value}->xW X γ O env w ls cs->xW X γ' O' env' w' ls cs
 | [],_,hl=>hl
 | l::ls,_,⟨c,cs',hc,h1,h2⟩=>⟨c,cs',hc,h1.later h,xW.later h h2⟩
theorem bU.later (h:Later X γ O env w γ' O' env' w'):{s:Sh}->{v:Value}->bU X γ O env w s v->bU X γ' O' env' w' s v
 | .tup ls,v,hv=>by obtain⟨vs,rfl,hl⟩:=hv;exact⟨vs,rfl,xW.later h hl⟩
 | .no,v,hv=>trivial
 | .one l,v,hv=>uQ.later (s:=.one l) h hv
 | .agg ls,v,hv=>uQ.later (s:=.agg ls) h hv
 | .nilS,v,hv=>uQ.later (s:=.nilS) h hv
 | .pbox r f,v,hv=>uQ.later (s:=.pbox r f) h hv
 | .pelem r e t i f,v,hv=>uQ.later (s:=.pelem r e t i f) h hv
 | .cut r e t i f,v,hv=>uQ.later (s:=.cut r e t i f) h hv
 | .pro ls,v,hv=>uQ.later (s:=.pro ls) h hv
 | .fn f,v,hv=>uQ.later (s:=.fn f) h hv
 | .und,v,hv=>uQ.later (s:=.und) h hv
theorem jS.later {β β':Bt} (h:Later X γ O env w γ' O' env' w') {r:Nat} {e:Ent} (hβ:β' r=β r) (hb:∀b∈oC γ (r,e),w'.heap[b]?=w.heap[b]?)
  (hu:∀b∈β r,w'.heap[b]?=w.heap[b]?) (he:jS X γ β O env w r e):jS X γ' β' O' env' w' r e:=by
 cases e with
 | box T ls =>
  obtain⟨b,c,h1,h2,h3,h4⟩:=he
  exact⟨b,c,h.gh _ _ h1,(hb b (by simp[oC,h1,lY])).trans h2,bG.later h h3,by rw[hβ,h4]⟩
 | sl e t a fr uq =>
  obtain⟨h0,v,h1,h2,h3,h4⟩:=he
  obtain⟨b1,b2⟩:=h.bd h0
  have Bi:∀b n c,0<c->v = .slice (some ⟨b,0,none⟩) n c->w'.heap[b]?=w.heap[b]?:=fun b n c h0 hv=>hb b (by simp[oC,h1,hv,lY];omega)
  refine⟨b1,v,h.gh _ _ h1,?_,fun hq=>?_,fun hq=>by rw[hβ];exact h4 hq⟩
  ·rw[b2]
   exact wU.mono (fun b hb=>(h.gd hb).1) (fun b hb=>(h.gd hb).2) Bi h2
  ·rw[b2,hβ]
   rcases h3 hq with h|⟨b,n,cap,cur,hv,h0,hh,hr⟩
   ·exact .inl h
   ·exact .inr ⟨b,n,cap,cur,hv,h0,(Bi b _ _ h0 hv).trans hh,hr.mono fun c x bl hk hx=>Un.keep _ _ _ _ (fun q hq=>hu q (hk q hq)) hx⟩
 | uq t a fr =>
  obtain⟨h0,v,h1,h2⟩:=he
  obtain⟨b1,b2⟩:=h.bd h0
  exact⟨b1,v,h.gh _ _ h1,by rw[b2,hβ];exact Un.keep _ _ _ _ hu h2⟩
 | arr e t a fr ls =>
  obtain⟨h0,v,h1,h2,h3,b,n,cap,cur,hv,hc,hh,hl⟩:=he
  obtain⟨b1,b2⟩:=h.bd h0
  have Bi:∀b n c,0<c->v = .slice (some ⟨b,0,none⟩) n c->w'.heap[b]?=w.heap[b]?:=fun b n c h0 hv=>hb b (by simp[oC,h1,hv,lY];omega)
  refine⟨b1,v,h.gh _ _ h1,?_,by rw[hβ,h3],b,n,cap,cur,hv,hc,(Bi b _ _ hc hv).trans hh,bG.later h hl⟩
  rw[b2]
  exact wU.mono (fun b hb=>(h.gd hb).1) (fun b hb=>(h.gd hb).2) Bi h2
end
def Ar.beq:Ar->Ar->Bool
 | .Z n,.Z m=>n==m
 | .ci k n,.ci j m=>decide (k=j)&&n==m
 | .cb v,.cb u=>v==u
 | .cs v,.cs u=>decide (v=u)
 | .nl e t,.nl f u=>e==f&&decide (t=u)
 | .p1 a b p,.p1 c d q=>decide (a=c)&&decide (b=d)&&p.beq q
 | .p2 a b p,.p2 c d q=>decide (a=c)&&decide (b=d)&&p.beq q
 | .cMX a b p q,.cMX c d r s=>decide (a=c)&&decide (b=d)&&p.beq r&&q.beq s
 | _,_=>false
theorem Ar.beq_eq:{a b:Ar}->a.beq b=true->a=b
 | .Z n,.Z m,h=>by simp[Ar.beq] at h;rw[h]
 | .ci k n,.ci j m,h=>by simp[Ar.beq] at h;rw[h.1,h.2]
 | .cb v,.cb u,h=>by simp[Ar.beq] at h;rw[h]
 | .cs v,.cs u,h=>by simp[Ar.beq] at h;rw[h]
 | .nl e t,.nl f u,h=>by simp[Ar.beq] at h;rw[h.1,h.2]
 | .p1 a b p,.p1 c d q,h=>by
  simp[Ar.beq] at h
  obtain⟨⟨rfl,rfl⟩,h⟩:=h
  rw[Ar.beq_eq h]
 | .p2 a b p,.p2 c d q,h=>by
  simp[Ar.beq] at h
  obtain⟨⟨rfl,rfl⟩,h⟩:=h
  rw[Ar.beq_eq h]
 | .cMX a b p q,.cMX c d r s,h=>by
  simp[Ar.beq] at h
  obtain⟨⟨⟨rfl,rfl⟩,h1⟩,h2⟩:=h
  rw[Ar.beq_eq h1,Ar.beq_eq h2]
def bHD (a b:Ty) (p q:Ar):Ar:=match p,q with
 | .p1 a1 b1 p1,.p2 a2 b2 q1=>if a1=a/\b1=b/\a2=a/\b2=b/\p1.beq q1=true then p1 else .cMX a b p q
 | _,_=>.cMX a b p q
theorem zS (a b:Ty) (p q:Ar) (env:List SV):((bHD a b p q).val env).as (.cMV a b)=((p.val env).as a,(q.val env).as b):=by
 unfold bHD
 split
 ·rename_i a1 b1 p1 a2 b2 q1
  split
  ·rename_i h
   obtain⟨rfl,rfl,rfl,rfl,h⟩:=h
   rw[<-Ar.beq_eq h]
   simp[Ar.val]
  ·simp[Ar.val]
 ·simp[Ar.val]
theorem bLK (a b:Ty) (p q:Ar) (n:Nat) (hp:p.bd n=true) (hq:q.bd n=true):(bHD a b p q).bd n=true:=by
 unfold bHD
 split
 ·split
  ·exact hp
  ·simp[Ar.bd] at hp hq⊢;exact⟨hp,hq⟩
 ·simp[Ar.bd,hp,hq]
def aLH:Ty->Ar->Bool->List Leaf
 | .cMV x y,a,fr=>aLH x (.p1 x y a) fr++aLH y (.p2 x y a) fr
 | t,a,fr=>[.d a t fr 0]
abbrev Lk:=Nat->Option Ent
def bC1:Ty->Bool
 | .slice _ _=>true
 | _=>false
def fZ (lk:Lk):Ty->List Leaf->Option (Ar×Bool×List (Nat×Ty)×List Leaf)
 | .cMV x y,ls=>match fZ lk x ls with
  | some (a,f1,k1,ls1)=>match fZ lk y ls1 with
   | some (b,f2,k2,ls2)=>some (bHD x y a b,f1&&f2,k1++k2,ls2)
   | none=>none
  | none=>none
 | t,.d a t' fr k::ls=>if t'=t then some (a,fr||t.flat,if bC1 t then [(k,t)] else [],ls) else none
 | t,.nl e t'::ls=>if t = .slice e t' then some (.nl e t',true,[],ls) else none
 | t,.own r::ls=>match lk r with
  | some (.sl e t' a fr _)=>if t = .slice e t' then some (a,fr,[(0,t)],ls) else none
  | some (.arr e t' a fr _)=>if t = .slice e t' then some (a,fr,[(0,t)],ls) else none
  | _=>none
 | _,[]=>none
def aCC:Ty->List Leaf
 | .int k=>[.d (.ci k 0) (.int k) true 0]
 | .bool=>[.d (.cb false) .bool true 0]
 | .str=>[.d (.cs ⟨#[]⟩) .str true 0]
 | .slice e t=>[.nl e t]
 | .cMV a b=>aCC a++aCC b
def aJH:Ty->List Value->Option (List Value)
 | .int k,.int j n::vs=>if j=k/\n=0 then some vs else none
 | .bool,.bool b::vs=>if b=false then some vs else none
 | .str,.string s::vs=>if s=⟨#[]⟩ then some vs else none
 | .slice _ _,.slice none n c::vs=>if n=0/\c=0 then some vs else none
 | .cMV a b,vs=>match aJH a vs with
  | some vs'=>aJH b vs'
  | none=>none
 | _,_=>none
structure TI where
 t:Ty
 ag:Bool
 bytes:Nat
def aQZ:TypeDesc->Bool
 | .struct _=>true
 | _=>false
def cDI:TypeDesc->Bool
 | .array _ _=>true
 | _=>false
def aI4 (P:Program) (T:TypeId):Option TI :=
 match bUF P 12 T,P.info? T,P.underlying T with
 | some t,some i,some u =>
  match i.zero with
  | some z=>match aJH t z.cells.toList with
   | some []=>if i.size=t.n/\cDI u=false/\(aQZ u=true\/t.n=1) then some ⟨t,aQZ u,i.bytes⟩ else none
   | _=>none
  | none=>none
 | _,_,_=>none
inductive Let where
 | cMW (p:Prim) (a:Ar)
 | call (c:Nat) (a:Ar)
def bMI:Value->Sh
 | .int k n=>if(Lit.int k n).wf=true then .one (.d (.ci k n) (.int k) true 0) else .no
 | .bool b=>.one (.d (.cb b) .bool true 0)
 | .string s=>if s.size<=maxLen then .one (.d (.cs s) .str true 0) else .no
 | .slice none 0 0=>.nilS
 | _=>.no
def aGI (tm:Nat->Sh):Operand->Sh
 | .tmp t=>tm t
 | .const v=>bMI v
 | .func f=>.fn f
 | .global _=>.no
abbrev R1:=Option (List Let×Sh)
def pr (p:Prim) (a:Ar) (nx:Nat):R1:=some ([.cMW p a],.one (.d (.Z nx) p.oty true 0))
def bYO (P:Program) (T:TypeId):Bool:=(match P.underlying T with|some (.int _)=>true|_=>false)&&(match aI4 P T with|some i=>!i.ag&&i.t.n==1|none=>false)
def bNO (P:Program) (T:TypeId):Bool:=match P.underlying T with
 | some (.struct fs)=>match fs.toList with
  | [f,g]=>decide (f.name ≠ "_")&&decide (g.name ≠ "_")&&f.offset==0&&g.offset==1&&bYO P f.type&&bYO P g.type&&P.stoodInHeld T==false&&P.eqGuardType P.depth T==false
  | _=>false
 | _=>false
def bDM (P:Program) (op:BinOp) (xT:TypeId) (xs ys:List Leaf) (nx:Nat):R1:=match xs,ys with
 | [.d a1 (.int k1) _ _,.d a2 (.int k2) _ _],[.d b1 (.int j1) _ _,.d b2 (.int j2) _ _] =>
  if j1=k1/\j2=k2/\bNO P xT=true then match op with
   | .eql=>pr (.eqv false (.cMV (.int k1) (.int k2))) (.cMX (.cMV (.int k1) (.int k2)) (.cMV (.int k1) (.int k2)) (bHD (.int k1) (.int k2) a1 a2) (bHD (.int k1) (.int k2) b1 b2)) nx
   | .neq=>pr (.eqv true (.cMV (.int k1) (.int k2))) (.cMX (.cMV (.int k1) (.int k2)) (.cMV (.int k1) (.int k2)) (bHD (.int k1) (.int k2) a1 a2) (bHD (.int k1) (.int k2) b1 b2)) nx
   | _=>none
  else none
 | _,_=>none
def cF1 (P:Program) (wr:Bool) (op:BinOp) (xT:TypeId) (x y:Sh) (nx:Nat):R1 :=
 match x,y with
 | .one (.d a (.int k) _ _),.one (.d b (.int j) _ _)=>match op with
  | .shl=>pr (.shl k j) (.cMX (.int k) (.int j) a b) nx
  | .shr=>pr (.shr k j) (.cMX (.int k) (.int j) a b) nx
  | .add | .sub | .mul=>if k=j then pr (if wr then .arw op k else .ar op k) (.cMX (.int k) (.int k) a b) nx else none
  | .quo=>if k=j then pr (.quo k) (.cMX (.int k) (.int k) a b) nx else none
  | .rem=>if k=j then pr (.rem k) (.cMX (.int k) (.int k) a b) nx else none
  | .and | .or | .xor | .andNot=>if k=j then pr (.bits op k) (.cMX (.int k) (.int k) a b) nx else none
  | .eql | .neq | .lss | .leq | .gtr | .geq=>if k=j then pr (.cmp op k) (.cMX (.int k) (.int k) a b) nx else none
 | .one (.d a .str _ _),.one (.d b .str _ _)=>match op with
  | .add=>pr .sadd (.cMX .str .str a b) nx
  | .eql=>pr (.seq false) (.cMX .str .str a b) nx
  | .neq=>pr (.seq true) (.cMX .str .str a b) nx
  | _=>none
 | .one (.d a .bool _ _),.one (.d b .bool _ _)=>match P.underlying xT with
  | some .bool=>match op with
   | .eql=>pr (.eqv false .bool) (.cMX .bool .bool a b) nx
   | .neq=>pr (.eqv true .bool) (.cMX .bool .bool a b) nx
   | _=>none
  | _=>none
 | .agg xs,.agg ys=>bDM P op xT xs ys nx
 | _,_=>none
def aYT (P:Program) (T:TypeId):Sh->Option Sh
 | .nilS=>match bUF P 12 T with
  | some (.slice e t)=>some (.one (.nl e t))
  | _=>none
 | .no=>none
 | s=>some s
def bBA (P:Program) (T:TypeId) (ls:List Leaf) (off:Nat):Option Sh :=
 match aI4 P T with
 | some i =>
  let sub:=(ls.drop off).take i.t.n
  if i.ag then(if sub.length=i.t.n then some (.agg sub) else none) else match sub with
   | [l]=>some (.one l)
   | _=>none
 | none=>none
def uP:Sh->Option (List Leaf)
 | .one l=>some [l]
 | .agg ls=>some ls
 | _=>none
def aD3 (ls:List Leaf) (off:Nat) (new:List Leaf):List Leaf:=ls.take off++(new++ls.drop (off+new.length))
def bSX (P:Program) (fs:Array Field):Option (List (Nat×Nat)):=fs.toList.mapM fun f=>(P.info? f.type).map fun i=>(f.offset,i.size)
def bEM (P:Program) (fs:Array Field) (pl:List (Nat×Nat)):List (Nat×Sh)->List Leaf->Option (List Leaf)
 | [],ls=>some ls
 | (i,s)::rest,ls=>match fs[i]?,pl[i]? with
  | some f,some (off,size)=>match aYT P f.type s with
   | some s'=>match uP s' with
    | some new=>if new.length=size/\off+new.length<=ls.length then bEM P fs pl rest (aD3 ls off new) else none
    | none=>none
   | none=>none
  | _,_=>none
def cCO (sh:Operand->Sh):Option Operand->Option Ar
 | none=>some (.ci .i64 0)
 | some l=>match sh l with
  | .one (.d b (.int .i64) _ _)=>some b
  | _=>none
def bVJ (sh:Operand->Sh):Option Operand->Option (Option Ar)
 | none=>some none
 | some h=>match sh h with
  | .one (.d b (.int .i64) _ _)=>some (some b)
  | _=>none
def jN (P:Program) (wr:Bool) (o:Oper) (sh:Operand->Sh) (nx:Nat):R1 :=
 match o.op with
 | .move x | .assign x=>(aYT P o.type (sh x)).map fun s=>([],s)
 | .nilCheck x=>match sh x with
  | .pbox r off=>some ([],.pbox r off)
  | .pelem r e t ix off=>some ([],.pelem r e t ix off)
  | .pro ls=>some ([],.pro ls)
  | _=>none
 | .binOp op xT x y _=>cF1 P wr op xT (sh x) (sh y) nx
 | .unOp op _ x=>match op,sh x with
  | .not,.one (.d a .bool _ _)=>pr .not a nx
  | .neg,.one (.d a (.int k) _ _)=>pr (.neg k) a nx
  | _,_=>none
 | .convert S D x=>match P.underlying S,P.underlying D,sh x with
  | some _,some (.int k),.one (.d a (.int j) _ _)=>pr (.conv j k) a nx
  | some .string,some .string,.one (.d a .str fr _)=>some ([],.one (.d a .str fr 0))
  | _,_,_=>none
 | .field T x i=>match sh x,P.underlying T with
  | .agg ls,some (.struct fs)=>match fs[i]? with
   | some f=>(bBA P f.type ls f.offset).map fun s=>([],s)
   | none=>none
  | _,_=>none
 | .fieldAddr T x i=>match P.underlying T with
  | some (.struct fs)=>match fs[i]? with
   | some f=>if P.cellsOf f.type=0 then none else match sh x with
    | .pbox r off=>some ([],.pbox r (off+f.offset))
    | .pelem r e t ix off=>some ([],.pelem r e t ix (off+f.offset))
    | .pro ls=>some ([],.pro (ls.drop f.offset))
    | _=>none
   | none=>none
  | _=>none
 | .extract x i=>match sh x with
  | .tup ls=>(ls[i]?).map fun s=>([],s)
  | _=>none
 | .index T x i=>match P.underlying T,sh x,sh i with
  | some .string,.one (.d a .str _ _),.one (.d b (.int .i64) _ _)=>pr .sidx (.cMX .str tI a b) nx
  | _,_,_=>none
 | .indexAddr T x i=>match P.underlying T,sh x,sh i with
  | some (.slice e),.one (.d a (.slice e' t) fr _),.one (.d b (.int .i64) _ _) =>
   if e'=e/\P.cellsOf e=t.n then some ([.cMW (.cN0 e t) (.cMX (.slice e t) tI a b)],.pro (aLH t (.Z nx) fr)) else none
  | _,_,_=>none
 | .load T x=>match sh x with
  | .pro ls=>(bBA P T ls 0).map fun s=>([],s)
  | _=>none
 | .slice T x lo hi none=>match P.underlying T,sh x with
  | some .string,.one (.d a .str _ _) =>
   match cCO sh lo,
    bVJ sh hi with
   | some l,some none=>some ([.cMW .slen a,.cMW .ssub (.cMX .str (.cMV tI tI) a (.cMX tI tI l (.Z nx)))],.one (.d (.Z (nx+1)) .str true 0))
   | some l,some (some h)=>pr .ssub (.cMX .str (.cMV tI tI) a (.cMX tI tI l h)) nx
   | _,_=>none
  | some (.slice e),.one (.d a (.slice e' t) fr _) =>
   if e'=e/\P.cellsOf e=t.n then
    match cCO sh lo,
     bVJ sh hi with
    | some l,some none=>some ([.cMW (.cMZ e t) a,.cMW (.cN1 e t) (.cMX (.slice e t) (.cMV tI tI) a (.cMX tI tI l (.Z nx)))],.one (.d (.Z (nx+1)) (.slice e t) fr 0))
    | some l,some (some h)=>some ([.cMW (.cN1 e t) (.cMX (.slice e t) (.cMV tI tI) a (.cMX tI tI l h))],.one (.d (.Z nx) (.slice e t) fr 0))
    | _,_=>none
   else none
  | _,_=>none
 | .build T gA=>match aI4 P T,P.underlying T with
  | some i,some (.struct fs)=>match bSX P fs with
   | some pl=>(bEM P fs pl (gA.toList.map fun p=>(p.1,sh p.2)) (aCC i.t)).map fun ls=>([],.agg ls)
   | none=>none
  | _,_=>none
 | .call { callee:=.builtin .len,args,argTypes }=>match args.toList,argTypes.toList with
  | [x],[T]=>match P.underlying T,sh x with
   | some .string,.one (.d a .str _ _)=>pr .slen a nx
   | some (.slice _),.one (.nl _ _)=>some ([],.one (.d (.ci .i64 0) (.int .i64) true 0))
   | some (.slice _),.one (.d a (.slice e t) _ _)=>pr (.cMZ e t) a nx
   | _,_=>none
  | _,_=>none
 | .call { callee:=.builtin .min,args,argTypes }=>match args.toList with
  | [x,y]=>match sh x,sh y with
   | .one (.d a (.int k) _ _),.one (.d b (.int j) _ _)=>if k=j then pr (.mn k) (.cMX (.int k) (.int k) a b) nx else none
   | _,_=>none
  | _=>none
 | .call { callee:=.builtin .max,args,argTypes }=>match args.toList with
  | [x,y]=>match sh x,sh y with
   | .one (.d a (.int k) _ _),.one (.d b (.int j) _ _)=>if k=j then pr (.mx k) (.cMX (.int k) (.int k) a b) nx else none
   | _,_=>none
  | [x,y,z]=>match sh x,sh y,sh z with
   | .one (.d a (.int k) _ _),.one (.d b (.int j) _ _),.one (.d c (.int l) _ _)=>if k=j/\k=l then some ([.cMW (.mx k) (.cMX (.int k) (.int k) a b),.cMW (.mx k) (.cMX (.int k) (.int k) (.Z nx) c)],.one (.d (.Z (nx+1)) (.int k) true 0)) else none
   | _,_,_=>none
  | _=>none
 | _=>none
def cA6:Option Ent->Option (TypeId×Ty×Ar×Bool)
 | some (.sl e t a fr _)=>some (e,t,a,fr)
 | some (.arr e t a fr _)=>some (e,t,a,fr)
 | _=>none
def aJK (P:Program) (o:Oper) (sh:Operand->Sh) (lk:Lk) (nx:Nat):R1 :=
 match o.op with
 | .load T x=>match sh x with
  | .pbox r off=>match lk r with
   | some (.box _ ls)=>(bBA P T ls off).map fun s=>([],s)
   | _=>none
  | .pelem r e t ix off=>match cA6 (lk r) with
   | some (e',t',a,fr)=>if e'=e/\t'=t then(bBA P T (aLH t (.Z nx) fr) off).map fun s=>([.cMW (.cN0 e t) (.cMX (.slice e t) tI a ix)],s) else none
   | _=>none
  | _=>none
 | .indexAddr T x i=>match P.underlying T,sh x,sh i with
  | some (.slice e),.one (.own r),.one (.d b (.int .i64) _ _)=>match cA6 (lk r) with
   | some (e',t,a,fr)=>if e'=e/\P.cellsOf e=t.n then some ([.cMW (.cN0 e t) (.cMX (.slice e t) tI a b)],.pelem r e t b 0) else none
   | _=>none
  | _,_,_=>none
 | .call { callee:=.builtin .len,args,argTypes }=>match args.toList,argTypes.toList with
  | [x],[T]=>match P.underlying T,sh x with
   | some (.slice _),.one (.own r)=>match cA6 (lk r) with
    | some (e,t,a,_)=>pr (.cMZ e t) a nx
    | _=>none
   | _,_=>none
  | _,_=>none
 | .convert S D x=>match P.underlying S,P.underlying D,sh x with
  | some (.slice e),some .string,.one l=>match P.underlying e,fZ lk (.slice e (.int .u8)) [l] with
   | some (.int .u8),some (a,_,_,[])=>pr (.b2s e) a nx
   | _,_=>none
  | _,_,_=>none
 | _=>none
def cC8 (P:Program) (D:List Nat) (o:Oper) (sh:Operand->Sh) (lk:Lk) (nx:Nat):R1 :=
 match o.op with
 | .slice T x none (some y) none=>if D.contains (o.dst.getD 0) then match P.underlying T,sh x,sh y with
   | some (.slice e),.one (.own r),.one (.d b (.int .i64) _ _)=>match lk r with
    | some (.sl e' t a _ _)=>if e'=e/\P.cellsOf e=t.n then some ([.cMW (.cN0 e t) (.cMX (.slice e t) tI a b)],.cut r e t b false) else none
    | _=>none
   | _,_,_=>none
  else none
 | .slice T x (some y) none none=>if D.contains (o.dst.getD 0) then match P.underlying T,sh x,sh y with
   | some (.slice e),.one (.own r),.one (.d b (.int .i64) _ _)=>match lk r with
    | some (.sl e' t a _ _)=>if e'=e/\P.cellsOf e=t.n then
     some ([.cMW (.cN0 e t) (.cMX (.slice e t) tI a (.ci .i64 0)),.cMW (.cMZ e t) a,.cMW (.cN1 e t) (.cMX (.slice e t) (.cMV tI tI) a (.cMX tI tI b (.Z (nx+1))))],.cut r e t b true) else none
    | _=>none
   | _,_,_=>none
  else none
 | _=>none
abbrev R2:=Option (List Let×Sh×List (Nat×Ent))
def cG:List Leaf->Nat->List Leaf×List (Nat×Ent)×Nat
 | [],nr=>([],[],nr)
 | .nl e t::ls,nr =>
  let (a,b,c):=cG ls (nr+1)
  (.own nr::a,(nr,.sl e t (.nl e t) true true)::b,c)
 | l::ls,nr =>
  let (a,b,c):=cG ls nr
  (l::a,b,c)
def dI:List Ty->Ty
 | []=>.bool
 | [t]=>t
 | t::u::ts=>.cMV t (dI (u::ts))
def pK:List (Ty×Ar)->Ar
 | []=>.cb false
 | [p]=>p.2
 | p::q::ps=>bHD p.1 (dI ((q::ps).map (·.1))) p.2 (pK (q::ps))
def gP:List Ty->Ar->List Ar
 | [],_=>[]
 | [_],a=>[a]
 | t::u::ts,a=>.p1 t (dI (u::ts)) a::gP (u::ts) (.p2 t (dI (u::ts)) a)
def aQ:Ty->Ar->Bool->List Nat->Nat->List Leaf×List (Nat×Ent)×List Nat×Nat
 | .cMV x y,a,fr,fl,nr =>
  let (l1,e1,fl1,n1):=aQ x (.p1 x y a) fr fl nr
  let (l2,e2,fl2,n2):=aQ y (.p2 x y a) fr fl1 n1
  (l1++l2,e1++e2,fl2,n2)
 | .slice e t,a,fr,fl,nr=>match fl with
  | 2::fl'=>([.own nr],[(nr,.sl e t a fr true)],fl',nr+1)
  | 1::fl'=>([.d a (.slice e t) fr nr],[(nr,.uq (.slice e t) a fr)],fl',nr+1)
  | 3::fl'=>([.own nr],[(nr,.sl e t a fr false)],fl',nr+1)
  | _=>([.d a (.slice e t) fr 0],[],fl.tail,nr)
 | t,a,fr,fl,nr=>([.d a t fr 0],[],fl.tail,nr)
def bBX (ag:Bool) (ls:List Leaf):Sh:=if ag then .agg ls else match ls with
 | [l]=>.one l
 | _=>.no
def fI:List MV->List Ar->Bool->Nat->List Sh×List (Nat×Ent)×Nat
 | m::ms,a::ars,fr,nr =>
  let (ls,es,_,n1):=aQ m.t a fr m.fl nr
  let (ss,es2,n2):=fI ms ars fr n1
  (bBX m.ag ls::ss,es++es2,n2)
 | _,_,_,nr=>([],[],nr)
def aHM (C:Con) (ars:List Ar) (fr:Bool) (nr:Nat):List Sh×List (Nat×Ent)×Nat:=match C.bx,C.rms,ars with
 | some T,[m],[a]=>([.pbox nr 0],(nr,.box T (aQ m.t a fr m.fl (nr+1)).1)::(aQ m.t a fr m.fl (nr+1)).2.1,(aQ m.t a fr m.fl (nr+1)).2.2.2)
 | _,ms,_=>fI ms ars fr nr
def bYI:List Sh->Sh
 | [s]=>s
 | ss=>.tup ss
def bAE (lk:Lk) (m:MV) (s:Sh):Option (Ar×Bool×List (Nat×Ty)):=match s with
 | .nilS=>match m.t with
  | .slice e t=>if m.ag then none else some (.nl e t,true,[])
  | _=>none
 | .one l=>if m.ag then none else match fZ lk m.t [l] with
  | some (a,f,ks,[])=>some (a,f,ks)
  | _=>none
 | .agg ls=>if m.ag then match fZ lk m.t ls with
  | some (a,f,ks,[])=>some (a,f,ks)
  | _=>none
  else none
 | _=>none
def vZ (lk:Lk):List AM->List Sh->Option (List (Ty×Ar)×Bool×List (Nat×Ty))
 | [],[]=>some ([],true,[])
 | .val m::ms,s::ss=>if m.fl.any (· != 0) then none else match bAE lk m s with
  | some (a,f,ks)=>(vZ lk ms ss).map fun p=>((m.t,a)::p.1,f&&p.2.1,ks++p.2.2)
  | none=>none
 | _,_=>none
def bC3 (Cs:List Con) (f:FuncId):Option (Nat×Con) :=
 (Cs.zipIdx.find? fun p=>p.1.f==f).map fun p=>(p.2,p.1)
def cJZ (e:TypeId) (t:Ty):Sh->Bool
 | .nilS=>true
 | .one (.nl e' t')=>e'==e&&decide (t'=t)
 | _=>false
def sM (P:Program) (Cs:List Con) (o:Oper) (sh:Operand->Sh) (lk:Lk) (nx nr:Nat):R2 :=
 match o.op with
 | .alloc T=>match aI4 P T with
  | some i =>
   let (ls,es,n):=cG (aCC i.t) (nr+1)
   some ([],.pbox nr 0,(nr,.box T ls)::es)
  | none=>none
 | .box T x=>match aYT P T (sh x) with
  | some s=>match uP s with
   | some l0 =>
    let (ls,es,n):=cG l0 (nr+1)
    some ([],.pbox nr 0,(nr,.box T ls)::es)
   | none=>none
  | none=>none
 | .makeSlice T n c=>match P.underlying T,sh n,sh c with
  | some (.slice e),.one (.d a (.int .i64) _ _),.one (.d b (.int .i64) _ _)=>match aI4 P e with
   | some i=>if a.beq b=true then some ([.cMW (.rep e i.t i.bytes) a],.one (.own nr),[(nr,.sl e i.t (.Z nx) true true)]) else none
   | none=>none
  | _,_,_=>none
 | .buildSlice T len gA=>match P.underlying T with
  | some (.slice e)=>match aI4 P e with
   | some i=>if gA.toList.map (·.1)=List.range len/\len * i.t.n<=1000 then
     match vZ (fun _=>none) (gA.toList.map fun _=>AM.val ⟨i.ag,i.t,[]⟩) (gA.toList.map fun p=>sh p.2) with
     | some (ars,f,_)=>if len=0 then some ([],.one (.nl e i.t),[])
      else match (gA.toList.map fun p=>uP (sh p.2)).mapM id with
       | some lss=>some ([.cMW (.lit e i.t len) (pK ars)],.one (.own nr),[(nr,.arr e i.t (.Z nx) (f||i.t.flat) lss.flatten)])
       | none=>none
     | none=>none
    else none
   | none=>none
  | _=>none
 | .call { callee:=.builtin .append,args,argTypes }=>match args.toList,argTypes.toList with
  | [s,y],[T,T2]=>match P.underlying T with
   | some (.slice e)=>match aI4 P e with
    | some i=>match cJZ e i.t (sh s)&&T2==T,sh y with
     | true,.one l=>match fZ (if i.t.flat then lk else fun _=>none) (.slice e i.t) [l] with
      | some (b,f,_,[])=>some ([.cMW (.cN2 e i.t i.bytes) (.cMX (.slice e i.t) (.slice e i.t) (.nl e i.t) b)],.one (.own nr),[(nr,.sl e i.t (.Z nx) (f||i.t.flat) i.t.flat)])
      | _=>none
     | _,_=>none
    | none=>none
   | _=>none
  | _,_=>none
 | .call { callee:=.value f,args,argTypes }=>match sh f with
  | .fn g=>match bC3 Cs g with
   | some (c,C)=>match vZ (if C.alias then fun _=>none else lk) C.ams (args.toList.map sh) with
    | some (ars,_,_)=>if dI (ars.map (·.1))=C.argTy/\dI (C.rms.map (·.t))=C.resTy then
      some ([.call c (pK ars)],bYI (aHM C (gP (C.rms.map (·.t)) (.Z nx)) (!C.alias) nr).1,(aHM C (gP (C.rms.map (·.t)) (.Z nx)) (!C.alias) nr).2.1)
     else none
    | none=>none
   | none=>none
  | _=>none
 | _=>none
abbrev Es:=List (Nat×Ent)
def fL (es:Es) (r:Nat):Option Ent:=(es.find? fun p=>p.1==r).map (·.2)
def tE (es:Es) (r:Nat) (e:Ent):Es:=es.map fun p=>if p.1=r then(r,e) else p
def cV (es:Es) (rs:List Nat):Es:=es.filter fun p=>!rs.contains p.1
abbrev R3:=Option (List Let×Sh×Es×Nat)
def cLN:Option Ent->Bool
 | some (.uq _ _ _)=>true
 | _=>false
def cF2 (t:Ty):Option Ent->Bool
 | some (.uq u _ _)=>decide (u=t)
 | _=>false
def oG (es:Es) (ks:List (Nat×Ty)):Bool×Es :=
 if ks.all (fun k=>k.1 != 0&&cF2 k.2 (fL es k.1))&&decide (ks.map (·.1)).Nodup then(true,cV es (ks.map (·.1))) else(false,es)
def aTM:Ty->List Leaf->Option (List (Nat×Ty)×List Leaf)
 | .cMV x y,ls=>match aTM x ls with
  | some (k1,ls1)=>match aTM y ls1 with
   | some (k2,ls2)=>some (k1++k2,ls2)
   | none=>none
  | none=>none
 | .slice e t,.d _ t' _ k::ls=>if t' = .slice e t then some ([(k,t')],ls) else none
 | .slice _ _,.nl _ _::ls=>some ([],ls)
 | .slice _ _,_=>none
 | _,_::ls=>some ([],ls)
 | _,[]=>none
def aDT (t:Ty):Nat->List Leaf->Option (List (Nat×Ty))
 | _,[]=>some []
 | 0,_=>none
 | n+1,ls=>match aTM t ls with
  | some (k,ls')=>(aDT t n ls').map (k ++ ·)
  | none=>none
def rR (t:Ty) (ls:List Leaf):List (Nat×Ty):=(aDT t ls.length ls).getD [(0,.bool)]
def oF:List Leaf->List Nat->Option (List (Nat×Option Ty))
 | [],_=>some []
 | .own r::ls,2::fl=>(oF ls fl).map ((r,none)::·)
 | .d _ t _ k::ls,1::fl=>if k=0 then none else(oF ls fl).map ((k,some t)::·)
 | .nl _ _::ls,2::fl=>oF ls fl
 | .nl _ _::ls,1::fl=>oF ls fl
 | .own _::_,_=>none
 | _::_,2::_=>none
 | _::_,3::_=>none
 | _::ls,fl=>oF ls fl.tail
def oW (lk:Lk):List AM->List Sh->Option (List (Ty×Ar)×List (Nat×Option Ty)×List (Nat×TypeId×MV))
 | [],[]=>some ([],[],[])
 | .val m::ms,s::ss=>match bAE (if m.fl.any (· != 0) then lk else fun _=>none) m s,oW lk ms ss with
  | some (a,_,_),some (ars,rs,bs) =>
   if m.fl.any (· != 0) then match uP s with
    | some ls=>match oF ls m.fl with
     | some os=>some ((m.t,a)::ars,os++rs,bs)
     | none=>none
    | none=>none
   else some ((m.t,a)::ars,rs,bs)
  | _,_=>none
 | .box T m::ms,.pbox r 0::ss=>match lk r,oW lk ms ss with
  | some (.box T' ls),some (ars,rs,bs)=>if T'=T then match fZ lk m.t ls,oF ls m.fl with
    | some (a,_,_,[]),some os=>some ((m.t,a)::ars,os++rs,(r,T,m)::bs)
    | _,_=>none
   else none
  | _,_=>none
 | _,_=>none
def bVL (es:Es) (rs:List (Nat×Option Ty)):Bool:=decide (rs.map (·.1)).Nodup&&rs.all fun r=>match r.2,fL es r.1 with
 | none,some (.sl _ _ _ _ true)=>true
 | some t,some (.uq u _ _)=>decide (u=t)
 | _,_=>false
def eH:List (Nat×TypeId×MV)->List Ar->Bool->Nat->Es×Nat
 | (r,T,m)::bs,a::ars,fr,nr =>
  let (ls,es,_,n1):=aQ m.t a fr m.fl nr
  let (es2,n2):=eH bs ars fr n1
  ((r,.box T ls)::(es++es2),n2)
 | _,_,_,nr=>([],nr)
def aZ1 (es:Es) (e:TypeId) (t:Ty):Sh->Option (Ar×Bool×Bool×List Nat×Es)
 | .nilS=>some (.nl e t,true,true,[],es)
 | .one (.nl e' t')=>if e'=e/\t'=t then some (.nl e t,true,true,[],es) else none
 | .one (.own r)=>match fL es r with
  | some (.sl e' t' a fr uq)=>if e'=e/\t'=t then some (a,fr,uq,[r],cV es [r]) else none
  | some (.arr e' t' a fr ls)=>if e'=e/\t'=t then
   let p:=oG (cV es [r]) (rR t ls)
   some (a,fr,p.1,[r],p.2) else none
  | _=>none
 | _=>none
def bH5 (es:Es) (e:TypeId) (t:Ty):Leaf->Option (Ar×Bool×Bool×Es)
 | .nl e' t'=>if e'=e/\t'=t then some (.nl e t,true,true,es) else none
 | .d a u fr k=>if u = .slice e t then
   let p:=if t.flat then(true,es) else oG es [(k,u)]
   some (a,fr,p.1,p.2) else none
 | .own r=>match fL es r with
  | some (.sl e' t' a fr uq)=>if e'=e/\t'=t then some (a,fr,uq,if t.flat then es else cV es [r]) else none
  | some (.arr e' t' a fr ls)=>if e'=e/\t'=t then
    let p:=oG (cV es [r]) (rR t ls)
    some (a,fr,p.1,p.2) else none
  | _=>none
def bI1 (es:Es) (ls:List Leaf):Bool:=ls.all fun l=>match l with
 | .own r=>(cA6 (fL es r)).isSome
 | _=>true
def cF7 (P:Program) (o:Oper) (sh:Operand->Sh) (es:Es) (nx nr:Nat):R3 :=
 match o.op with
 | .call { callee:=.builtin .append,args,argTypes }=>match args.toList,argTypes.toList with
  | [x,y],[T,T2]=>match sh x,sh y with
   | .cut r e t k false,.cut r2 e2 t2 l true=>if r2=r/\e2=e/\t2=t/\T2=T then match P.underlying T,aI4 P e,fL es r with
     | some (.slice e3),some i,some (.sl e4 t4 a fr uq)=>if e3=e/\e4=e/\t4=t/\i.t=t then
       some ([.cMW (.cN1 e t) (.cMX (.slice e t) (.cMV tI tI) a (.cMX tI tI k l)),.cMW (.cN1 e t) (.cMX (.slice e t) (.cMV tI tI) a (.cMX tI tI (.ci .i64 0) k)),.cMW (.cMZ e t) a,
        .cMW (.cN1 e t) (.cMX (.slice e t) (.cMV tI tI) a (.cMX tI tI l (.Z (nx+2)))),.cMW (.cN2 e t i.bytes) (.cMX (.slice e t) (.slice e t) (.Z (nx+1)) (.Z (nx+3)))],.one (.own nr),
        (nr,.sl e t (.Z (nx+4)) ((fr&&fr)||t.flat) (uq&&uq))::cV es [r],nr+1)
      else none
     | _,_,_=>none
    else none
   | _,_=>none
  | _,_=>none
 | _=>none
def aP2 (P:Program) (Cs:List Con) (o:Oper) (sh:Operand->Sh) (es:Es) (nx nr:Nat):R3 :=
 match o.op with
 | .store T x v=>match aYT P T (sh v) with
  | some s=>match uP s with
   | some l0=>if l0.length=P.cellsOf T/\0<l0.length/\bI1 es l0=true then match sh x with
    | .pbox r off=>match fL es r with
     | some (.box T0 ls)=>if off+l0.length<=ls.length then
       let (l1,new,n):=cG l0 nr
       some ([],.no,new++tE es r (.box T0 (aD3 ls off l1)),n)
      else none
     | _=>none
    | .pelem r e t ix off=>match fL es r with
     | some (.sl e' t' a fr uq)=>if e'=e/\t'=t/\off+l0.length<=t.n then
       if l0.length=t.n then match fZ (fun _=>none) t l0 with
        | some (b,f,ks,[]) =>
         let p:=if uq then oG es ks else(false,es)
         some ([.cMW (.cN3 e t) (.cMX (.slice e t) (.cMV tI t) a (.cMX tI t ix b))],.no,tE p.2 r (.sl e t (.Z nx) ((fr&&f)||t.flat) p.1),nr)
        | _=>none
       else
        let l1:=aD3 (aLH t (.Z nx) fr) off l0
        match fZ (fun _=>none) t l1 with
        | some (b,f,ks,[]) =>
         let p:=if uq then oG es ks else(false,es)
         some ([.cMW (.cN0 e t) (.cMX (.slice e t) tI a ix),.cMW (.cN3 e t) (.cMX (.slice e t) (.cMV tI t) a (.cMX tI t ix b))],.no,
          tE p.2 r (.sl e t (.Z (nx+1)) ((fr&&f)||t.flat) p.1),nr)
        | _=>none
      else none
     | _=>none
    | _=>none
    else none
   | none=>none
  | none=>none
 | .call { callee:=.builtin .append,args,argTypes }=>match args.toList,argTypes.toList with
  | [s,y],[T,T2]=>match P.underlying T with
   | some (.slice e)=>match aI4 P e with
    | some i=>match aZ1 es e i.t (sh s) with
     | some (a,fr,uq,rs,es1)=>match P.underlying T2,sh y with
      | some .string,.one (.d b .str _ _)=>if i.t = .int .u8/\i.bytes=1 then
        some ([.cMW (.lapps e) (.cMX (.slice e (.int .u8)) .str a b)],.one (.own nr),(nr,.sl e i.t (.Z nx) true uq)::es1,nr+1) else none
      | some (.slice _),.one l=>if T2=T then match bH5 es1 e i.t l with
       | some (b,f,uq2,es2)=>some ([.cMW (.cN2 e i.t i.bytes) (.cMX (.slice e i.t) (.slice e i.t) a b)],.one (.own nr),(nr,.sl e i.t (.Z nx) ((fr&&f)||i.t.flat) (uq&&uq2))::es2,nr+1)
       | _=>none
       else none
      | _,_=>none
     | none=>none
    | none=>none
   | _=>none
  | _,_=>none
 | .call { callee:=.value f,args,argTypes }=>match sh f with
  | .fn g=>match bC3 Cs g with
   | some (c,C)=>if C.bx.isSome=true then none else match oW (fL es) C.ams (args.toList.map sh) with
    | some (ars,rs,bs)=>if bVL es rs=true/\(bs.map (·.1)).Nodup/\dI (ars.map (·.1))=C.argTy/\dI (C.rms.map (·.t)++bs.map (·.2.2.t))=C.resTy then
      let ps:=gP (C.rms.map (·.t)++bs.map (·.2.2.t)) (.Z nx)
      let r1:=fI C.rms ps (!C.alias) nr
      let r2:=eH bs (ps.drop C.rms.length) false r1.2.2
      if decide ((r1.2.1++r2.1++cV es (rs.map (·.1)++bs.map (·.1))).map (·.1)).Nodup then
       some ([.call c (pK ars)],bYI r1.1,r1.2.1++r2.1++cV es (rs.map (·.1)++bs.map (·.1)),r2.2)
      else none
     else none
    | none=>none
   | none=>none
  | _=>none
 | _=>none
abbrev Tm:=List (Nat×Sh)
def gX:Tm->Nat->Sh
 | [],_=>.no
 | p::l,k=>match Nat.beq p.1 k with
  | true=>p.2
  | false=>gX l k
def cKX:Tm->Nat->Tm
 | [],_=>[]
 | p::l,m=>match m.testBit p.1 with
  | true=>cKX l m
  | false=>p::cKX l (m ||| 2 ^ p.1)
def bBV (n:Nat) (tm:Tm) (dst:Option Nat) (s:Sh):Tm:=match dst with
 | some d=>match Nat.ble (d+1) n with
  | true=>(d,s)::tm
  | false=>tm
 | none=>tm
structure St where
 tm:Tm
 n:Nat
 es:Es
 facts:List (Ar×Bool)
 nx:Nat
 nr:Nat
 cr:List (Nat×Nat)
def St.at' (σ:St) (t:Nat):Sh:=gX σ.tm t
def St.put (σ:St) (dst:Option Nat) (s:Sh):St:=match σ with
 | ⟨tm,n,es,fs,nx,nr,cr⟩=>⟨bBV n tm dst s,n,es,fs,nx,nr,cr⟩
def St.upd (σ:St) (es:Es) (nx nr:Nat) (cr:List (Nat×Nat)):St:=match σ with
 | ⟨tm,n,_,fs,_,_,_⟩=>⟨tm,n,es,fs,nx,nr,cr⟩
def St.fact (σ:St) (a:Ar) (v:Bool):St:=match σ with
 | ⟨tm,n,es,fs,nx,nr,cr⟩=>⟨tm,n,es,(a,v)::fs,nx,nr,cr⟩
def bD9 (fs:List (Ar×Bool)):Ar->Option Bool
 | .cb v=>some v
 | a=>(fs.find? fun p=>p.1.beq a).map (·.2)
def aMW (r:Nat) (a:Ar) (t:Ty) (fr:Bool) (k:Nat):Leaf->Leaf
 | .own q=>if q=r then .d a t fr k else .own q
 | l=>l
def bOD (r:Nat) (a:Ar) (t:Ty) (fr:Bool) (k:Nat):Sh->Sh
 | .one l=>.one (aMW r a t fr k l)
 | .agg ls=>.agg (ls.map (aMW r a t fr k))
 | s=>s
def bKY (r:Nat) (a:Ar) (t:Ty) (fr:Bool) (k:Nat):Sh->Sh
 | .tup ls=>.tup (ls.map (bOD r a t fr k))
 | s=>bOD r a t fr k s
def aQ4 (r:Nat) (a:Ar) (t:Ty) (fr:Bool) (k:Nat):Nat×Ent->Nat×Ent
 | (q,.box T ls)=>(q,.box T (ls.map (aMW r a t fr k)))
 | (q,.arr e u b f ls)=>(q,.arr e u b f (ls.map (aMW r a t fr k)))
 | p=>p
def bYJ (es:Es) (r:Nat):Option (Ar×Ty×Bool×Bool):=match fL es r with
 | some (.sl e t a fr uq)=>some (a,.slice e t,fr,uq)
 | some (.arr e t a fr _)=>some (a,.slice e t,fr,t.flat)
 | _=>none
def bEH (es:Es) (r:Nat) (a:Ar) (t:Ty) (fr uq:Bool):Es :=
 (if uq then tE es r (.uq t a fr) else cV es [r]).map (aQ4 r a t fr (if uq then r else 0))
def St.frz (σ:St) (r:Nat):Option St:=match bYJ σ.es r with
 | some (a,t,fr,uq)=>some { σ with tm:=σ.tm.map fun p=>(p.1,bKY r a t fr (if uq then r else 0) p.2),es:=bEH σ.es r a t fr uq }
 | none=>none
def aIG (es:Es) (r:Nat):Es:=match fL es r with
 | some (.arr e t a fr ls) =>
  let p:=oG es (rR t ls)
  tE p.2 r (.sl e t a fr p.1)
 | _=>es
def rU (es:Es):Es:=(es.map (·.1)).foldl aIG es
inductive HLoc where
 | tm (t j:Nat)
 | bx (r j:Nat)
 | sl (r:Nat)
 | dr (t:Nat)
 | dk (r:Nat)
 | on (t:Nat)
 | fz (r:Nat)
 | nf (t:Nat)
 | nb (r:Nat)
 | nq (r:Nat)
def iZ (h l:Nat):List HLoc:=(List.range (h+1 - l)).map fun i=>.dr (h - i)
inductive Err where
 | own (r dst:Nat)
 | gen (lvl:Nat) (g:List HLoc)
 | bad (code i:Nat)
inductive RT where
 | leaf (σ:St)
 | emit (l:Let) (k:RT)
 | ite (a:Ar) (x y:RT)
def bH4:List Let->RT->RT
 | [],k=>k
 | l::ls,k=>.emit l (bH4 ls k)
def Ar.okc:Ar->Bool
 | .ci k n=>(Lit.int k n).wf
 | .cs v=>decide (v.size<=maxLen)
 | .p1 _ _ p | .p2 _ _ p=>p.okc
 | .cMX _ _ p q=>p.okc&&q.okc
 | _=>true
def Prim.okc:Prim->Bool
 | .lit _ _ n=>decide (n<=1000)
 | _=>true
def Let.bd (n:Nat):Let->Bool
 | .cMW p a=>a.bd n&&a.okc&&p.okc
 | .call _ a=>a.bd n&&a.okc
def RT.goodB:Nat->RT->Bool
 | n,.leaf σ=>σ.nx==n
 | n,.emit l k=>l.bd n&&k.goodB (n+1)
 | n,.ite a x y=>a.bd n&&x.goodB n&&y.goodB n
def oL:Es->Sh->Es->Sh×Es
 | (r,.sl e t a fr uq)::new,s,kept=>oL new (bKY r a (.slice e t) fr (if uq then r else 0) s) (if uq then(r,.uq (.slice e t) a fr)::kept else kept)
 | (r,.arr e t a fr ls)::new,s,kept=>oL new (bKY r a (.slice e t) fr (if t.flat then r else 0) s) (if t.flat then(r,.uq (.slice e t) a fr)::kept else kept)
 | p::new,s,kept=>oL new s (p::kept)
 | [],s,kept=>(s,kept)
structure Dr where
 draw:Bool
 clo:Array Nat
 wrt:List (Nat×Nat)
 cre:List (Nat×Nat)
 mem:Nat
 trn:Bool
 fx:Es
 fin:Bool
def Dr.tm (d:Dr) (σ:St) (i:Nat) (t:Nat):Sh:=if d.draw then
  match d.wrt.find? fun p=>p.1==t with
  | some (_,j)=>if(d.clo.getD i 0).testBit j||(d.clo.getD j 0).testBit i then σ.at' t else .no
  | none=>σ.at' t
 else σ.at' t
def Dr.lk (d:Dr) (σ:St) (i:Nat):Lk:=fun r=>if d.draw then
  match d.cre.find? fun p=>p.1==r with
  | some (_,j)=>if(d.clo.getD i 0).testBit j then fL σ.es r else none
  | none=>fL σ.es r
 else fL σ.es r
def Dr.all (d:Dr) (i:Nat):Bool:=!d.draw||d.mem &&& (d.clo.getD i 0)==d.mem
def bOF:Sh->List Nat
 | .one (.own r)=>[r]
 | .agg ls=>ls.filterMap fun | .own r=>some r|_=>none
 | .cut r _ _ _ _=>[r]
 | _=>[]
section
variable (P:Program) (Cs:List Con) (wr:Bool) (D:List Nat)
def aWG (o:Oper) (sh:Operand->Sh) (lk:Lk) (nx nr:Nat):Option (List Let×Sh×Es×Nat) :=
 match aJK P o sh lk nx with
 | some (ls,s)=>some (ls,s,[],nr)
 | none=>match sM P Cs o sh lk nx nr with
  | some (ls,s,new)=>if decide (new.map (·.1)).Nodup then
    if D.contains (o.dst.getD 0) then some (ls,(oL new s []).1,(oL new s []).2,nr+new.length)
    else some (ls,s,new,nr+new.length)
   else none
  | none=>match cC8 P D o sh lk nx with
   | some (ls,s)=>some (ls,s,[],nr)
   | none=>none
def bU5 (o:Oper) (sh:Operand->Sh) (es:Es) (nx nr:Nat):Option (List Let×Sh×Es×Nat) :=
 match aP2 P Cs o sh es nx nr with
 | some (ls,.one (.own r),es',n)=>if D.contains (o.dst.getD 0) then match bYJ es' r with
   | some (a,t,fr,uq)=>some (ls,.one (.d a t fr (if uq then r else 0)),bEH es' r a t fr uq,n)
   | _=>none
  else some (ls,.one (.own r),es',n)
 | none=>cF7 P o sh es nx nr
 | x=>x
def bL5 (nr n:Nat) (new:Es):Bool:=decide (nr<=n)&&new.all fun p=>decide (nr<=p.1)&&decide (p.1<n)
def aV8:Leaf->Leaf->Bool
 | .d a t f k,.d b u g j=>a.beq b&&decide (t=u)&&f==g&&k==j
 | .own r,.own s=>r==s
 | .nl e t,.nl f u=>e==f&&decide (t=u)
 | _,_=>false
def aQN:List Leaf->List Leaf->Bool
 | [],[]=>true
 | a::as',b::bs=>aV8 a b&&aQN as' bs
 | _,_=>false
def bEY (es:Es) (p:Nat×Ent):Bool:=match p.2 with
 | .box T ls=>es.any fun q=>q.1==p.1&&match q.2 with
  | .box U ms=>T==U&&aQN ls ms
  | _=>false
 | .sl e t a f u=>es.any fun q=>q.1==p.1&&match q.2 with
  | .sl e' t' a' f' u'=>e==e'&&decide (t=t')&&a.beq a'&&f==f'&&u==u'
  | _=>false
 | _=>false
theorem bUX:{a b:Leaf}->aV8 a b=true->a=b
 | .d a t f k,.d b u g j,h=>by
  simp only[aV8,Bool.and_eq_true,beq_iff_eq,decide_eq_true_eq] at h
  rw[Ar.beq_eq h.1.1.1,h.1.1.2,h.1.2,h.2]
 | .own r,.own s,h=>by simp[aV8] at h;rw[h]
 | .nl e t,.nl f u,h=>by simp[aV8] at h;rw[h.1,h.2]
theorem aWP:{a b:List Leaf}->aQN a b=true->a=b
 | [],[],_=>rfl
 | a::as',b::bs,h=>by
  simp only[aQN,Bool.and_eq_true] at h
  rw[bUX h.1,aWP h.2]
theorem cAY {es:Es} {p:Nat×Ent} (h:bEY es p=true):p∈es:=by
 unfold bEY at h
 split at h
 ·rename_i T ls hp
  rw[List.any_eq_true] at h
  obtain⟨q,hq,h⟩:=h
  simp only[Bool.and_eq_true,beq_iff_eq] at h
  obtain⟨h1,h2⟩:=h
  split at h2
  ·rename_i U ms hu
   simp only[Bool.and_eq_true,beq_iff_eq] at h2
   have:q=p:=Prod.ext h1 (by rw[hu,hp,h2.1,aWP h2.2])
   rw[<-this];exact hq
  ·cases h2
 ·rename_i e t a f u hp
  rw[List.any_eq_true] at h
  obtain⟨q,hq,h⟩:=h
  simp only[Bool.and_eq_true,beq_iff_eq] at h
  obtain⟨h1,h2⟩:=h
  split at h2
  ·rename_i hu
   simp only[Bool.and_eq_true,beq_iff_eq,decide_eq_true_eq] at h2
   obtain⟨⟨⟨⟨h3,h4⟩,h5⟩,h6⟩,h7⟩:=h2
   have:q=p:=Prod.ext h1 (by rw[hu,hp,h3,h4,Ar.beq_eq h5,h6,h7])
   rw[<-this];exact hq
  ·cases h2
 ·cases h
def bWF (clo:Array Nat) (i:Nat):Bool:=(List.range clo.size).all fun j=>j==i||(clo.getD i 0).testBit j
theorem cC6 {clo:Array Nat} {i:Nat} (h:bWF clo i=true):∀j,j<clo.size->j≠i->(clo.getD i 0).testBit j=true:=fun j hj hn=>by
 unfold bWF at h
 rw[List.all_eq_true] at h
 have:=h j (List.mem_range.2 hj)
 rw[Bool.or_eq_true,beq_iff_eq] at this
 exact this.resolve_left hn
def aGM (i:Nat) (o:Oper) (σ:St) (d:Dr):Option (List Let×St×Dr) :=
 let sh:=aGI (d.tm σ i)
 match jN P wr o sh σ.nx with
 | some (ls,s)=>some (ls,(σ.put o.dst s).upd σ.es (σ.nx+ls.length) σ.nr σ.cr,d)
 | none=>match (if d.draw then aJK P o sh (fL d.fx) σ.nx else none) with
  | some (ls,s)=>some (ls,(σ.put o.dst s).upd σ.es (σ.nx+ls.length) σ.nr σ.cr,d)
  | none =>
   match (if d.trn then none else aWG P Cs D o sh (d.lk σ i) σ.nx σ.nr) with
   | some (ls,s,new,n)=>if bL5 σ.nr n new then
    some (ls,(σ.put o.dst s).upd (new++σ.es) (σ.nx+ls.length) n (new.map (fun p=>(p.1,o.dst.getD 0))++σ.cr),
     { d with mem:=d.mem ||| 2 ^ i,cre:=new.map (fun p=>(p.1,i))++d.cre })
    else none
   | none=>if d.all i && !d.fin then
     match aWG P Cs D o sh (fL σ.es) σ.nx σ.nr with
     | some (ls,s,new,n)=>if bL5 σ.nr n [] then
      some (ls,(σ.put o.dst s).upd (new++σ.es) (σ.nx+ls.length) n (new.map (fun p=>(p.1,o.dst.getD 0))++σ.cr),{ d with mem:=d.mem ||| 2 ^ i,trn:=d.draw })
      else none
     | none=>match bU5 P Cs D o sh σ.es σ.nx σ.nr with
      | some (ls,s,es,n)=>if(bL5 σ.nr n []&&(d.fx.all (bEY es)||bWF d.clo i))=true then some (ls,(σ.put o.dst s).upd es (σ.nx+ls.length) n ((bOF s).map (fun r=>(r,o.dst.getD 0))++σ.cr),{ d with mem:=d.mem ||| 2 ^ i,trn:=d.draw,fin:=!d.fx.all (bEY es) }) else none
      | none=>none
    else none
def cBJ (ops:Array Oper) (o:Oper) (σ:St) (d:Dr) (i:Nat):Err :=
 match o.op.operands.toList.flatMap fun x=>bOF (aGI (d.tm σ i) x) with
 | r::_=>.own r (((σ.cr.find? fun p=>p.1==r).map (·.2)).getD 0)
 | []=>match (if d.draw then ops.toList.zipIdx.flatMap fun p=>if d.mem.testBit p.2 && !(d.clo.getD i 0).testBit p.2 then p.1.op.operands.toList.flatMap fun x=>bOF (aGI σ.at' x) else [] else []) with
  | r::_=>.own r (((σ.cr.find? fun p=>p.1==r).map (·.2)).getD 0)
  | []=>.bad 1 i
def rW (ops:Array Oper):List (Nat×Oper)->St->Dr->Except Err RT
 | [],σ,_=>.ok (.leaf (σ.upd (rU σ.es) σ.nx σ.nr σ.cr))
 | (i,o)::rest,σ,d =>
  let skip (σ:St):Except Err RT:=rW ops rest (σ.put o.dst .und) d
  let go (σ:St):Except Err RT:=match o.op with
   | .pick c a b=>match aGI (d.tm σ i) c with
    | .one (.d k .bool _ _)=>match bD9 σ.facts k with
     | some v=>rW ops rest (σ.put o.dst (aGI (d.tm σ i) (if v then a else b))) d
     | none=>match rW ops rest ((σ.fact k true).put o.dst (aGI (d.tm σ i) a)) d with
      | .ok x=>match rW ops rest ((σ.fact k false).put o.dst (aGI (d.tm σ i) b)) d with
       | .ok y=>.ok (.ite k x y)
       | .error e=>.error e
      | .error e=>.error e
    | _=>.error (.bad 2 i)
   | _=>match aGM P Cs wr D i o σ d with
    | some (ls,σ',d')=>match rW ops rest σ' d' with
     | .ok x=>.ok (bH4 ls x)
     | .error e=>.error e
    | none=>.error (cBJ ops o σ d i)
  match o.guard with
  | none=>go σ
  | some (j,want)=>match (ops[j]?).bind (·.dst) with
   | some t=>match d.tm σ i t with
    | .und=>skip σ
    | .one (.d k .bool _ _)=>match bD9 σ.facts k with
     | some v=>if v=want then go σ else skip σ
     | none=>match (if want then go (σ.fact k true) else skip (σ.fact k true)) with
      | .ok x=>match (if want then skip (σ.fact k false) else go (σ.fact k false)) with
       | .ok y=>.ok (.ite k x y)
       | .error e=>.error e
      | .error e=>.error e
    | _=>.error (.bad 4 i)
   | none=>.error (.bad 5 i)
end
def bQY (ops:Array Oper):Bool:=(ops.toList.filterMap (·.dst)).Nodup
def bIO (ops:Array Oper) (draw:Bool) (fx:Es:=[]):Dr :=
 { draw,clo:=if draw then Region.before ops else #[],wrt:=if draw then ops.toList.zipIdx.filterMap fun p=>p.1.dst.map fun t=>(t,p.2) else [],cre:=[],mem:=0,trn:=false,fx,fin:=false }
def wC {α:Type}:Nat->List α->List (Nat×α)
 | _,[]=>[]
 | n,x::xs=>(n,x)::wC (n+1) xs
def cGW:Op->Nat
 | .move _ | .assign _ | .nilCheck _ | .binOp .. | .unOp .. | .field .. | .fieldAddr .. | .extract .. | .index .. | .build .. | .pick ..=>0
 | .convert .. | .indexAddr .. | .slice .. | .load .. | .alloc _ | .box ..=>1
 | .call { callee:=.builtin .append,.. }=>4
 | .call { callee:=.builtin _,.. }=>1
 | .makeSlice .. | .buildSlice .. | .call _=>2
 | _=>5
def aMC (done:Nat) (clo:Array Nat) (c:Nat):List (Nat×Oper)->Option (Nat×Oper)
 | []=>none
 | p::ps=>if cGW p.2.op<=c&&(clo.getD p.1 0) &&& done==clo.getD p.1 0 then some p else aMC done clo c ps
def bC2 (clo:Array Nat):Nat->Nat->List (Nat×Oper)->List (Nat×Oper)
 | 0,_,l=>l
 | n+1,done,l =>
  match (aMC done clo 0 l).or ((aMC done clo 1 l).or ((aMC done clo 2 l).or ((aMC done clo 4 l).or (aMC done clo 9 l)))) with
  | some p=>p::bC2 clo n (done ||| 2 ^ p.1) (l.filter fun q=>q.1 != p.1)
  | none=>l
def bUC (ops:Array Oper):Nat->Operand->Option Nat
 | 0,_=>none
 | n+1,.tmp t=>match ops.toList.find? fun o=>o.dst==some t with
  | some o=>match o.op with
   | .fieldAddr _ x _=>bUC ops n x
   | .move x | .assign x | .nilCheck x=>bUC ops n x
   | _=>some t
  | none=>some t
 | _,_=>none
def cGH (ops:Array Oper) (σ:St):List Nat:=((wC 0 ops.toList).flatMap fun p=>match p.2.op with
 | .store _ x _=>if bWF (Region.before ops) p.1 then [] else [x]
 | .call c=>c.args.toList
 | _=>[]).filterMap fun x=>match bUC ops 20 x with
  | some t=>match σ.at' t with
   | .pbox r _=>some r
   | _=>none
  | none=>none
def bT7 (ops:Array Oper) (σ:St):Es:=σ.es.filter fun p=>(match p.2 with | .box _ _=>true|_=>false) && !(cGH ops σ).contains p.1
def cE5 (x y:Except Err RT):Except Err RT:=match x with
 | .ok r=>.ok r
 | .error e=>match y with
  | .ok r=>.ok r
  | .error _=>.error e
theorem cFQ {x y:Except Err RT} {r:RT} (h:cE5 x y = .ok r):x = .ok r\/y = .ok r:=by
 unfold cE5 at h
 split at h
 ·exact .inl h
 ·split at h
  ·exact .inr h
  ·cases h
def cFT (ops:Array Oper) (σ:St):Es:=bT7 ops σ++σ.es.filter fun p=>match p.2 with | .sl _ _ _ _ _=>true|_=>false
section
variable (P:Program) (Cs:List Con) (wr:Bool)
def bY1 (clo:Array Nat):Nat->List (Nat×Oper)->Bool
 | _,[]=>true
 | done,p::ps=>(clo.getD p.1 0 &&& done==clo.getD p.1 0)&&bY1 clo (done ||| 2 ^ p.1) ps
def bM6 (clo:Array Nat) (o:Oper):Nat:=o.after.toList.foldl (fun s e=>if Region.binds .any e then s ||| (2 ^ e.on ||| clo.getD e.on 0) else s) 0
def bNV (ops:Array Oper) (clo:Array Nat) (ord:List (Nat×Oper)):Bool :=
 bQY ops&&ord.length==ops.size&&decide (ord.map (·.1)).Nodup&&((List.range ops.size).all fun i=>(ord.map (·.1)).contains i)&&bY1 clo 0 ord &&
  (wC 0 ops.toList).all fun p=>clo.getD p.1 0==bM6 clo p.2
def aHI (ops:Array Oper) (draw:Bool):List (Nat×Oper):=if draw then bC2 (Region.before ops) ops.size 0 (wC 0 ops.toList) else wC 0 ops.toList
end
def cKY (a b:Ty):Ar->Ar
 | .cMX a' b' p q=>if a'=a/\b'=b then p else .p1 a b (.cMX a' b' p q)
 | p=>.p1 a b p
def cKS (a b:Ty):Ar->Ar
 | .cMX a' b' p q=>if a'=a/\b'=b then q else .p2 a b (.cMX a' b' p q)
 | p=>.p2 a b p
def Ar.sub (n:Nat) (q:Ar):Ar->Ar
 | .Z m=>if m=n then q else .Z m
 | .p1 a b p=>cKY a b (Ar.sub n q p)
 | .p2 a b p=>cKS a b (Ar.sub n q p)
 | .cMX a b p r=>bHD a b (Ar.sub n q p) (Ar.sub n q r)
 | a=>a
def Ar.wt (n:Nat) (t0:Ty):Ty->Ar->Bool
 | t,.Z m=>m != n||decide (t=t0)
 | t,.ci k _=>decide (t = .int k)
 | t,.cb _=>decide (t = .bool)
 | t,.cs _=>decide (t = .str)
 | t,.nl e u=>decide (t = .slice e u)
 | t,.p1 x y p=>decide (t=x)&&Ar.wt n t0 (.cMV x y) p
 | t,.p2 x y p=>decide (t=y)&&Ar.wt n t0 (.cMV x y) p
 | t,.cMX x y p r=>decide (t = .cMV x y)&&Ar.wt n t0 x p&&Ar.wt n t0 y r
def aIT (m:Nat->Nat) (n:Nat) (t0:Ty) (q:Ar):Leaf->Leaf->Bool
 | .d a t fr k,.d b u f j=>(Ar.sub n q a).beq b&&decide (t=u)&&(!fr||f||t.flat)&&(k==0||(j != 0&&m k==j))&&a.bd (n+1)&&Ar.wt n t0 t a
 | .d a t _ 0,.nl e u=>(Ar.sub n q a).beq (.nl e u)&&decide (t = .slice e u)&&a.bd (n+1)&&Ar.wt n t0 t a
 | .own r,.own s=>m r==s
 | .nl e t,.nl f u=>e==f&&decide (t=u)
 | _,_=>false
def aHF (m:Nat->Nat) (n:Nat) (t0:Ty) (q:Ar):List Leaf->List Leaf->Bool
 | [],[]=>true
 | a::ars,b::bs=>aIT m n t0 q a b&&aHF m n t0 q ars bs
 | _,_=>false
def aF6 (m:Nat->Nat) (n:Nat) (t0:Ty) (q:Ar):Sh->Sh->Bool
 | .no,_=>true
 | .one a,.one b=>aIT m n t0 q a b
 | .agg a,.agg b=>aHF m n t0 q a b
 | .nilS,.nilS=>true
 | .pbox r f,.pbox s g=>m r==s&&f==g
 | .fn f,.fn g=>f==g
 | .und,.und=>true
 | _,_=>false
def aKF (m:Nat->Nat) (n:Nat) (t0:Ty) (q:Ar):Ent->Ent->Bool
 | .box T a,.box U b=>T==U&&aHF m n t0 q a b
 | .sl e t a fr uq,.sl f u b g up=>e==f&&decide (t=u)&&(Ar.sub n q a).beq b&&(!fr||g||t.flat)&&(!uq||up)&&a.bd (n+1)&&Ar.wt n t0 (.slice e t) a
 | .uq t a fr,.uq u b g=>decide (t=u)&&(Ar.sub n q a).beq b&&(!fr||g)&&a.bd (n+1)&&Ar.wt n t0 t a
 | _,_=>false
def bLN (m:Nat->Nat) (n:Nat) (t0:Ty) (q:Ar) (hs:Es) (cs:Es):Bool :=
 (hs.all fun p=>match fL cs (m p.1) with
  | some e=>aKF m n t0 q p.2 e
  | none=>false)&&decide ((hs.map fun p=>m p.1).Nodup)
def aWL (m:Nat->Nat) (n:Nat) (t0:Ty) (q:Ar) (hs cs:Tm):Bool:=hs.all fun p=>aF6 m n t0 q p.2 (gX cs p.1)
def aD5:List Leaf->List Leaf->List (Nat×Nat)
 | .own r::as',.own s::bs=>(r,s)::aD5 as' bs
 | .d _ _ _ k::as',.d _ _ _ j::bs=>if k != 0&&j != 0 then(k,j)::aD5 as' bs else aD5 as' bs
 | _::as',_::bs=>aD5 as' bs
 | _,_=>[]
def cG3:Sh->Sh->List (Nat×Nat)
 | .one a,.one b=>aD5 [a] [b]
 | .agg a,.agg b=>aD5 a b
 | .pbox r _,.pbox s _=>[(r,s)]
 | _,_=>[]
def mpF (l:List (Nat×Nat)) (r:Nat):Nat:=((l.find? fun p=>p.1==r).map (·.2)).getD r
def mpN (N M:Nat) (l:List (Nat×Nat)) (r:Nat):Nat:=if r<N then mpF l r else M+r
def aKB (hs cs:Tm) (he ce:Es):List (Nat×Nat) :=
 let m1:=(hs.flatMap fun p=>cG3 p.2 (gX cs p.1)).filter fun p=>(fL ce p.2).isSome
 let m:=m1++he.flatMap fun p=>match p.2,fL ce (mpF m1 p.1) with
  | .box _ a,some (.box _ b)=>(aD5 a b).filter fun p=>(fL ce p.2).isSome
  | _,_=>[]
 m.filter (fun p=>p.1 != p.2)++m.filter (fun p=>p.1==p.2)
def nM:List Leaf->List Leaf->Nat->List Leaf×Es×Nat
 | .own _::as',.nl e t::bs,n =>
  let (l,es,n'):=nM as' bs (n+1)
  (.own n::l,(n,.sl e t (.nl e t) true true)::es,n')
 | .d _ _ _ (k+1)::as',.nl e t::bs,n =>
  let (l,es,n'):=nM as' bs (n+1)
  (.own n::l,(n,.sl e t (.nl e t) true true)::es,n')
 | _::as',b::bs,n =>
  let (l,es,n'):=nM as' bs n
  (b::l,es,n')
 | _,bs,n=>(bs,[],n)
def aI2 (h c:Sh) (n:Nat):Sh×Es×Nat:=match h,c with
 | .one a,.one b=>match nM [a] [b] n with
  | ([b'],es,n')=>(.one b',es,n')
  | _=>(c,[],n)
 | .agg a,.agg b =>
  let (b',es,n'):=nM a b n
  (.agg b',es,n')
 | _,_=>(c,[],n)
def aAA:Tm->Tm->Nat->Tm×Es×Nat
 | h::hs,cs,n =>
  let (c',e1,n1):=aI2 h.2 (gX cs h.1) n
  let (cs',e2,n2):=aAA hs cs n1
  ((h.1,c')::cs',e1++e2,n2)
 | [],_,n=>([],[],n)
def nilFix (hs:Tm) (σ:St):St :=
 let (tm,es,n):=aAA hs σ.tm σ.nr
 { σ with tm,es:=es++σ.es,nr:=n }
def bK0:List Leaf->List Leaf->List Nat
 | .d _ _ _ _::as',.own s::bs=>s::bK0 as' bs
 | _::as',_::bs=>bK0 as' bs
 | _,_=>[]
def cJB:Sh->Sh->List Nat
 | .one a,.one b=>bK0 [a] [b]
 | .agg a,.agg b=>bK0 a b
 | _,_=>[]
def frzAll:List Nat->St->St
 | [],σ=>σ
 | r::rs,σ=>match σ.frz r with
  | some σ'=>frzAll rs σ'
  | none=>frzAll rs σ
def prep (hs:Tm) (he:Es) (σ0:St):St :=
 let σ:=nilFix hs σ0
 let cs:=σ.tm
 let m:=aKB hs cs he σ.es
 frzAll (hs.flatMap (fun p=>cJB p.2 (gX cs p.1))++he.flatMap fun p=>match p.2,fL σ.es (mpF m p.1) with
  | .box _ a,some (.box _ b)=>bK0 a b
  | _,_=>[]) σ
def aQW (m:Nat->Nat) (es:Es) (n:Nat) (q:Ar) (mk:Nat->HLoc):Nat->List Leaf->List Leaf->List HLoc
 | j,.d a t _ k::as',.d b u _ i::bs =>
  (if(Ar.sub n q a).beq b then [] else [mk j])++(if k==0||(m k==i&&cLN (fL es i)) then [] else [.dk k])++aQW m es n q mk (j+1) as' bs
 | j,.d a t _ k::as',.nl e u::bs=>(if(Ar.sub n q a).beq (.nl e u) then [] else [mk j])++(if k==0 then [] else [.dk k])++aQW m es n q mk (j+1) as' bs
 | j,_::as',_::bs=>aQW m es n q mk (j+1) as' bs
 | _,_,_=>[]
def bEC (m:Nat->Nat) (es:Es):List Leaf->List Leaf->Bool
 | .own r::as',.own s::bs=>(fL es s).isNone||m r != s||bEC m es as' bs
 | .d _ _ _ k::as',.d _ _ _ j::bs=>(k != 0&&j != 0&&((fL es j).isNone||m k != j))||bEC m es as' bs
 | _::as',_::bs=>bEC m es as' bs
 | _,_=>false
def bNF:List Leaf->List Leaf->List HLoc
 | .own r::as',.d _ _ _ _::bs=>.fz r::bNF as' bs
 | _::as',_::bs=>bNF as' bs
 | _,_=>[]
def bRT:List Leaf->List Leaf->Bool
 | .d _ t true _::as',.d _ _ false _::bs=>!t.flat||bRT as' bs
 | _::as',_::bs=>bRT as' bs
 | _,_=>false
def cME (n:Nat) (t0:Ty) (q:Ar) (σh σ:St):List HLoc :=
 let m:=aKB σh.tm σ.tm σh.es σ.es
 let le:=fun h c=>aF6 (mpF m) n t0 q h c
 (σh.tm.flatMap fun p=>match p.2,gX σ.tm p.1 with
  | .no,_=>[]
  | .one (.nl _ _),.one (.own _)=>[.on p.1]
  | .one (.own r),.one (.d _ _ _ _)=>[.fz r]
  | .one (.own r),.one (.own s)=>if(fL σ.es s).isNone then [.dr p.1] else if mpF m r==s then [] else [.dr p.1]
  | .one a,.one b=>if bEC (mpF m) σ.es [a] [b] then [.dr p.1] else if bRT [a] [b] then [.nf p.1] else match aQW (mpF m) σ.es n q (.tm p.1) 0 [a] [b] with
    | []=>if le p.2 (gX σ.tm p.1) then [] else [.dr p.1]
    | l=>l
  | .agg a,.agg b=>if bEC (mpF m) σ.es a b then [.dr p.1] else match bNF a b with
   | x::l=>x::l
   | []=>if bRT a b then [.nf p.1] else match aQW (mpF m) σ.es n q (.tm p.1) 0 a b with
    | []=>if le p.2 (gX σ.tm p.1) then [] else [.dr p.1]
    | l=>l
  | .pbox r f,.pbox s g=>if mpF m r==s&&f==g then [] else [.dr p.1]
  | h,c=>if le h c then [] else [.dr p.1]) ++
 σh.es.flatMap fun p=>match p.2,fL σ.es (mpF m p.1) with
  | .box _ a,some (.box _ b)=>bNF a b++(if bRT a b then [.nb p.1] else [])++aQW (mpF m) σ.es n q (.bx p.1) 0 a b
  | .sl _ _ a fr uq,some (.sl _ t b g up)=>(if(Ar.sub n q a).beq b then [] else [.sl p.1])++(if uq && !up then [.nq p.1] else [])++if fr && !g && !t.flat then [.nb p.1] else []
  | .uq _ a _,some (.uq _ b _)=>if(Ar.sub n q a).beq b then [] else [.sl p.1]
  | .uq _ _ _,none=>[.dk p.1]
  | _,_=>[]
def bU0:List Leaf->List Nat:=List.filterMap fun
 | .own r=>some r
 | .d _ _ _ k=>if k=0 then none else some k
 | _=>none
def bOZ:Sh->List Nat
 | .one l=>bU0 [l]
 | .agg ls=>bU0 ls
 | .pbox r _=>[r]
 | _=>[]
def cIK:Sh->List Nat
 | .tup ls=>ls.flatMap bOZ
 | s=>bOZ s
def cBV (tm:Tm) (es:Es):Es :=
 let r1:=tm.flatMap fun p=>cIK p.2
 let r2:=es.flatMap fun p=>match p.2 with
  | .box _ ls=>if r1.contains p.1 then bU0 ls else []
  | _=>[]
 es.filter fun p=>r1.contains p.1||r2.contains p.1
def cDW (es:Es):Leaf->Leaf
 | .d a t fr k=>if cLN (fL es k) then .d a t fr k else .d a t fr 0
 | l=>l
def cGS (es:Es):Sh->Sh
 | .one l=>.one (cDW es l)
 | .agg ls=>.agg (ls.map (cDW es))
 | s=>s
def cDF (σ:St):St:={ σ with tm:=σ.tm.map (fun p=>(p.1,cGS σ.es p.2)),es:=σ.es.map fun p=>match p with
 | (r,.box T ls)=>(r,.box T (ls.map (cDW σ.es)))
 | p=>p }
def cE3:Err->Err->Err
 | .own r d,_=>.own r d
 | _,e=>e
def bMJ:Prim->Prim->Bool
 | .ar o k,.ar p j=>decide (o=p)&&decide (k=j)
 | .cmp o k,.cmp p j=>decide (o=p)&&decide (k=j)
 | .cMZ e t,.cMZ f u=>e==f&&decide (t=u)
 | .cN0 e t,.cN0 f u=>e==f&&decide (t=u)
 | .lit e t n,.lit f u m=>e==f&&decide (t=u)&&n==m
 | .cN2 e t n,.cN2 f u m=>e==f&&decide (t=u)&&n==m
 | .not,.not=>true
 | _,_=>false
theorem bT6 {p q:Prim} (h:bMJ p q=true):p=q:=by
 unfold bMJ at h
 split at h
 all_goals first
  | rfl
  | (cases h;done)
  | (simp only[Bool.and_eq_true,decide_eq_true_eq,beq_iff_eq] at h;obtain⟨rfl,rfl⟩:=h;rfl)
  | (simp only[Bool.and_eq_true,decide_eq_true_eq,beq_iff_eq] at h;obtain⟨⟨rfl,rfl⟩,rfl⟩:=h;rfl)
def bTR:Let->Let->Bool
 | .call c a,.call d b=>c==d&&a.beq b
 | .cMW p a,.cMW q b=>bMJ p q&&a.beq b
 | _,_=>false
theorem cAL {p q:Let} (h:bTR p q=true):p=q:=by
 unfold bTR at h
 split at h
 ·simp only[Bool.and_eq_true,beq_iff_eq] at h
  rw[h.1,Ar.beq_eq h.2]
 ·simp only[Bool.and_eq_true] at h
  rw[bT6 h.1,Ar.beq_eq h.2]
 ·cases h
def aR1:List Let->RT->Option RT
 | [],r=>some r
 | l::ls,.emit l' r=>if bTR l l' then aR1 ls r else none
 | _::_,_=>none
theorem aT3:(ls:List Let)->{r r':RT}->aR1 ls r=some r'->r=bH4 ls r'
 | [],r,r',h=>by
  simp only[aR1,eW] at h
  rw[h];rfl
 | l::ls,r,r',h=>by
  unfold aR1 at h
  split at h
  ·rename_i h0;cases h0
  ·rename_i l2 ls2 l' r2 h0
   obtain⟨rfl,rfl⟩:=List.cons.inj h0
   split at h
   ·rename_i hq
    rw[bH4,<-cAL hq,<-aT3 _ h]
   ·cases h
  ·cases h
def bFV:RT->RT
 | .leaf σ=>.emit (.cMW .not (.cb true)) (.leaf { σ with nx:=σ.nx+1,es:=cBV σ.tm σ.es })
 | .emit l k=>.emit l (bFV k)
 | .ite a x y=>.ite a (bFV x) (bFV y)
def bLS (N0:Nat) (σ:St):RT->Bool
 | .emit (.cMW .not (.cb true)) (.leaf σF) =>
  aWL (mpN σF.nr σ.nr (aKB σF.tm σ.tm σF.es (rU σ.es))) σ.nx .bool (.Z σ.nx) σF.tm σ.tm&&σF.n==σ.n &&
   bLN (mpN σF.nr σ.nr (aKB σF.tm σ.tm σF.es (rU σ.es))) σ.nx .bool (.Z σ.nx) σF.es (rU σ.es) &&
   ((List.range N0).all fun r=>mpN σF.nr σ.nr (aKB σF.tm σ.tm σF.es (rU σ.es)) r==r) &&
   σF.facts.all fun p=>p.1.bd σ.nx&&σ.facts.any fun q=>q.1.beq p.1&&q.2==p.2
 | _=>false
def aFG (done:Nat) (p:Nat×Oper):Bool:=!done.testBit p.1&&p.2.after.toList.all fun ed=>!Region.binds .any ed||done.testBit ed.on
def cCM (ops:Array Oper) (p:Nat×Oper):Bool:=(match p.2.op with | .move _=>true|_=>false) &&
 (wC 0 ops.toList).all fun q=>q.1==p.1||(q.2.after.toList.any fun e=>Region.binds .any e&&e.on==p.1)||p.2.apart ops q.2
section
variable (P:Program) (Cs:List Con) (wr:Bool) (D:List Nat)
def bYU (ops:Array Oper) (N0:Nat):Nat->Nat->St->RT->Bool
 | 0,done,σ,R=>((wC 0 ops.toList).filter (aFG done)).isEmpty&&bLS N0 σ R
 | n+1,done,σ,R=>match ((wC 0 ops.toList).filter (aFG done)).find? (cCM ops) with
  | some p=>match aGM P Cs wr D p.1 p.2 σ (bIO ops false) with
   | some (ls,σ',_)=>match aR1 ls R with
    | some R'=>bYU ops N0 n (done ||| 2 ^ p.1) σ' R'
    | none=>false
   | none=>false
  | none=>(!((wC 0 ops.toList).filter (aFG done)).isEmpty||bLS N0 σ R) &&
   ((wC 0 ops.toList).filter (aFG done)).all fun p=>match aGM P Cs wr D p.1 p.2 σ (bIO ops false) with
    | some (ls,σ',_)=>match aR1 ls R with
     | some R'=>bYU ops N0 n (done ||| 2 ^ p.1) σ' R'
     | none=>false
    | none=>false
def aVK (ops:Array Oper) (σ:St):Except Err RT :=
 if(ops.toList.all fun o=>o.guard.isNone)&&Region.noSelect ops then
  match rW P Cs wr D ops (aHI ops true) σ (bIO ops false) with
  | .ok rt=>if bYU P Cs wr D ops σ.nr ops.size 0 σ (bFV rt) then .ok (bFV rt) else .error (.bad 60 0)
  | .error e=>.error e
 else .error (.bad 61 0)
def cE8 (ops:Array Oper) (σ:St) (er:Err):Except Err RT:=if ops.toList.any (fun o=>match o.op with | .alloc _=>true|_=>false)&&decide (ops.size<=14) then aVK P Cs wr D ops σ else .error er
end
section
variable (P:Program) (Cs:List Con) (wr:Bool)
def aG8 (ops:Array Oper) (draw:Bool):Nat->List Nat->St->Except Err RT
 | 0,_,_=>.error (.bad 6 0)
 | n+1,D,σ=>if draw && !bNV ops (Region.before ops) (aHI ops draw) then .error (.bad 7 0) else
  match rW P Cs wr D ops (aHI ops draw) σ (bIO ops draw) with
  | .ok x=>.ok x
  | .error err=>match (if draw then cE5 (rW P Cs wr D ops (aHI ops draw) σ (bIO ops draw (bT7 ops σ))) (rW P Cs wr D ops (aHI ops draw) σ (bIO ops draw (cFT ops σ))) else .error err) with
   | .ok x=>.ok x
   | .error err2=>match (if draw then cE8 P Cs wr D ops σ err2 else .error err2) with
    | .ok x=>.ok x
    | .error err3=>match cE3 (cE3 err err2) err3 with
     | .own r dst=>if r<σ.nr then match σ.frz r with
       | some σ'=>aG8 ops draw n D σ'
       | none=>.error (.bad 8 r)
      else if D.contains dst then .error (.bad 9 r) else aG8 ops draw n (dst::D) σ
     | e=>.error e
end
def bCK:List Leaf->Nat->Ar->List Leaf
 | .d _ t fr k::ls,0,a=>.d a t fr k::ls
 | .nl e t::ls,0,a=>.d a (.slice e t) true 0::ls
 | l::ls,j+1,a=>l::bCK ls j a
 | ls,_,_=>ls
def aR9 (ls:List Leaf) (j:Nat):Option (Ty×Ar):=match ls[j]? with
 | some (.d a t _ _)=>some (t,a)
 | some (.nl e t)=>some (.slice e t,.nl e t)
 | _=>none
def cD4 (σ:St):HLoc->Option (Ty×Ar)
 | .tm t j=>match σ.at' t with
  | .one l=>aR9 [l] j
  | .agg ls=>aR9 ls j
  | _=>none
 | .bx r j=>match fL σ.es r with
  | some (.box _ ls)=>aR9 ls j
  | _=>none
 | .sl r=>match fL σ.es r with
  | some (.sl e t a _ _)=>some (.slice e t,a)
  | some (.uq t a _)=>some (t,a)
  | _=>none
 | _=>none
def cK4 (tm:Tm) (t:Nat) (s:Sh):Tm:=tm.map fun p=>if p.1=t then(t,s) else p
def aGK (σ:St) (l:HLoc) (a:Ar):St:=match l with
 | .tm t j=>match σ.at' t with
  | .one l=>{ σ with tm:=cK4 σ.tm t (match bCK [l] j a with | [l']=>.one l'|_=>.no) }
  | .agg ls=>{ σ with tm:=cK4 σ.tm t (.agg (bCK ls j a)) }
  | _=>σ
 | .bx r j=>match fL σ.es r with
  | some (.box T ls)=>{ σ with es:=tE σ.es r (.box T (bCK ls j a)) }
  | _=>σ
 | .sl r=>match fL σ.es r with
  | some (.sl e t _ fr uq)=>{ σ with es:=tE σ.es r (.sl e t a fr uq) }
  | some (.uq t _ fr)=>{ σ with es:=tE σ.es r (.uq t a fr) }
  | _=>σ
 | .dr t=>{ σ with tm:=σ.tm.filter fun p=>p.1 != t }
 | .dk r=>{ σ with es:=cV σ.es [r] }
 | .fz _=>σ
 | .nf _=>σ
 | .nb _=>σ
 | .nq _=>σ
 | .on t=>match σ.at' t with
  | .one (.nl e u)=>{ σ with tm:=cK4 σ.tm t (.one (.own σ.nr)),es:=(σ.nr,.sl e u (.nl e u) true true)::σ.es,nr:=σ.nr+1 }
  | _=>σ
def cK3:Leaf->Leaf
 | .d a t _ k=>.d a t false k
 | l=>l
def cKC:Sh->Sh
 | .one l=>.one (cK3 l)
 | .agg ls=>.agg (ls.map cK3)
 | s=>s
def cI7:Ent->Ent
 | .box T ls=>.box T (ls.map cK3)
 | .sl e t a _ uq=>.sl e t a false uq
 | e=>e
def cJ2 (G:List HLoc) (es:Es):Es:=(G.filterMap fun l=>match l with | .nq t=>some t|_=>none).foldl (fun es r=>match fL es r with
 | some (.sl e t a fr _)=>tE es r (.sl e t a fr false)
 | _=>es) es
def cMM (σ:St) (G:List HLoc):Tm×Es :=
 let σ:=frzAll (G.filterMap fun l=>match l with | .fz r=>some r|_=>none) σ
 let nfs:=G.filterMap fun l=>match l with | .nf t=>some t|_=>none
 let nbs:=G.filterMap fun l=>match l with | .nb t=>some t|_=>none
 (if nfs.isEmpty then σ.tm else σ.tm.map fun p=>if nfs.contains p.1 then(p.1,cKC p.2) else p,
  cJ2 G (if nbs.isEmpty then σ.es else σ.es.map fun p=>if nbs.contains p.1 then(p.1,cI7 p.2) else p))
def bUV (ks:List Nat) (es:Es):Leaf->Leaf
 | .d a t fr k=>if ks.contains k then match fL es k with
  | some (.uq u b _)=>if u=t then .d b t fr k else .d a t fr k
  | _=>.d a t fr k else .d a t fr k
 | l=>l
def cMN (ks:List Nat) (es:Es):Sh->Sh
 | .one l=>.one (bUV ks es l)
 | .agg ls=>.agg (ls.map (bUV ks es))
 | s=>s
def bN6 (ks:List Nat) (σ:St):St:=if ks.isEmpty then σ else { σ with tm:=σ.tm.map (fun p=>(p.1,cMN ks σ.es p.2)),es:=σ.es.map fun p=>match p with
 | (r,.box T ls)=>(r,.box T (ls.map (bUV ks σ.es)))
 | p=>p }
def bLE (σ:St) (G:List HLoc):St×List (Ty×Ar) :=
 let pre:=cMM σ G
 let σ:={ σ with tm:=pre.1,es:=pre.2 }
 let mask:=G.foldl (fun m l=>match l with | .dr t=>m ||| 2 ^ t|_=>m) 0
 let σ0:={ σ with tm:=(cKX σ.tm mask).filter fun p=>match p.2 with | .pro _=>false | .pelem _ _ _ _ _=>false | .cut _ _ _ _ _=>false | .tup _=>false | .no=>false | .und=>false|_=>true }
 let σ1:=G.foldl (fun σ l=>match l with | .dk _=>aGK σ l (.cb false) | .on _=>aGK σ l (.cb false)|_=>σ) σ0
 let σ1:={ σ1 with es:=cJ2 G σ1.es }
 let σ2:=cDF { σ1 with es:=cBV σ1.tm σ1.es }
 let σ2:={ σ2 with es:=cBV σ2.tm σ2.es }
 let vs:=G.filterMap (cD4 σ2)
 let ls:=G.filter fun l=>(cD4 σ2 l).isSome
 let ars:=gP (vs.map (·.1)) (.Z σ.nx)
 (bN6 (G.filterMap fun l=>match l with | .sl r=>some r|_=>none) ((ls.zip ars).foldl (fun σ p=>aGK σ p.1 p.2) { σ2 with nx:=σ.nx+1,cr:=[] }),vs)
structure Orc where
 lp:List (Nat×Nat×List HLoc)
 rg:List (Nat×Nat×List Nat×List Nat)
def Orc.loop (o:Orc) (n x:Nat):List HLoc:=match o.lp.find? fun p=>p.1==n&&p.2.1==x with
 | some p=>p.2.2
 | none=>[]
def Orc.reg (o:Orc) (n x:Nat):List Nat×List Nat:=match o.rg.find? fun p=>p.1==n&&p.2.1==x with
 | some p=>p.2.2
 | none=>([],[])
def St.key (σ:St):Nat:=σ.nx+1000 * (σ.facts.foldl (fun h p=>(2 * h+if p.2 then 1 else 0) % 99991) 1)
def cDD:Sh->Bool
 | .no=>false
 | _=>true
def T.okB:T->Bool
 | .cMW p a k=>a.okc&&p.okc&&k.okB
 | .call _ a k=>a.okc&&k.okB
 | .ite _ x y=>x.okB&&y.okB
 | .loop _ a b=>a.okc&&b.okB
 | .cMY _ a=>a.okc
 | .ret a=>a.okc
inductive XI where
 | code (c:Code)
 | blk (id:Nat)
 | lp (c:Code) (h:St) (G:List HLoc) (t0:Ty) (lvl:Nat)
def XI.item:XI->Item
 | .code c=>.code c
 | .blk id=>.inBlock id
 | .lp c _ _ _ _=>.inLoop c
def aVU (id:Nat):List XI->Option (List XI)
 | []=>none
 | .blk id'::k=>if id==id' then some k else aVU id k
 | .code _::k | .lp _ _ _ _ _::k=>aVU id k
def aMG (f:St->Except Err T):RT->Except Err T
 | .leaf σ=>f σ
 | .emit (.cMW p a) k=>match aMG f k with
  | .ok t=>.ok (.cMW p a t)
  | .error e=>.error e
 | .emit (.call c a) k=>match aMG f k with
  | .ok t=>.ok (.call c a t)
  | .error e=>.error e
 | .ite a x y=>match aMG f x with
  | .ok t=>match aMG f y with
   | .ok u=>.ok (.ite a t u)
   | .error e=>.error e
  | .error e=>.error e
section
variable (P:Program) (Cs:List Con) (wr:Bool) (C:Con) (rs:List ResultVar) (ow:List (Nat×TypeId×MV)) (orc:Orc)
def bRB (σ:St):Except Err T :=
 let cur:Option (List Sh):=rs.mapM fun
  | .tmp t=>some (σ.at' t)
  | .cell a T=>match σ.at' a with
   | .pbox r off=>match fL σ.es r with
    | some (.box _ ls)=>bBA P T ls off
    | _=>none
   | _=>none
 match cur with
 | none=>.error (.bad 20 0)
 | some cs0 =>
  let cs0:=(cs0.zip C.rms).map fun p=>match p.1,p.2.t with | .nilS,.slice e t=>.one (.nl e t)|s,_=>s
  let ps:=gP (C.rms.map (·.t)++ow.map (·.2.2.t)) (.Z 0)
  let (hs,e1,n1):=fI C.rms ps (!C.alias) 1000000
  let (e2,_):=eH ow (ps.drop C.rms.length) false n1
  let he:=e1++e2
  let hT:=wC 0 hs
  let tmp:St:={ σ with tm:=wC 0 cs0,n:=cs0.length }
  let σ1:=prep hT he tmp
  let m:=mpF (aKB hT σ1.tm he σ1.es)
  match vZ (fL σ1.es) (C.rms.map fun m=>.val { m with fl:=[] }) (σ1.tm.map (·.2)),
   (ow.mapM fun(p:Nat×TypeId×MV)=>match fL σ1.es p.1 with
    | some (.box _ ls)=>match fZ (fL σ1.es) p.2.2.t ls with
     | some (a,_,_,[])=>some (p.2.2.t,a)
     | _=>none
    | _=>none) with
  | some (ars,_,_),some bs =>
   let q:=pK (ars++bs)
   if aWL m 0 C.resTy q hT σ1.tm&&(rs.length==C.rms.length&&hs.all cDD)&&bLN m 0 C.resTy q he σ1.es&&(ow.all fun p=>m p.1==p.1)&&decide (dI ((ars++bs).map (·.1))=C.resTy)&&q.bd σ.nx&&q.okc then .ok (.ret q) else .error (.bad 22 0)
  | _,_=>.error (.bad 21 0)
def ex:Nat->Nat->List XI->St->Except Err T
 | 0,_,_,_=>.error (.bad 30 0)
 | n+1,dep,items,σ=>match items with
  | []=>bRB P C rs ow σ
  | .code .skip::k=>ex n dep k σ
  | .code (.seq x y)::k=>ex n dep (.code x::.code y::k) σ
  | .code (.block id c)::k=>ex n dep (.code c::.blk id::k) σ
  | .blk _::k=>ex n dep k σ
  | .code (.exit id)::k=>match aVU id k with
   | some k'=>ex n dep k' σ
   | none=>.error (.bad 31 id)
  | .code .ret::_=>bRB P C rs ow σ
  | .code (.cond c x y)::k=>match aGI σ.at' c with
   | .one (.d a .bool _ _)=>match bD9 σ.facts a with
    | some v=>ex n dep (.code (if v then x else y)::k) σ
    | none=>match ex n dep (.code x::k) (σ.fact a true) with
     | .ok t=>match ex n dep (.code y::k) (σ.fact a false) with
      | .ok u=>.ok (.ite a t u)
      | .error e=>.error e
     | .error e=>.error e
   | _=>.error (.bad 32 0)
  | .code (.region id ops draw)::k=>match aG8 P Cs wr ops draw 12 (orc.reg n σ.key).1 (frzAll (orc.reg n σ.key).2 σ) with
   | .ok rt=>if rt.goodB σ.nx then aMG (ex n dep k) rt else .error (.bad 34 id)
   | .error (.bad c i)=>.error (.bad (1000 * (id+1)+c) i)
   | .error e=>.error e
  | .code (.loop c)::k=>exLoop n dep c k 12 (orc.loop n σ.key) σ (fun σh G t0=>ex n (dep+1) (.code c::.lp c σh G t0 dep::k) σh)
  | .lp c σh G t0 lvl::k =>
   let σ1:=prep σh.tm σh.es σ
   let m:=aKB σh.tm σ1.tm σh.es σ1.es
   let ars:=G.filterMap fun l=>match l with
    | .tm t j=>match σ1.at' t with
     | .one l=>aR9 [l] j
     | .agg ls=>aR9 ls j
     | _=>none
    | .bx r j=>match fL σ1.es (mpF m r) with
     | some (.box _ ls)=>aR9 ls j
     | _=>none
    | .sl r=>match fL σ1.es (mpF m r) with
     | some (.sl e t a _ _)=>some (.slice e t,a)
     | some (.uq t a _)=>some (t,a)
     | _=>none
    | _=>none
   let q:=pK ars
   if aWL (mpN σh.nr σ1.nr m) (σh.nx - 1) t0 q σh.tm σ1.tm&&σh.n==σ1.n&&bLN (mpN σh.nr σ1.nr m) (σh.nx - 1) t0 q σh.es σ1.es&&(ow.all fun p=>mpN σh.nr σ1.nr m p.1==p.1)&&q.bd σ.nx&&q.okc then .ok (.cMY (dep - 1 - lvl) q)
   else match cME (σh.nx - 1) t0 q σh σ1 with
    | []=>.error (.bad 40 lvl)
    | g=>.error (.gen lvl g)
  | _=>.error (.bad 33 0)
where
 exLoop (n dep:Nat) (c:Code) (k:List XI):Nat->List HLoc->St->(St->List HLoc->Ty->Except Err T)->Except Err T
 | 0,_,_,_=>.error (.bad 41 dep)
 | f+1,G,σ,body =>
  let (σh,vs):=bLE σ G
  let q:=pK vs
  let σe:=prep σh.tm σh.es σ
  let m:=mpN σh.nr σe.nr (aKB σh.tm σe.tm σh.es σe.es)
  if aWL m σ.nx (dI (vs.map (·.1))) q σh.tm σe.tm&&σh.n==σe.n&&bLN m σ.nx (dI (vs.map (·.1))) q σh.es σe.es&&(ow.all fun p=>m p.1==p.1)&&q.bd σ.nx&&q.okc then
   match body σh (G.filter fun l=>match l with | .dr _=>false | .dk _=>false | .on _=>false | .fz _=>false | .nf _=>false | .nb _=>false | .nq _=>false|_=>true) (dI (vs.map (·.1))) with
   | .ok t=>.ok (.loop (dI (vs.map (·.1))) q t)
   | .error (.gen lvl g)=>if lvl=dep then exLoop n dep c k f (G++g) σ body else .error (.gen lvl g)
   | .error e=>.error e
  else .error (.bad 42 dep)
def aVA (m:MV):Bool:=match m.t,m.fl with
 | .slice _ _,[1]=>true
 | _,_=>false
def qN:List AM->List Ar->Nat->List Sh×Es×List (Nat×TypeId×MV)×Nat
 | .val m::ms,a::ars,nr =>
  let (ls,es,_,n1):=aQ m.t a (aVA m) m.fl nr
  let (ss,es2,bs,n2):=qN ms ars n1
  (bBX m.ag ls::ss,es++es2,bs,n2)
 | .box T m::ms,a::ars,nr =>
  let (ls,es,_,n1):=aQ m.t a false m.fl (nr+1)
  let (ss,es2,bs,n2):=qN ms ars n1
  (.pbox nr 0::ss,(nr,.box T ls)::(es++es2),(nr,T,m)::bs,n2)
 | _,_,nr=>([],[],[],nr)
end
def bPY (P:Program) (Cs:List Con) (C:Con) (wr:Bool) (fuel:Nat) (orc:Orc):Except Err T :=
 match P.funcs[C.f]? with
 | some fn=>match fn.body with
  | some c =>
   let (ss,es,bs,nr):=qN C.ams (gP (C.ams.map (·.mv.t)) (.Z 0)) 1
   if dI (C.ams.map (·.mv.t))=C.argTy/\dI (C.rms.map (·.t)++bs.map (·.2.2.t))=C.resTy/\(es.map (·.1)).Nodup/\(fn.name == "runtime.NumGoroutine")=false/\C.bx.isNone=true then
    match ex P Cs wr C fn.results.toList bs orc fuel 0 [.code c] { tm:=wC 0 ss,n:=ss.length+(fn.ntmps - ss.length),es,facts:=[],nx:=1,nr,cr:=[] } with
    | .ok t=>if t.okB then .ok t else .error (.bad 52 0)
    | .error e=>.error e
   else .error (.bad 51 0)
  | none=>.error (.bad 50 0)
 | none=>.error (.bad 50 1)
theorem xX {k:IntKind} {x:Int} (h:inK k x):(Lit.int k x).wf=true:=by
 cases k<;>simp only[Lit.wf,inK,IntKind.min,IntKind.max,IntKind.signed,IntKind.bits,decide_eq_true_eq,Bool.and_eq_true] at h⊢<;>simp_all<;>omega
def cMC (Cs:List Con) (env:List SV) (n:Nat):Let->Prop
 | .cMW p a=>a.bd n=true/\p.cond ((a.val env).as p.ity)/\okD p.oty (p.fn ((a.val env).as p.ity))/\env[n]?=some ⟨p.oty,p.fn ((a.val env).as p.ity)⟩
 | .call c a=>a.bd n=true/\∃C,Cs[c]?=some C/\C.pre ((a.val env).as C.argTy)/\okD C.resTy (C.fn ((a.val env).as C.argTy))/\env[n]?=some ⟨C.resTy,C.fn ((a.val env).as C.argTy)⟩
def iV (Cs:List Con) (env:List SV):Nat->List Let->Prop
 | _,[]=>True
 | n,l::ls=>cMC Cs env n l/\iV Cs env (n+1) ls
section
variable {X:Cx} {γ:Gh} {O:List Nat} {env:List SV} {w:World}
theorem aVN {n:Nat} {v:SV} (h:env[n]?=some v):aSJ env n=v:=by simp[aSJ,h]
theorem bVA {p:Prim} {a:Ar} {nx:Nat} {v:Value} (hl:env[nx]?=some ⟨p.oty,p.fn ((a.val env).as p.ity)⟩) {fr:Bool}
  (hv:kS (Gd X O w fr) p.oty w [v] (p.fn ((a.val env).as p.ity))):kJ X γ O env w (.d (.Z nx) p.oty fr 0) v:=by
 refine⟨?_,?_,fun h=>absurd rfl h⟩
 ·have:=(List.getElem?_eq_some_iff.1 hl).1
  simpa [Ar.bd] using this
 ·simp only[Ar.val,aVN hl,SV.as_self]
  exact hv
theorem jR {a:Ar} {k:IntKind} {fr:Bool} {j:Nat} {v:Value} (h:kJ X γ O env w (.d a (.int k) fr j) v) :
  v = .int k ((a.val env).as (.int k))/\(Lit.int k ((a.val env).as (.int k))).wf=true:=by
 obtain⟨_,h,_⟩:=h
 exact⟨by simpa using h.1,h.2⟩
theorem aAY {a:Ar} {fr:Bool} {j:Nat} {v:Value} (h:kJ X γ O env w (.d a .bool fr j) v):v = .bool ((a.val env).as .bool):=by
 obtain⟨_,h,_⟩:=h
 have h':[v]=[.bool ((a.val env).as .bool)]:=h
 simpa using h'
theorem aGB {a:Ar} {fr:Bool} {j:Nat} {v:Value} (h:kJ X γ O env w (.d a .str fr j) v):v = .string ((a.val env).as .str)/\((a.val env).as .str).size<=maxLen:=by
 obtain⟨_,h,_⟩:=h
 exact⟨by simpa using h.1,h.2⟩
theorem bO5 {a:Ar} {e:TypeId} {t:Ty} {fr:Bool} {j:Nat} {v:Value} (h:kJ X γ O env w (.d a (.slice e t) fr j) v) :
  ∃p len cap,v = .slice p len cap/\SlG (Gd X O w fr) t.n (kS (Gd X O w fr) t w) w p len cap ((a.val env).as (.slice e t)):=by
 obtain⟨_,⟨p,len,cap,hv,h⟩,_⟩:=h
 exact⟨p,len,cap,by simpa using hv,h⟩
theorem qO {k:IntKind} {z:Int} (h:(Lit.int k z).wf=true) (G:Nat->Prop):kS G (.int k) w [.int k z] z:=⟨rfl,h⟩
theorem aQP {z:Bool} (G:Nat->Prop):kS G .bool w [.bool z] z:=rfl
theorem bMC {z:ByteArray} (h:z.size<=maxLen) (G:Nat->Prop):kS G .str w [.string z] z:=⟨rfl,h⟩
theorem bBY {s:Sh} {ls:List Leaf} (h:uP s=some ls) {v:Value} (hv:bU X γ O env w s v) (hone:∀l,s = .one l->v.cells = #[v]) :
  bG X γ O env w ls v.cells.toList:=by
 cases s<;>simp[uP] at h
 ·rename_i l
  subst h
  rw[hone l rfl]
  exact⟨v,[],rfl,hv,rfl⟩
 ·subst h
  obtain⟨cs,rfl,h⟩:=hv
  exact h
theorem aGP {l:Leaf} {v:Value} (h:kJ X γ O env w l v) (hγ:∀r u,γ r=some u->u.cells = #[u]):v.cells = #[v]:=by
 cases l with
 | d a t fr k =>
  obtain⟨_,h,_⟩:=h
  cases t with
  | int k=>have:=h.1;simp at this;subst this;rfl
  | bool=>have h':[v]=[.bool _]:=h;simp at h';subst h';rfl
  | str=>have:=h.1;simp at this;subst this;rfl
  | slice e t=>obtain⟨p,len,cap,hv,_⟩:=h;simp at hv;subst hv;rfl
  | cMV a b =>
   have:=h.length
   have h1:=Ty.n_pos a
   have h2:=Ty.n_pos b
   simp[Ty.n] at this;omega
 | own r=>exact hγ _ _ h
 | nl e t=>obtain⟨p,rfl⟩:=h;rfl
theorem mC:{ls:List Leaf}->{cs:List Value}->bG X γ O env w ls cs->cs.length=ls.length
 | [],cs,h=>by simp[show cs=[] from h]
 | l::ls,cs,⟨c,cs',hc,_,h⟩=>by simp[hc,mC h]
theorem qG:{l1 l2:List Leaf}->{c1 c2:List Value}->bG X γ O env w l1 c1->bG X γ O env w l2 c2->bG X γ O env w (l1++l2) (c1++c2)
 | [],l2,c1,c2,h1,h2=>by simpa [show c1=[] from h1] using h2
 | l::ls,l2,c1,c2,⟨c,cs',hc,h,h1⟩,h2=>⟨c,cs'++c2,by simp[hc],h,qG h1 h2⟩
theorem aDS:(n:Nat)->{ls:List Leaf}->{cs:List Value}->bG X γ O env w ls cs->bG X γ O env w (ls.drop n) (cs.drop n)
 | 0,ls,cs,h=>by simpa using h
 | n+1,[],cs,h=>by rw[show cs=[] from h];exact(rfl:([]:List Value)=[])
 | n+1,l::ls,cs,⟨c,cs',hc,_,h⟩=>by subst hc;simpa using aDS n h
theorem aIW:(n:Nat)->{ls:List Leaf}->{cs:List Value}->bG X γ O env w ls cs->bG X γ O env w (ls.take n) (cs.take n)
 | 0,ls,cs,h=>(by simp:cs.take 0=[])
 | n+1,[],cs,h=>by rw[show cs=[] from h];exact(rfl:([]:List Value)=[])
 | n+1,l::ls,cs,⟨c,cs',hc,h0,h⟩=>by subst hc;exact⟨c,cs'.take n,by simp,h0,aIW n h⟩
theorem aEN {ls new:List Leaf} {cs nc:List Value} {off:Nat} (h:bG X γ O env w ls cs) (hn:bG X γ O env w new nc) :
  bG X γ O env w (aD3 ls off new) (cs.take off++(nc++cs.drop (off+nc.length))):=by
 rw[mC hn]
 exact qG (aIW _ h) (qG hn (aDS _ h))
theorem aGS:(t:Ty)->{a:Ar}->{fr:Bool}->{cs:List Value}->a.bd env.length=true->kS (Gd X O w fr) t w cs ((a.val env).as t)->bG X γ O env w (aLH t a fr) cs
 | .cMV x y,a,fr,cs,hb,h=>by
  obtain⟨c1,c2,rfl,h1,h2⟩:=h
  exact qG (aGS x (by simpa [Ar.bd] using hb) (by simpa [Ar.val] using h1)) (aGS y (by simpa [Ar.bd] using hb) (by simpa [Ar.val] using h2))
 | .int k,a,fr,cs,hb,h=>by
  have:=h.1;subst this
  exact⟨_,[],rfl,⟨hb,h,fun h=>absurd rfl h⟩,rfl⟩
 | .bool,a,fr,cs,hb,h=>by
  have h':cs=[.bool _]:=h
  subst h'
  exact⟨_,[],rfl,⟨hb,h,fun h=>absurd rfl h⟩,rfl⟩
 | .str,a,fr,cs,hb,h=>by
  have:=h.1;subst this
  exact⟨_,[],rfl,⟨hb,h,fun h=>absurd rfl h⟩,rfl⟩
 | .slice e t,a,fr,cs,hb,h=>by
  have h0:=h
  obtain⟨p,len,cap,rfl,_⟩:=h
  exact⟨_,[],rfl,⟨hb,h0,fun h=>absurd rfl h⟩,rfl⟩
theorem aQX:(t:Ty)->bG X γ O env w (aCC t) (xZ t)
 | .int k=>⟨_,[],rfl,⟨rfl,by simp only[Ar.val,SV.as_self];exact⟨rfl,bX5 k⟩,fun h=>absurd rfl h⟩,rfl⟩
 | .bool=>⟨_,[],rfl,⟨rfl,by simp only[Ar.val,SV.as_self];exact rfl,fun h=>absurd rfl h⟩,rfl⟩
 | .str=>⟨_,[],rfl,⟨rfl,by simp only[Ar.val,SV.as_self];exact⟨rfl,Nat.zero_le _⟩,fun h=>absurd rfl h⟩,rfl⟩
 | .slice e t=>⟨_,[],rfl,⟨none,rfl⟩,rfl⟩
 | .cMV a b=>qG (aQX a) (aQX b)
theorem aYI:(t:Ty)->{vs rest:List Value}->aJH t vs=some rest->vs=xZ t++rest
 | .int k,vs,rest,h=>by
  unfold aJH at h
  split at h<;>simp_all[xZ]
 | .bool,vs,rest,h=>by
  unfold aJH at h
  split at h<;>simp_all[xZ]
 | .str,vs,rest,h=>by
  unfold aJH at h
  split at h<;>simp_all[xZ]
 | .slice e t,vs,rest,h=>by
  unfold aJH at h
  split at h<;>simp_all[xZ]
 | .cMV a b,vs,rest,h=>by
  unfold aJH at h
  cases h1:aJH a vs with
  | none=>simp[h1] at h
  | some vs' =>
   simp only[h1] at h
   rw[aYI a h1,aYI b h]
   simp[xZ]
end
structure TIok (P:Program) (T:TypeId) (i:TI):Prop where
 inf:∃f,P.info? T=some f/\f.size=i.t.n/\f.bytes=i.bytes/\∃z,f.zero=some z/\z.cells.toList=xZ i.t
 und:∃u,P.underlying T=some u/\(i.ag=true->∃fs,u = .struct fs)/\(i.ag=false->(∀fs,u ≠ .struct fs)/\∀n e,u ≠ .array n e)
 one:i.ag=false->i.t.n=1
theorem uH {P:Program} {T:TypeId} {i:TI} (h:aI4 P T=some i):TIok P T i:=by
 unfold aI4 at h
 split at h
 ·rename_i t f u ht hf hu
  split at h
  ·rename_i z hz
   split at h
   ·rename_i hzz
    split at h
    ·rename_i hc
     simp only[eW] at h
     subst h
     obtain⟨h1,h2,h3⟩:=hc
     refine⟨⟨f,hf,h1,rfl,z,hz,by simpa using aYI _ hzz⟩,⟨u,hu,?_,?_⟩,?_⟩
     ·intro ha;cases u<;>simp[aQZ] at ha⊢
     ·intro ha
      cases u<;>simp[aQZ,cDI] at ha h2⊢
     ·intro ha
      rcases h3 with h3|h3
      ·simp only at ha;rw[ha] at h3;cases h3
      ·exact h3
    ·cases h
   ·cases h
  ·cases h
 ·cases h
section
variable {P:Program} {T:TypeId} {i:TI}
theorem TIok.cells (h:TIok P T i):P.cellsOf T=i.t.n:=by
 obtain⟨f,h1,h2,_⟩:=h.inf
 simp[Program.cellsOf,h1,h2]
theorem TIok.size (h:TIok P T i) (w:World):(sizeOf T).run P w = .ok i.t.n w:=by
 obtain⟨f,h1,h2,_⟩:=h.inf
 simp[sizeOf,typeInfo,h1,h2]
theorem TIok.agg (h:TIok P T i) (w:World):(isAgg T).run P w = .ok i.ag w:=by
 obtain⟨u,h1,h2,h3⟩:=h.und
 cases ha:i.ag
 ·obtain⟨h4,h5⟩:=h3 ha
  cases u<;>simp_all[isAgg,run_underlying h1]
 ·obtain⟨fs,rfl⟩:=h2 ha
  simp[isAgg,run_underlying h1]
theorem TIok.zero (h:TIok P T i) (w:World):∃z,(zeroValue T).run P w = .ok z w/\z.cells.toList=xZ i.t:=by
 obtain⟨f,h1,h2,_,z,h3,h4⟩:=h.inf
 exact⟨z,by simp[zeroValue,typeInfo,h1,h3],h4⟩
def mkV (ag:Bool) (cs:List Value):Value:=if ag then .agg cs.toArray else cs.headD undef
theorem TIok.part (h:TIok P T i) (cs:Array Value) (off:Nat) (hl:off+i.t.n<=cs.size) (w:World):(Go.part T cs off).run P w = .ok (mkV i.ag ((cs.toList.drop off).take i.t.n)) w:=by
 cases ha:i.ag
 ·have h1:=h.one ha
  have h2:=h.agg w
  rw[ha] at h2
  have h3:cs[off]?=some (cs[off]'(by omega)):=Array.getElem?_eq_getElem (by omega)
  simp[Go.part,h2,h3,mkV,h1,List.take_one,List.head?_drop]
 ·have h2:=h.agg w
  rw[ha] at h2
  simp[Go.part,h2,h.size,mkV]
  apply Array.ext'
  simp[List.take_drop,List.extract_eq_take_drop]
theorem TIok.load (h:TIok P T i) (b off:Nat) (cs:List Value) (hn:cs.length=i.t.n) (w:World) (hc:∀j (hj:j<cs.length),w.cell? ⟨b,off+j,none⟩=some cs[j]) :
  (loadVar T ⟨b,off,none⟩).run P w = .ok (mkV i.ag cs) w:=by
 have hadd:∀j,((⟨b,off,none⟩:Addr).add j)=⟨b,off+j,none⟩:=fun j=>by simp only[Addr.add];split<;>simp_all
 cases ha:i.ag
 ·have h1:=h.one ha
  have h2:=h.agg w
  rw[ha] at h2
  have h3:=hc 0 (by omega)
  simp only[Nat.add_zero] at h3
  obtain⟨c,rfl⟩:∃c,cs=[c]:=by
   cases cs with
   | nil=>simp at hn;omega
   | cons c cs=>cases cs with
    | nil=>exact⟨c,rfl⟩
    | cons d cs=>simp at hn;omega
  simp only[List.getElem_cons_zero] at h3
  simp[loadVar,h2,run_load,h3,mkV]
 ·have h2:=h.agg w
  rw[ha] at h2
  have h3:=run_loadCells_list (P:=P) w ⟨b,off,none⟩ cs (fun j v hv=>by
   rw[hadd]
   obtain⟨hj,rfl⟩:=List.getElem?_eq_some_iff.1 hv
   exact hc j hj)
  rw[hn] at h3
  simp[loadVar,h2,h.size,h3,mkV]
end
section
variable {P:Program} {X:Cx} {γ:Gh} {O:List Nat} {env:List SV} {w:World}
theorem aOL {T:TypeId} {ls:List Leaf} {off:Nat} {s:Sh} (h:bBA P T ls off=some s) {cs:List Value} (hc:bG X γ O env w ls cs) :
  ∃i,aI4 P T=some i/\off+i.t.n<=cs.length/\bU X γ O env w s (mkV i.ag ((cs.drop off).take i.t.n)):=by
 unfold bBA at h
 split at h
 ·rename_i i hi
  have hsub:=aIW i.t.n (aDS off hc)
  have hl:=mC hsub
  have hlen:=mC hc
  have hp:=Ty.n_pos i.t
  refine⟨i,hi,?_⟩
  cases ha:i.ag
  ·simp only[ha,Bool.false_eq_true,if_false] at h
   split at h
   ·rename_i l hll
    simp only[eW] at h
    subst h
    rw[hll] at hsub hl
    have h1:=(uH hi).one ha
    obtain⟨c,cs',hcc,h2,h3⟩:=hsub
    have:cs'=[]:=h3
    subst this
    refine⟨?_,?_⟩
    ·have:=congrArg List.length hcc
     simp at this;omega
    ·rw[hcc];exact h2
   ·cases h
  ·simp only[ha,if_true] at h
   split at h
   ·rename_i hll
    simp only[eW] at h
    subst h
    refine⟨?_,_,rfl,by simpa using hsub⟩
    simp at hll;omega
   ·cases h
 ·cases h
theorem aKN {T:TypeId} {s s':Sh} (h:aYT P T s=some s') {v:Value} (hv:bU X γ O env w s v):bU X γ O env w s' v:=by
 unfold aYT at h
 split at h
 ·split at h
  ·simp only[eW] at h
   subst h
   exact⟨none,hv⟩
  ·cases h
 ·cases h
 ·simp only[eW] at h
  subst h;exact hv
theorem bTM (v:Value):bU X γ O env w (bMI v) v:=by
 unfold bMI
 split
 ·split
  ·rename_i k n hw
   exact⟨rfl,by simp only[Ar.val,SV.as_self];exact⟨rfl,hw⟩,fun h=>absurd rfl h⟩
  ·trivial
 ·exact⟨rfl,by simp only[Ar.val,SV.as_self];exact rfl,fun h=>absurd rfl h⟩
 ·split
  ·rename_i s hs
   exact⟨rfl,by simp only[Ar.val,SV.as_self];exact⟨rfl,hs⟩,fun h=>absurd rfl h⟩
  ·trivial
 ·exact rfl
 ·trivial
theorem aFQ {tm:Nat->Sh} {a:Act} (h:∀t,bU X γ O env w (tm t) (a.tmps.getD t undef)) (x:Operand):bU X γ O env w (aGI tm x) (a.eval x):=by
 cases x with
 | tmp t=>exact h t
 | const v=>exact bTM v
 | global g=>trivial
 | func f=>exact rfl
end
section
variable {P:Program} {Cs:List Con} {X:Cx} {γ:Gh} {O:List Nat} {env:List SV} {w:World}
theorem bBW (op:BinOp) (T:TypeId) (x y:Operand) (k:IntKind) (a:Int) (v:Value):(eqGuard op T x y (.int k a) v).run P w = .ok () w:=by
 cases op<;>simp[eqGuard]
theorem bBZ (op:BinOp) (T:TypeId) (x y:Operand) (a:ByteArray) (v:Value):(eqGuard op T x y (.string a) v).run P w = .ok () w:=by
 cases op<;>simp[eqGuard]
theorem aYL (op:BinOp) (T:TypeId) (x y:Operand) (a:Bool) (v:Value):(eqGuard op T x y (.bool a) v).run P w = .ok () w:=by
 cases op<;>simp[eqGuard]
theorem aBD {k:IntKind} {z:Int} (h:inK k z):k.wrap z=z:=by
 cases k<;>simp only[inK,IntKind.min,IntKind.max,IntKind.signed,IntKind.bits,IntKind.wrap] at h⊢<;>simp at h⊢<;>omega
theorem aFU (k:IntKind) (z:Int):(Lit.int k (k.wrap z)).wf=true:=by
 apply xX
 cases k<;>simp only[inK,IntKind.min,IntKind.max,IntKind.signed,IntKind.bits,IntKind.wrap]<;>simp<;>omega
theorem nR {p:Prim} {a:Ar} {nx:Nat} {ls:List Let} {s:Sh} (h:pr p a nx=some (ls,s)) (hl:iV Cs env nx ls) {v:Value}
  (hv:p.cond ((a.val env).as p.ity)->okD p.oty (p.fn ((a.val env).as p.ity))->kS (Gd X O w true) p.oty w [v] (p.fn ((a.val env).as p.ity))):bU X γ O env w s v:=by
 simp only[pr,eW,nB] at h
 obtain⟨rfl,rfl⟩:=h
 obtain⟨⟨h1,h2,h3,h4⟩,_⟩:=hl
 exact bVA h4 (hv h2 h3)
theorem aH3 {p:Prim} {a:Ar} {nx:Nat} {ls:List Let} {s:Sh} (h:pr p a nx=some (ls,s)) (hl:iV Cs env nx ls) :
  p.cond ((a.val env).as p.ity)/\okD p.oty (p.fn ((a.val env).as p.ity)):=by
 simp only[pr,eW,nB] at h
 obtain⟨rfl,rfl⟩:=h
 obtain⟨⟨h1,h2,h3,h4⟩,_⟩:=hl
 exact⟨h2,h3⟩
theorem cZ (a b:Ty) (p q:Ar):((Ar.cMX a b p q).val env).as (.cMV a b)=((p.val env).as a,(q.val env).as b):=by simp[Ar.val]
theorem aZG {op:BinOp} (h:op = .add\/op = .sub\/op = .mul) (T:TypeId) (k:IntKind) (x y:Int):(binOp op T (.int k x) (.int k y)).run P w = .ok (.int k (k.wrap (arI op x y))) w:=by
 rcases h with rfl|rfl|rfl<;>simp[binOp,Op.intArith,arI]
theorem aWC {op:BinOp} (h:op = .and\/op = .or\/op = .xor\/op = .andNot) (T:TypeId) (k:IntKind) (x y:Int):(binOp op T (.int k x) (.int k y)).run P w = .ok (.int k (aRQ op k x y)) w:=by
 rcases h with rfl|rfl|rfl|rfl<;>simp[binOp,Op.intBits,aRQ]
theorem aQY {op:BinOp} (h:op = .eql\/op = .neq\/op = .lss\/op = .leq\/op = .gtr\/op = .geq) (T:TypeId) (k:IntKind) (x y:Int):(binOp op T (.int k x) (.int k y)).run P w = .ok (.bool (cGG op x y)) w:=by
 rcases h with rfl|rfl|rfl|rfl|rfl|rfl<;>simp[binOp,Op.intCmp,cGG]
theorem cHK (T:TypeId) (k:IntKind) (x y:Int) (hy:y≠0) (h:inK k (x.tdiv y)):(binOp .quo T (.int k x) (.int k y)).run P w = .ok (.int k (x.tdiv y)) w:=by
 simp[binOp,Op.intDiv,hy,aBD h]
theorem cHX (T:TypeId) (k:IntKind) (x y:Int) (hy:y≠0):(binOp .rem T (.int k x) (.int k y)).run P w = .ok (.int k (x.tmod y)) w:=by
 simp[binOp,Op.intDiv,hy]
theorem cIL (T:TypeId) (k j:IntKind) (x y:Int) (hy:0<=y):(binOp .shl T (.int k x) (.int j y)).run P w = .ok (.int k (k.wrap (x * 2 ^ min y.toNat k.bits))) w:=by
 have hn:¬y<0:=by omega
 simp[binOp,Op.shift,hn]
theorem cGB (T:TypeId) (k j:IntKind) (x y:Int) (hy:0<=y):(binOp .shr T (.int k x) (.int j y)).run P w = .ok (.int k (x.fdiv (2 ^ min y.toNat k.bits))) w:=by
 have hn:¬y<0:=by omega
 simp[binOp,Op.shift,hn]
theorem toList_eq (x y:ByteArray):(x.toList==y.toList)=decide (x=y):=by
 rw[ByteArray.toList_eq,ByteArray.toList_eq]
 by_cases h:x=y
 ·subst h;simp
 ·have h':x.data.toList≠y.data.toList:=fun e=>h (ByteArray.ext (Array.toList_inj.mp e))
  rw[beq_eq_false_iff_ne.2 h',decide_eq_false h]
theorem cGT {T:TypeId} (hT:P.underlying T=some .bool) (x y:Bool):(binOp .eql T (.bool x) (.bool y)).run P w = .ok (.bool (x==y)) w:=by
 have h:(Op.equal T (.bool x) (.bool y)).run P w = .ok (x==y) w:=by
  show(Op.equalIn (9999+1) T (.bool x) (.bool y)).run P w=_
  rw[Op.equalIn]
  simp only[Sem.run_bind,run_underlying hT,Result.andThen_ok,Sem.run_pure]
 simp only[binOp,Sem.run_bind,h,Result.andThen_ok,Sem.run_pure]
theorem cH6 {T:TypeId} (hT:P.underlying T=some .bool) (x y:Bool):(binOp .neq T (.bool x) (.bool y)).run P w = .ok (.bool (!(x==y))) w:=by
 have h:(Op.equal T (.bool x) (.bool y)).run P w = .ok (x==y) w:=by
  show(Op.equalIn (9999+1) T (.bool x) (.bool y)).run P w=_
  rw[Op.equalIn]
  simp only[Sem.run_bind,run_underlying hT,Result.andThen_ok,Sem.run_pure]
 simp only[binOp,Sem.run_bind,h,Result.andThen_ok,Sem.run_pure]
theorem cBB (T:TypeId) (x y:ByteArray) (h:x.size+y.size<=maxLen):(binOp .add T (.string x) (.string y)).run P w = .ok (.string (x++y)) w:=by
 simp only[maxLen] at h
 have:¬(IntKind.i64.max<(x.size:Int)+(y.size:Int)):=by
  have h2:IntKind.i64.max=9223372036854775807:=by decide
  have h3:x.size+y.size<=9223372036854775807:=by simpa using h
  rw[h2];omega
 simp only[binOp,Op.stringOp]
 rw[if_neg (by simpa using this)]
 simp only[Sem.run_pure]
theorem cIG (T:TypeId) (x y:ByteArray):(binOp .eql T (.string x) (.string y)).run P w = .ok (.bool (decide (x=y))) w:=by
 simp only[binOp,Op.stringOp,Sem.run_pure]
 rw[toList_eq]
theorem cIE (T:TypeId) (x y:ByteArray):(binOp .neq T (.string x) (.string y)).run P w = .ok (.bool (!decide (x=y))) w:=by
 simp only[binOp,Op.stringOp,Sem.run_pure]
 rw[toList_eq]
theorem bOT {T:TypeId} (h:bYO P T=true):∃k,P.underlying T=some (.int k)/\∀(cs:Array Value) (off:Nat) (v:Value),cs[off]?=some v->(Go.part T cs off).run P w = .ok v w:=by
 simp only[bYO,Bool.and_eq_true] at h
 obtain⟨h1,h2⟩:=h
 split at h1
 ·rename_i k hk
  refine⟨k,hk,fun cs off v hv=>?_⟩
  split at h2
  ·rename_i i hi
   simp only[Bool.and_eq_true,Bool.not_eq_true',beq_iff_eq] at h2
   obtain⟨hlt,rfl⟩:=Array.getElem?_eq_some_iff.1 hv
   have:=(uH hi).part cs off (by omega) w
   rw[this,h2.1,h2.2]
   simp only[mkV,Bool.false_eq_true,if_false]
   rw[List.drop_eq_getElem_cons (by simpa using hlt)]
   simp
  ·cases h2
 ·cases h1
theorem cE7 {T:TypeId} (h:bNO P T=true) {k1 k2:IntKind} (x1 x2 y1 y2:Int) (xo yo:Operand) :
  (do eqGuard .eql T xo yo (.agg #[.int k1 x1,.int k2 x2]) (.agg #[.int k1 y1,.int k2 y2]);binOp .eql T (.agg #[.int k1 x1,.int k2 x2]) (.agg #[.int k1 y1,.int k2 y2]):Sem Value).run P w = .ok (.bool ((x1==y1)&&(x2==y2))) w /\
  (do eqGuard .neq T xo yo (.agg #[.int k1 x1,.int k2 x2]) (.agg #[.int k1 y1,.int k2 y2]);binOp .neq T (.agg #[.int k1 x1,.int k2 x2]) (.agg #[.int k1 y1,.int k2 y2]):Sem Value).run P w = .ok (.bool (!((x1==y1)&&(x2==y2)))) w:=by
 unfold bNO at h
 split at h
 ·rename_i fs Bw
  split at h
  ·rename_i f g hl
   simp only[Bool.and_eq_true,beq_iff_eq,decide_eq_true_eq] at h
   obtain⟨⟨⟨⟨⟨⟨⟨n1,n2⟩,o1⟩,o2⟩,t1⟩,t2⟩,st⟩,gd⟩:=h
   obtain⟨j1,u1,p1⟩:=bOT (w:=w) t1
   obtain⟨j2,u2,p2⟩:=bOT (w:=w) t2
   have hF:P.fieldsOf T=fs:=by unfold Program.fieldsOf;rw[Bw]
   have he:(Op.equalIn 10000 T (.agg #[.int k1 x1,.int k2 x2]) (.agg #[.int k1 y1,.int k2 y2])).run P w = .ok ((x1==y1)&&(x2==y2)) w:=by
    rw[run_equalIn_struct w 9999 T _ _ (by rw[hF];exact Bw) st,hF,hl]
    have i1:(Op.equalIn 9999 f.type (.int k1 x1) (.int k1 y1)).run P w = .ok (x1==y1) w:=run_equalIn_int w 9998 _ _ _ _ _ u1
    have i2:(Op.equalIn 9999 g.type (.int k2 x2) (.int k2 y2)).run P w = .ok (x2==y2) w:=run_equalIn_int w 9998 _ _ _ _ _ u2
    have q1:=p1 #[.int k1 x1,.int k2 x2] 0 (.int k1 x1) rfl
    have q2:=p1 #[.int k1 y1,.int k2 y2] 0 (.int k1 y1) rfl
    have q3:=p2 #[.int k1 x1,.int k2 x2] 1 (.int k2 x2) rfl
    have q4:=p2 #[.int k1 y1,.int k2 y2] 1 (.int k2 y2) rfl
    rw[Op.eqFields,if_pos n1,Sem.run_bind,o1,q1,Result.andThen_ok,Sem.run_bind,q2,Result.andThen_ok,Sem.run_bind,i1,Result.andThen_ok]
    cases hx:(x1==y1)
    ·rfl
    ·show(Op.eqFields 9999 #[.int k1 x1,.int k2 x2] #[.int k1 y1,.int k2 y2] [g]).run P w=_
     rw[Op.eqFields,if_pos n2,Sem.run_bind,o2,q3,Result.andThen_ok,Sem.run_bind,q4,Result.andThen_ok,Sem.run_bind,i2,Result.andThen_ok]
     cases hy:(x2==y2)<;>rfl
   constructor
   ·simp only[Sem.run_bind,run_eqGuard_agg w _ _ _ _ _ _ gd,Result.andThen_ok,run_eql_struct,he]
   ·simp only[Sem.run_bind,run_eqGuard_agg w _ _ _ _ _ _ gd,Result.andThen_ok,run_neq_struct,he]
  ·cases h
 ·cases h
theorem bPR {op:BinOp} {T:TypeId} {xs ys:List Leaf} {nx:Nat} {ls:List Let} {s:Sh} (h:bDM P op T xs ys nx=some (ls,s)) (hl:iV Cs env nx ls)
  {u v:Value} (hx:bU X γ O env w (.agg xs) u) (hy:bU X γ O env w (.agg ys) v) (xo yo:Operand) :
  ∃r,(do eqGuard op T xo yo u v;binOp op T u v:Sem Value).run P w = .ok r w/\bU X γ O env w s r:=by
 unfold bDM at h
 split at h
 ·rename_i a1 k1 f1 q1 a2 k2 f2 q2 b1 j1 f3 q3 b2 j2 f4 q4
  split at h
  ·rename_i hc
   obtain⟨rfl,rfl,hp⟩:=hc
   obtain⟨cs,rfl,c1,cs',e1,l1,c2,cs2,rfl,l2,e2⟩:=hx
   obtain⟨ds,rfl,d1,ds',e3,m1,d2,ds2,rfl,m2,e4⟩:=hy
   have e2':cs2=[]:=e2
   have e4':ds2=[]:=e4
   subst e2' e4'
   obtain⟨rfl,w1⟩:=jR (X:=X) (γ:=γ) (O:=O) (env:=env) (w:=w) l1
   obtain⟨rfl,w2⟩:=jR (X:=X) (γ:=γ) (O:=O) (env:=env) (w:=w) l2
   obtain⟨rfl,w3⟩:=jR (X:=X) (γ:=γ) (O:=O) (env:=env) (w:=w) m1
   obtain⟨rfl,w4⟩:=jR (X:=X) (γ:=γ) (O:=O) (env:=env) (w:=w) m2
   obtain rfl:cs = #[_,_]:=Array.ext' e1
   obtain rfl:ds = #[_,_]:=Array.ext' e3
   obtain⟨g1,g2⟩:=cE7 (P:=P) (w:=w) hp ((a1.val env).as (.int j1)) ((a2.val env).as (.int j2)) ((b1.val env).as (.int j1)) ((b2.val env).as (.int j2)) xo yo
   split at h
   ·refine⟨_,g1,nR h hl fun _ _=>?_⟩
    simp only[Prim.fn,Prim.ity,Prim.oty,cZ,zS,aES]
    simp[kS]
   ·refine⟨_,g2,nR h hl fun _ _=>?_⟩
    simp only[Prim.fn,Prim.ity,Prim.oty,cZ,zS,aES]
    simp[kS]
   ·cases h
  ·cases h
 ·cases h
theorem cE9 {wr:Bool} {op:BinOp} {T:TypeId} {x y:Sh} {nx:Nat} {ls:List Let} {s:Sh} (h:cF1 P wr op T x y nx=some (ls,s)) (hl:iV Cs env nx ls)
  {u v:Value} (hx:bU X γ O env w x u) (hy:bU X γ O env w y v) (xo yo:Operand) :
  ∃r,(do eqGuard op T xo yo u v;binOp op T u v:Sem Value).run P w = .ok r w/\bU X γ O env w s r:=by
 unfold cF1 at h
 split at h
 ·
  rename_i a k _ _ b j _ _
  obtain⟨rfl,hw1⟩:=jR hx
  obtain⟨rfl,hw2⟩:=jR hy
  have k1:=aXW hw1
  have k2:=aXW hw2
  simp only[Sem.run_bind,bBW,Result.andThen_ok]
  split at h
  ·have hc:=(aH3 h hl).1
   simp only[Prim.cond,Prim.ity,cZ] at hc
   refine⟨_,cIL _ _ _ _ _ hc,nR h hl fun _ _=>?_⟩
   simp only[Prim.fn,Prim.ity,Prim.oty,cZ]
   exact qO (aFU _ _) _
  ·have hc:=(aH3 h hl).1
   simp only[Prim.cond,Prim.ity,cZ] at hc
   refine⟨_,cGB _ _ _ _ _ hc,nR h hl fun _ ho=>?_⟩
   simp only[Prim.fn,Prim.ity,Prim.oty,cZ] at ho⊢
   exact qO (xX ho) _
  ·split at h
   ·rename_i hkj
    subst hkj
    cases wr
    ·simp only[Bool.false_eq_true,if_false] at h
     have hc:=(aH3 h hl).1
     simp only[Prim.cond,Prim.ity,cZ] at hc
     refine⟨_,aZG (by simp) _ _ _ _,nR h hl fun _ _=>?_⟩
     simp only[Prim.fn,Prim.ity,Prim.oty,cZ]
     rw[aBD hc]
     exact qO (xX hc) _
    ·simp only[if_true] at h
     refine⟨_,aZG (by simp) _ _ _ _,nR h hl fun _ _=>?_⟩
     simp only[Prim.fn,Prim.ity,Prim.oty,cZ]
     exact qO (aFU _ _) _
   ·cases h
  ·split at h
   ·rename_i hkj
    subst hkj
    cases wr
    ·simp only[Bool.false_eq_true,if_false] at h
     have hc:=(aH3 h hl).1
     simp only[Prim.cond,Prim.ity,cZ] at hc
     refine⟨_,aZG (by simp) _ _ _ _,nR h hl fun _ _=>?_⟩
     simp only[Prim.fn,Prim.ity,Prim.oty,cZ]
     rw[aBD hc]
     exact qO (xX hc) _
    ·simp only[if_true] at h
     refine⟨_,aZG (by simp) _ _ _ _,nR h hl fun _ _=>?_⟩
     simp only[Prim.fn,Prim.ity,Prim.oty,cZ]
     exact qO (aFU _ _) _
   ·cases h
  ·split at h
   ·rename_i hkj
    subst hkj
    cases wr
    ·simp only[Bool.false_eq_true,if_false] at h
     have hc:=(aH3 h hl).1
     simp only[Prim.cond,Prim.ity,cZ] at hc
     refine⟨_,aZG (by simp) _ _ _ _,nR h hl fun _ _=>?_⟩
     simp only[Prim.fn,Prim.ity,Prim.oty,cZ]
     rw[aBD hc]
     exact qO (xX hc) _
    ·simp only[if_true] at h
     refine⟨_,aZG (by simp) _ _ _ _,nR h hl fun _ _=>?_⟩
     simp only[Prim.fn,Prim.ity,Prim.oty,cZ]
     exact qO (aFU _ _) _
   ·cases h
  ·split at h
   ·rename_i hkj
    subst hkj
    have hc:=(aH3 h hl).1
    simp only[Prim.cond,Prim.ity,cZ] at hc
    refine⟨_,cHK _ _ _ _ hc.1 hc.2,nR h hl fun _ _=>?_⟩
    simp only[Prim.fn,Prim.ity,Prim.oty,cZ]
    exact qO (xX hc.2) _
   ·cases h
  ·split at h
   ·rename_i hkj
    subst hkj
    have hc:=(aH3 h hl).1
    simp only[Prim.cond,Prim.ity,cZ] at hc
    refine⟨_,cHX _ _ _ _ hc,nR h hl fun _ ho=>?_⟩
    simp only[Prim.fn,Prim.ity,Prim.oty,cZ] at ho⊢
    exact qO (xX ho) _
   ·cases h
  ·split at h
   ·rename_i hkj
    subst hkj
    refine⟨_,aWC (by simp) _ _ _ _,nR h hl fun _ _=>?_⟩
    simp only[Prim.fn,Prim.ity,Prim.oty,cZ]
    exact qO (aFU _ _) _
   ·cases h
  ·split at h
   ·rename_i hkj
    subst hkj
    refine⟨_,aWC (by simp) _ _ _ _,nR h hl fun _ _=>?_⟩
    simp only[Prim.fn,Prim.ity,Prim.oty,cZ]
    exact qO (aFU _ _) _
   ·cases h
  ·split at h
   ·rename_i hkj
    subst hkj
    refine⟨_,aWC (by simp) _ _ _ _,nR h hl fun _ _=>?_⟩
    simp only[Prim.fn,Prim.ity,Prim.oty,cZ]
    exact qO (aFU _ _) _
   ·cases h
  ·split at h
   ·rename_i hkj
    subst hkj
    refine⟨_,aWC (by simp) _ _ _ _,nR h hl fun _ _=>?_⟩
    simp only[Prim.fn,Prim.ity,Prim.oty,cZ]
    exact qO (aFU _ _) _
   ·cases h
  ·split at h
   ·rename_i hkj
    subst hkj
    refine⟨_,aQY (by simp) _ _ _ _,nR h hl fun _ _=>?_⟩
    simp only[Prim.fn,Prim.ity,Prim.oty,cZ]
    exact aQP _
   ·cases h
  ·split at h
   ·rename_i hkj
    subst hkj
    refine⟨_,aQY (by simp) _ _ _ _,nR h hl fun _ _=>?_⟩
    simp only[Prim.fn,Prim.ity,Prim.oty,cZ]
    exact aQP _
   ·cases h
  ·split at h
   ·rename_i hkj
    subst hkj
    refine⟨_,aQY (by simp) _ _ _ _,nR h hl fun _ _=>?_⟩
    simp only[Prim.fn,Prim.ity,Prim.oty,cZ]
    exact aQP _
   ·cases h
  ·split at h
   ·rename_i hkj
    subst hkj
    refine⟨_,aQY (by simp) _ _ _ _,nR h hl fun _ _=>?_⟩
    simp only[Prim.fn,Prim.ity,Prim.oty,cZ]
    exact aQP _
   ·cases h
  ·split at h
   ·rename_i hkj
    subst hkj
    refine⟨_,aQY (by simp) _ _ _ _,nR h hl fun _ _=>?_⟩
    simp only[Prim.fn,Prim.ity,Prim.oty,cZ]
    exact aQP _
   ·cases h
  ·split at h
   ·rename_i hkj
    subst hkj
    refine⟨_,aQY (by simp) _ _ _ _,nR h hl fun _ _=>?_⟩
    simp only[Prim.fn,Prim.ity,Prim.oty,cZ]
    exact aQP _
   ·cases h
 ·
  rename_i a _ _ b _ _
  obtain⟨rfl,hw1⟩:=aGB hx
  obtain⟨rfl,hw2⟩:=aGB hy
  simp only[Sem.run_bind,bBZ,Result.andThen_ok]
  split at h
  ·have hc:=(aH3 h hl).1
   simp only[Prim.cond,Prim.ity,cZ] at hc
   refine⟨_,cBB _ _ _ hc,nR h hl fun _ _=>?_⟩
   simp only[Prim.fn,Prim.ity,Prim.oty,cZ]
   exact bMC (by simpa using hc) _
  ·refine⟨_,cIG _ _ _,nR h hl fun _ _=>?_⟩
   simp only[Prim.fn,Prim.ity,Prim.oty,cZ]
   simp[kS]
  ·refine⟨_,cIE _ _ _,nR h hl fun _ _=>?_⟩
   simp only[Prim.fn,Prim.ity,Prim.oty,cZ]
   simp[kS]
  ·cases h
 ·
  rename_i a _ _ b _ _
  obtain rfl:=aAY hx
  obtain rfl:=aAY hy
  simp only[Sem.run_bind,aYL,Result.andThen_ok]
  split at h
  ·rename_i hu
   split at h
   ·refine⟨_,cGT hu _ _,nR h hl fun _ _=>?_⟩
    simp only[Prim.fn,Prim.ity,Prim.oty,cZ,aES]
    simp[kS]
   ·refine⟨_,cH6 hu _ _,nR h hl fun _ _=>?_⟩
    simp only[Prim.fn,Prim.ity,Prim.oty,cZ,aES]
    simp[kS]
   ·cases h
  ·cases h
 ·exact bPR h hl hx hy xo yo
 ·cases h
end
end Go.Proofs.YtfmfeplebgbpmaaGreat
