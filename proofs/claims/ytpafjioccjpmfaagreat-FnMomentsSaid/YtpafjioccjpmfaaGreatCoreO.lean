/- CoreO: lemmas. No conditions. -/
import Derived.Test.YtpafjioccjpmfaaGreatCoreM
import Derived.Test.YtpafjioccjpmfaaGreatCoreT
namespace Go.Proofs.YtpafjioccjpmfaaGreat
noncomputable section
set_option maxRecDepth 100000
open Go.ChangeShapes Go.WideShapes Go.ChangeAt Go.RowKit Go.Deep
set_option linter.unusedVariables false
set_option linter.unusedSimpArgs false
abbrev aUA:=Int × Int
def mV (p:bF):List Int→List aUA
 | []=>[]
 | s :: l=>(if cC p s=true then [(s,vC ((bR p s).2.1.getD s.toNat (aP aA)))] else [])++mV (bR p s) l
theorem aVK (p:bF):(l m:List Int)→mV p (l++m)=mV p l++mV (hK p l) m
 | [],_=>rfl
 | s :: l,m=>by
  show _++mV (bR p s) (l++m)=(_++mV (bR p s) l)++_
  rw[aVK (bR p s) l m,List.append_assoc];rfl
theorem aU7 (p:bF):(l:List Int)→(mV p l).length≤l.length
 | []=>Nat.le_refl _
 | s :: l=>by
  have h:=aU7 (bR p s) l
  show (_++mV (bR p s) l).length≤l.length+1
  rw[List.length_append]
  split
  ·rw[List.length_singleton];omega
  ·rw[List.length_nil];omega
theorem aTF {p:bF} {l:List Int} {k:Nat} (h:k<l.length):mV p (l.take (k+1))=mV p (l.take k)++(if cC (hK p (l.take k)) l[k]=true then [(l[k],vC ((bR (hK p (l.take k)) l[k]).2.1.getD (l[k]).toNat (aP aA)))] else []):=by
 rw[aKL h,aVK]
 show _++(_++[])=_
 rw[List.append_nil]
theorem bEZ {p:bF} {i:Nat} (h:i<p.2.1.length) (hz:bS aK p≤1000000000):bS aA (p.2.1.getD i (aP aA))≤1000000000:=by
 rw[aW h]
 have h5:bS aA (p.2.1[i])≤bS (.slice 66 aA) p.2.1:=rN (List.getElem_mem h)
 have h6:=xY p
 omega
theorem bMR {q:bF} {b:List Int} {M:Int} (hz:(bS aK q:Int)≤M) (h:∀ j,0≤b.getD j 0∧b.getD j 0≤M):(k:Nat)→k≤q.2.1.length→∀ j,0≤(upK q b k).getD j 0∧(upK q b k).getD j 0≤M
 | 0,_=>h
 | k+1,hk=>fun j=>by
  have h1:=bMR hz h k (by omega)
  have h2:=h1 k
  have h3:=bG0 (q.2.1.getD k (aP aA))
  have h5:bS aA (q.2.1.getD k (aP aA))≤bS (.slice 66 aA) q.2.1:=by rw[aW (show k<q.2.1.length by omega)];exact rN (List.getElem_mem _)
  have h6:=xY q
  exact aKP h1 (by omega) j
theorem aRB (p:bF):(k:Nat)→∀ j,0≤(iU p k).getD j 0∧(iU p k).getD j 0≤((bS aK p+800 * k:Nat):Int)
 | 0=>fun j=>by
  have:(iU p 0).getD j 0=0:=by
   show (List.replicate p.2.1.length (0:Int)).getD j 0=0
   by_cases hj:j<p.2.1.length
   ·rw[aW (by rw[List.length_replicate];exact hj),List.getElem_replicate]
   ·rw[aBV (by rw[List.length_replicate];omega)]
  omega
 | k+1=>fun j=>by
  have h1:=aF0 p (k+1)
  have h2:=aRB p k
  exact bMR (q:=bQ p (k+1)) (M:=((bS aK p+800 * (k+1):Nat):Int)) (by omega) (fun j=>by have:=h2 j;omega) _ (Nat.le_refl _) j
theorem bCN (c:bB) (s micro:Int):0≤jD c s micro:=by
 unfold jD
 split
 ·rename_i h
  have hb:=aGZ c s
  have hr:=(uM c.1 c.2.1 s).2.2.2 h.1
  have hm:=aZM (k:=if c.2.2.1=2 then min micro ((c.2.1.length:Int)+1 - s) else micro) (v:=fY c s) (by split <;> omega) (by split <;> omega) (by omega) (by omega)
  have h2:0≤(if lM c s=true then mE c s else 0):=by split <;> omega
  omega
 ·exact Int.le_refl _
theorem bI1 {c:bB} {b:List cB} (h1:bS aC c≤2000000) (h2:bS aF b≤2000000) {k:Nat} (hk:k<(xB c b).2.2.1.length) :
  cE c b=0∧k<c.2.2.2.2.2.length∧(0≤(xB c b).2.2.1.getD k 0∧(xB c b).2.2.1.getD k 0≤100000000)∧0≤c.2.2.2.2.2.getD k 0∧c.2.2.2.2.2.getD k 0≤100000∧(xB c b).2.2.1.length≤4:=by
 by_cases h:cE c b=0
 ·obtain ⟨a1,a2,a3,a4,a5,a6,a7,a8⟩:=iZ h
  have hs:=aMS h1 h2
  have hl:=pG h
  obtain ⟨m,hm,e⟩:=aOG (bA c b) 1000 0
  rw[bIG h] at e
  rw[e] at hk ⊢
  have hml:=wN (bA c b) m
  have hmb:=aRB (bA c b) m k
  have hk2:k<(iU (bA c b) m).length:=hk
  unfold jF at a8
  rw[Bool.and_eq_true,decide_eq_true_eq,List.all_eq_true] at a8
  have hpl:(bA c b).2.1.length=(bC c.1 c.2.1).toNat:=by rw[← qW h];exact fL _ _
  have hlk:k<c.2.2.2.2.2.length:=by omega
  have hlim:=of_decide_eq_true (a8.2 k (List.mem_range.2 hlk))
  have hpn:=bCN c (k:Int) (b.length:Int)
  refine ⟨h,hlk,⟨?_,?_⟩,by omega,hlim.2,?_⟩
  ·exact hmb.1
  ·have:=hmb.2;show (iU (bA c b) m).getD k 0≤100000000;omega
  ·show (iU (bA c b) m).length≤4;omega
 ·rw[← bAW h] at hk
  exact absurd hk (Nat.not_lt_zero _)
def yW (c:bB) (b:List cB):List Int:=mp (xB c b).2.2.1.length fun i=>c.2.2.2.2.2.getD i 0 - (xB c b).2.2.1.getD i 0
theorem bC0 {c:bB} {b:List cB} (h:¬ cE c b=0):[]=yW c b:=by unfold yW;rw[← bAW h];rfl
theorem bO0 {x y:Int} (h:0≤x∧x≤100000) (g:0≤y∧y≤100000000):-9223372036854775808≤x - y:=by omega
theorem bOB {x y:Int} (h:0≤x∧x≤100000) (g:0≤y∧y≤100000000):x - y≤9223372036854775807:=by omega
def aBE:Con:=⟨17,(.bPW aC (.bPW aF aB)),(.slice 48 aD),[.val ⟨true,aC,[]⟩,.val ⟨false,aF,[]⟩,.val ⟨false,aB,[]⟩],[⟨false,(.slice 48 aD),[2]⟩],false,none,
 ((fun x=>bS aC x.1≤2000000∧bS aF x.2.1≤2000000):(bB × (bL × bK))→Prop),
 ((fun x=>mV (bA x.1 x.2.1) (List.take 2000 x.2.2)):(bB × (bL × bK))→(List cP))⟩
def aLJ:T:=.call 0 (.bPY aC aF (.p1 aC (.bPW aF aB) (.Z 0)) (aH (.bPW aC (.bPW aF aB)) 1 (.Z 0))) <|.call 1 (aS (.bPW aC (.bPW aF aB)) 2 (.Z 0)) <|
 .bPX (.bQ0 3 tI) (.Z 2) <|
 .loop (.bPW tI (.bPW (.slice 48 aD) aK)) (bP (.bPW tI (.bPW (.slice 48 aD) aK)) [(.ci .i64 0),(.nl 48 aD),(.Z 1)]) <|
  .bPX (.cmp .lss .i64) (.bPY tI tI (.p1 tI (.bPW (.slice 48 aD) aK) (.Z 4)) (.Z 3)) <|
  .ite (.Z 5) (
   .bPX (.bQ1 3 tI) (.bPY aB tI (.Z 2) (.p1 tI (.bPW (.slice 48 aD) aK) (.Z 4))) <|
   .call 2 (.bPY aK tI (aS (.bPW tI (.bPW (.slice 48 aD) aK)) 2 (.Z 4)) (.Z 6)) <|
   .ite (.Z 7) (
    .call 3 (.bPY aK tI (aS (.bPW tI (.bPW (.slice 48 aD) aK)) 2 (.Z 4)) (.Z 6)) <|
    .bPX (.bQ1 66 aA) (.bPY (.slice 66 aA) tI (aH aK 1 (.Z 8)) (.Z 6)) <|
    .call 4 (.Z 9) <|
    .bPX (.lit 48 aD 1) (.bPY tI tI (.Z 6) (.Z 10)) <|
    .bPX (.bQ3 48 aD 16) (.bPY (.slice 48 aD) (.slice 48 aD) (aH (.bPW tI (.bPW (.slice 48 aD) aK)) 1 (.Z 4)) (.Z 11)) <|
    .bPX (.ar .add .i64) (.bPY tI tI (.p1 tI (.bPW (.slice 48 aD) aK) (.Z 4)) (.ci .i64 1)) <|
    .bPZ 0 (bP (.bPW tI (.bPW (.slice 48 aD) aK)) [(.Z 13),(.Z 12),(.Z 8)])) (
    .bPX (.ar .add .i64) (.bPY tI tI (.p1 tI (.bPW (.slice 48 aD) aK) (.Z 4)) (.ci .i64 1)) <|
    .bPZ 0 (.bPY tI (.bPW (.slice 48 aD) aK) (.Z 8) (aS (.bPW tI (.bPW (.slice 48 aD) aK)) 1 (.Z 4))))) (
   .ret (aH (.bPW tI (.bPW (.slice 48 aD) aK)) 1 (.Z 4)))
theorem bHZ:bW Tryz.prog [jZ,lU,gB,qR,lO] aBE false 3000 ⟨[(2989,1004,jV 15 11++[.dr 3,.dr 0,.dr 1,.dr 2,.tm 18 0,.on 8,.fz 2,.fz 3,.fz 4,.fz 5,.sl 11,.bx 6 0,.dk 2,.bx 6 1,.dk 3,.bx 6 2,.dk 4,.bx 6 3,.dk 5])],[]⟩ = .ok aLJ:=by kernel_rfl
theorem bIX (x:bB × (bL × bK)) (hx:okD (.bPW aC (.bPW aF aB)) x) (hp:(fun x=>bS aC x.1≤2000000∧bS aF x.2.1≤2000000) x):aLJ.wp [jZ,lU,gB,qR,lO] [⟨(.bPW aC (.bPW aF aB)),x⟩] [] (fun v=>v.as (.slice 48 aD)=(fun x=>mV (bA x.1 x.2.1) (List.take 2000 x.2.2)) x):=by
 obtain ⟨c,b,l⟩:=x
 obtain ⟨hp1,hp2⟩:bS aC c≤2000000∧bS aF b≤2000000:=hp
 delta aLJ jZ lU gB qR lO;refine dY ?_
 refine eD ?_
 have hps:=aMS hp1 hp2
 have hL:(List.take 2000 l).length≤2000:=by rw[List.length_take];omega
 refine ⟨⟨by omega,by omega⟩,fun _=>?_⟩
 generalize List.take 2000 l=L at *
 generalize bA c b=P at *
 intro _ _
 refine eW (fun k=>((k:Int),mV P (List.take k L),hK P (List.take k L))) L.length rfl fun I μ k hk _ go=>?_
 dsimp only
 refine eD ?_
 have ht:=aU7 P (List.take k L)
 rw[List.length_take] at ht
 constructor
 ·intro hlt
  have hk':k<L.length:=by omega
  have hz:=bCQ (p:=P) L k (by omega) (by omega)
  have hz2:=bCQ (p:=P) L (k+1) (by omega) (by omega)
  rw[aJZ hk'] at hz2
  have hlen:=aPN (hK P (List.take k L)) L[k]
  simp only[aW hk']
  refine ⟨by omega,fun _=>⟨fun he=>?_,fun he=>?_⟩⟩
  ·obtain ⟨-,f2,f3⟩:=jG he
   have hss:=bEZ (p:=bR (hK P (List.take k L)) L[k]) (i:=(L[k]).toNat) (by omega) hz2
   (repeat' first|intro _|(refine go _ ?_ ?_ ?_)|(refine go _ ?_ ?_)|(with_reducible apply And.intro))
   all_goals first|omega|(unfold maxLen;omega)|exact hz|exact hss|skip
   all_goals show _=((((k+1:Nat):Int)),mV P (List.take (k+1) L),hK P (List.take (k+1) L))
   all_goals rw[aJZ hk',aTF hk',if_pos he]
   all_goals rfl
  ·(repeat' first|intro _|(refine go _ ?_ ?_ ?_)|(refine go _ ?_ ?_)|(with_reducible apply And.intro))
   all_goals first|omega|skip
   all_goals show _=((((k+1:Nat):Int)),mV P (List.take (k+1) L),hK P (List.take (k+1) L))
   all_goals rw[aJZ hk',aTF hk',if_neg (by rw[he];simp),List.append_nil,← bC8 he]
   all_goals rfl
 ·intro hge
  rw[List.take_of_length_le (by omega)]
theorem bIL:Con.Holds Tryz.prog aBE:=aX aZ (aG aIG (aG aN5 (aG aB0 (aG aVR (aG aL9 aT))))) bHZ bIX
def xF:Con:=⟨16,(.bPW aC aF),aB,[.val ⟨true,aC,[]⟩,.val ⟨false,aF,[]⟩],[⟨false,aB,[2]⟩],false,none,
 ((fun x=>bS aC x.1≤2000000∧bS aF x.2≤2000000):(bB × bL)→Prop),
 ((fun x=>yW x.1 x.2):(bB × bL)→(List Int))⟩
def aHP:T:=.call 0 (.Z 0) <|
 .bPX (.cmp .neq .i64) (.bPY tI tI (.Z 1) (.ci .i64 0)) <|
 .ite (.Z 2) (
  .ret (.nl 3 tI)) (
  .call 1 (.Z 0) <|
  .bPX (.bQ0 3 tI) (aH (.bPW tI (.bPW aB (.bPW aB .bool))) 2 (.Z 3)) <|
  .loop aI (.bPY tI aB (.ci .i64 0) (.nl 3 tI)) <|
   .bPX (.cmp .lss .i64) (.bPY tI tI (.p1 tI aB (.Z 5)) (.Z 4)) <|
   .ite (.Z 6) (
    .bPX (.bQ1 3 tI) (.bPY aB tI (aH (.bPW tI (.bPW aB (.bPW aB .bool))) 2 (.Z 3)) (.p1 tI aB (.Z 5))) <|
    .bPX (.bQ1 3 tI) (.bPY aB tI (aH (.bPW tI (.bPW aB (.bPW aB .bool))) 2 (.Z 3)) (.p1 tI aB (.Z 5))) <|
    .bPX (.bQ1 3 tI) (.bPY aB tI (aS aC 5 (.p1 aC aF (.Z 0))) (.p1 tI aB (.Z 5))) <|
    .bPX (.ar .sub .i64) (.bPY tI tI (.Z 9) (.Z 8)) <|
    .bPX (.lit 3 tI 1) (.Z 10) <|
    .bPX (.bQ3 3 tI 8) (.bPY aB aB (aS aI 1 (.Z 5)) (.Z 11)) <|
    .bPX (.ar .add .i64) (.bPY tI tI (.p1 tI aB (.Z 5)) (.ci .i64 1)) <|
    .bPZ 0 (.bPY tI aB (.Z 13) (.Z 12))) (
    .ret (aS aI 1 (.Z 5))))
theorem bD8:bW Tryz.prog [jL,iR] xF false 3000 ⟨[(2986,2005,jV 15 8++[.dr 0,.dr 1,.tm 18 0,.on 5,.sl 4])],[]⟩ = .ok aHP:=by kernel_rfl
theorem bFQ (x:bB × bL) (hx:okD (.bPW aC aF) x) (hp:(fun x=>bS aC x.1≤2000000∧bS aF x.2≤2000000) x):aHP.wp [jL,iR] [⟨(.bPW aC aF),x⟩] [] (fun v=>v.as aB=(fun x=>yW x.1 x.2) x):=by
 obtain ⟨c,b⟩:=x
 obtain ⟨hp1,hp2⟩:bS aC c≤2000000∧bS aF b≤2000000:=hp
 have hcp:dO c:=aAV (by omega)
 delta aHP jL iR;refine dY ?_
 refine eD ?_
 refine ⟨hcp,fun _=>⟨fun h=>bC0 h,fun h=>⟨⟨hp1,hp2⟩,fun _ _=>?_⟩⟩⟩
 refine eW (fun k=>((k:Int),mp k fun i=>c.2.2.2.2.2.getD i 0 - (xB c b).2.2.1.getD i 0)) (xB c b).2.2.1.length rfl fun I μ k hk _ go=>?_
 dsimp only
 refine eD ?_
 have hml:=fL k (fun i=>c.2.2.2.2.2.getD i 0 - (xB c b).2.2.1.getD i 0)
 by_cases hk':k<(xB c b).2.2.1.length
 ·obtain ⟨q1,q2,q3,q4,q5,q6⟩:=bI1 hp1 hp2 hk'
  have q3':0≤List.getD (xB c b).2.2.1 k (aP tI)∧List.getD (xB c b).2.2.1 k (aP tI)≤100000000:=q3
  have q4':0≤List.getD c.2.2.2.2.2 k (aP tI)∧List.getD c.2.2.2.2.2 k (aP tI)≤100000:=⟨q4,q5⟩
  (repeat' first|intro _|(refine go _ ?_ ?_ ?_)|(refine go _ ?_ ?_)|(with_reducible apply And.intro))
  all_goals first|omega|(unfold maxLen;omega)|exact bO0 q4' q3'|exact bOB q4' q3'|(rw[oE];rfl)|skip
 ·(repeat' first|intro _|(refine go _ ?_ ?_ ?_)|(refine go _ ?_ ?_)|(with_reducible apply And.intro))
  all_goals first|omega|(have e:k=(xB c b).2.2.1.length:=(by omega);subst e;rfl)|skip
theorem bF0:Con.Holds Tryz.prog xF:=aX aZ (aG aHW (aG aFZ aT)) bD8 bFQ
end
end Go.Proofs.YtpafjioccjpmfaaGreat
