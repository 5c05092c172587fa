/- Seq4: lemmas. No conditions. -/
import Derived.Test.YtpafjioccjpmfaaGreatMat3
namespace Go.Proofs.YtpafjioccjpmfaaGreat
noncomputable section
set_option maxRecDepth 100000
open Go.ChangeShapes Go.WideShapes Go.ChangeAt Go.RowKit Go.Deep
set_option linter.unusedVariables false
set_option linter.unusedSimpArgs false
def aAC (y t:List Int):Int × Bool:=((mI (oT nD y t).1 (oT nD y t).1).1.fdiv 2,(oT nD y t).2 || (mI (oT nD y t).1 (oT nD y t).1).2)
def jC (m:List cZ) (x:List Int):Nat→dG × Bool
 | 0=>([x],false)
 | k+1=>((jC m x k).1++[(rU (m.getD k qY) ((jC m x k).1.getD k [])).1],(jC m x k).2 || (rU (m.getD k qY) ((jC m x k).1.getD k [])).2)
def yT (m:List cZ) (x:List Int):dG × Bool:=if bO m=true∧cN x (dM m)=true then jC m x m.length else ([],false)
def iD (m:List cZ) (r:dG) (d:List Int) (n:Nat):Nat→dG × (List Int × Bool)
 | 0=>(List.replicate n [],d,false)
 | k+1=>((iD m r d n k).1.set (n - 1 - k) (mG (m.getD (n - 1 - k) qY) (r.getD (n - 1 - k) []) (iD m r d n k).2.1).2.1,(mG (m.getD (n - 1 - k) qY) (r.getD (n - 1 - k) []) (iD m r d n k).2.1).1,
  (iD m r d n k).2.2 || (mG (m.getD (n - 1 - k) qY) (r.getD (n - 1 - k) []) (iD m r d n k).2.1).2.2)
def oP (m:List cZ) (r:dG) (d:List Int):dG × (List Int × Bool):=iD m r d m.length m.length
def gG (m:List cZ) (p:cB):Bool:=cN p.1 (dM m)&&cN p.2 (cH m)
def eK (m:List cZ) (b:List cB):Bool:=bO m&&(decide (1≤b.length∧b.length≤5)&&b.all (gG m))
theorem qK (m:List cZ) (x:List Int):(k:Nat)→(jC m x k).1.length=k+1
 | 0=>rfl
 | k+1=>by rw[jC,List.length_append,qK m x k];rfl
theorem xG (m:List cZ) (r:dG) (d:List Int) (n:Nat):(k:Nat)→(iD m r d n k).1.length=n
 | 0=>List.length_replicate
 | k+1=>by rw[iD,List.length_set,xG m r d n k]
theorem aWN {m:List cZ} {b:List cB} (h:bO m=false):false=eK m b:=by unfold eK;rw[h];rfl
theorem aKE {m:List cZ} {b:List cB} (h:¬ (1≤b.length∧b.length≤5)):false=eK m b:=by unfold eK;rw[decide_eq_false h,Bool.false_and,Bool.and_false]
theorem aT0 {m:List cZ} {b:List cB} (h:b.all (gG m)=false):false=eK m b:=by unfold eK;rw[h,Bool.and_false,Bool.and_false]
theorem bBK {m:List cZ} {b:List cB} (h1:bO m=true) (h2:1≤b.length∧b.length≤5) (h3:b.all (gG m)=true):true=eK m b:=by unfold eK;rw[h1,h3,decide_eq_true h2];rfl
theorem nC (m:List cZ) (b:List cB):eK m b=true↔bO m=true∧(1≤b.length∧b.length≤5)∧b.all (gG m)=true:=by unfold eK;simp only[Bool.and_eq_true,decide_eq_true_eq]
theorem aRE {m:List cZ} {p:cB} (h:nE p.1=false∨nE p.2=false∨¬ (p.1.length:Int)=dM m∨¬ (p.2.length:Int)=cH m):gG m p=false:=by
 unfold gG cN
 rcases h with h|h|h|h
 ·rw[h];simp
 ·rw[h];simp
 ·rw[decide_eq_false h];simp
 ·rw[decide_eq_false h];simp
theorem bNM {m:List cZ} {p:cB} (h1:nE p.1=true) (h2:nE p.2=true) (h3:(p.1.length:Int)=dM m) (h4:(p.2.length:Int)=cH m):gG m p=true:=by
 unfold gG cN;rw[h1,h2,decide_eq_true h3,decide_eq_true h4];rfl
def rX:Con:=⟨105,aQ,(.bPW tI .bool),[.val ⟨false,aB,[]⟩,.val ⟨false,aB,[]⟩],[⟨false,tI,[0]⟩,⟨false,.bool,[0]⟩],false,none,
 ((fun _=>True):(cB)→Prop),
 ((fun x=>aAC x.1 x.2):(cB)→(Int × Bool))⟩
def aE6:T:=.call 0 (.Z 0) <|.call 1 (.bPY aB aB (.p1 aB .bool (.Z 1)) (.p1 aB .bool (.Z 1))) <|
 .bPX (.shr .i64 .u64) (.bPY tI (.int .u64) (.p1 tI .bool (.Z 2)) (.ci .u64 1)) <|
 .ite (aS (.bPW aB .bool) 1 (.Z 1)) (
  .ret (.bPY tI .bool (.Z 3) (.cb true))) (
  .ret (.bPY tI .bool (.Z 3) (aS (.bPW tI .bool) 1 (.Z 2))))
theorem bAI:bW Tryz.prog [lN,iC] rX false 3000 ⟨[],[]⟩ = .ok aE6:=by kernel_rfl
theorem aXR (x:cB) (hx:okD aQ x) (hp:(fun _=>True) x):aE6.wp [lN,iC] [⟨aQ,x⟩] [] (fun v=>v.as (.bPW tI .bool)=(fun x=>aAC x.1 x.2) x):=by
 delta aE6 lN iC;refine dY ?_
 exact fun _ _=>⟨by omega,fun _=>⟨fun h=>Prod.ext rfl (uY h),fun h=>Prod.ext rfl (aD0 h)⟩⟩
theorem aYO:Con.Holds Tryz.prog rX:=aX aZ (aG aKV (aG aDD aT)) bAI aXR
def lK:Con:=⟨103,(.bPW aE aB),(.bPW aO .bool),[.val ⟨true,aE,[]⟩,.val ⟨false,aB,[]⟩],[⟨false,aO,[2]⟩,⟨false,.bool,[0]⟩],false,none,
 ((fun _=>True):(bE × bK)→Prop),
 ((fun x=>yT x.1 x.2):(bE × bK)→(dG × Bool))⟩
def aD9:T:=.call 0 (.p1 aE aB (.Z 0)) <|
 .bPX .not (.Z 1) <|
 .ite (.Z 2) (
  .ret (.bPY aO .bool (.nl 134 aB) (.cb false))) (
  .call 1 (.p1 aE aB (.Z 0)) <|
  .call 2 (.bPY aB tI (aS (.bPW aE aB) 1 (.Z 0)) (.Z 3)) <|
  .bPX .not (.Z 4) <|
  .ite (.Z 5) (
   .ret (.bPY aO .bool (.nl 134 aB) (.cb false))) (
   .call 3 (aS (.bPW aE aB) 1 (.Z 0)) <|
   .bPX (.lit 134 aB 1) (.Z 6) <|
   .bPX (.bQ0 80 bU) (.p1 aE aB (.Z 0)) <|
   .loop (.bPW tI (.bPW .bool aO)) (bP (.bPW tI (.bPW .bool aO)) [(.ci .i64 0),(.cb false),(.Z 7)]) <|
    .bPX (.cmp .lss .i64) (.bPY tI tI (.p1 tI (.bPW .bool aO) (.Z 9)) (.Z 8)) <|
    .ite (.Z 10) (
     .bPX (.bQ1 80 bU) (.bPY aE tI (.p1 aE aB (.Z 0)) (.p1 tI (.bPW .bool aO) (.Z 9))) <|
     .bPX (.bQ1 134 aB) (.bPY aO tI (aS (.bPW tI (.bPW .bool aO)) 2 (.Z 9)) (.p1 tI (.bPW .bool aO) (.Z 9))) <|
     .bPX (.bQ1 134 aB) (.bPY aO tI (aS (.bPW tI (.bPW .bool aO)) 2 (.Z 9)) (.p1 tI (.bPW .bool aO) (.Z 9))) <|
     .call 4 (.bPY bU aB (.Z 11) (.Z 13)) <|
     .bPX (.lit 134 aB 1) (.p1 aB .bool (.Z 14)) <|
     .bPX (.bQ3 134 aB 24) (.bPY aO aO (aS (.bPW tI (.bPW .bool aO)) 2 (.Z 9)) (.Z 15)) <|
     .ite (aH (.bPW tI (.bPW .bool aO)) 1 (.Z 9)) (
      .bPX (.ar .add .i64) (.bPY tI tI (.p1 tI (.bPW .bool aO) (.Z 9)) (.ci .i64 1)) <|
      .bPZ 0 (bP (.bPW tI (.bPW .bool aO)) [(.Z 17),(.cb true),(.Z 16)])) (
      .bPX (.ar .add .i64) (.bPY tI tI (.p1 tI (.bPW .bool aO) (.Z 9)) (.ci .i64 1)) <|
      .bPZ 0 (bP (.bPW tI (.bPW .bool aO)) [(.Z 17),(aS (.bPW aB .bool) 1 (.Z 14)),(.Z 16)]))) (
     .ret (.bPY aO .bool (aS (.bPW tI (.bPW .bool aO)) 2 (.Z 9)) (aH (.bPW tI (.bPW .bool aO)) 1 (.Z 9))))))
theorem bAR:bW Tryz.prog [bV,iP,cG,bT,mL] lK false 3000 ⟨[(2984,4009,jV 26 12++[.dr 2,.dr 0,.dr 1,.tm 29 0,.tm 7 0,.sl 3])],[(2991,4006,[23],[]),(2971,12015,[],[6])]⟩ = .ok aD9:=by kernel_rfl
theorem aXU (x:bE × bK) (hx:okD (.bPW aE aB) x) (hp:(fun _=>True) x):aD9.wp [bV,iP,cG,bT,mL] [⟨(.bPW aE aB),x⟩] [] (fun v=>v.as (.bPW aO .bool)=(fun x=>yT x.1 x.2) x):=by
 obtain ⟨m,v⟩:=x
 delta aD9 bV iP cG bT mL;refine dY ?_
 simp only[Bool.not_eq_true',Bool.not_eq_false']
 refine ⟨fun h=>?_,fun h1 _=>⟨fun h=>?_,fun h2=>?_⟩⟩
 ·unfold yT;rw[if_neg (by rw[h];simp)]
 ·unfold yT;rw[if_neg (by rw[h];simp)]
 ·have hv:=(dB v).1 ((fF _ _).1 h2).1
  have hm:=(bM m).1 h1
  rw[show yT m v=_ from if_pos ⟨h1,h2⟩]
  refine ⟨by omega,fun _ _ _=>?_⟩
  refine eW (fun k=>((k:Int),(jC m v k).2,(jC m v k).1)) m.length rfl fun I μ k hk _ go=>?_
  dsimp only
  simp only[uP,qK]
  (repeat' first|intro _|(refine go _ ?_ ?_ ?_)|(refine go _ ?_ ?_)|(with_reducible apply And.intro))
  all_goals first|omega|(unfold maxLen;omega)|exact Prod.ext rfl (Prod.ext (uY (by assumption)) rfl)|exact Prod.ext rfl (Prod.ext (aD0 (by assumption)) rfl)|(have e:k=m.length:=(by omega);subst e;rfl)
theorem aJK:Con.Holds Tryz.prog lK:=aX aZ (aG gZ (aG aFD (aG jN (aG gT (aG aNV aT))))) bAR aXU
def uC:Con:=⟨110,(.bPW aE (.bPW aO aB)),(.bPW aO (.bPW aB .bool)),[.val ⟨false,aE,[]⟩,.val ⟨false,aO,[]⟩,.val ⟨false,aB,[1]⟩],[⟨false,aO,[1]⟩,⟨false,aB,[1]⟩,⟨false,.bool,[0]⟩],false,none,
 ((fun x=>List.length x.1≤8∧List.length x.1≤List.length x.2.1):(bE × (dG × bK))→Prop),
 ((fun x=>oP x.1 x.2.1 x.2.2):(bE × (dG × bK))→(dG × (bK × Bool)))⟩
def aDP:T :=
 .bPX (.bQ0 80 bU) (.p1 aE (.bPW aO aB) (.Z 0)) <|
 .bPX (.rep 134 aB 24) (.Z 1) <|
 .bPX (.bQ0 80 bU) (.p1 aE (.bPW aO aB) (.Z 0)) <|
 .bPX (.ar .sub .i64) (.bPY tI tI (.Z 3) (.ci .i64 1)) <|
 .loop (.bPW tI (.bPW .bool (.bPW aB (.bPW aO aB)))) (bP (.bPW tI (.bPW .bool (.bPW aB (.bPW aO aB)))) [(.Z 4),(.cb false),(aS (.bPW aE (.bPW aO aB)) 2 (.Z 0)),(.Z 2),(aS (.bPW aE (.bPW aO aB)) 2 (.Z 0))]) <|
  .bPX (.cmp .geq .i64) (.bPY tI tI (.p1 tI (.bPW .bool (.bPW aB (.bPW aO aB))) (.Z 5)) (.ci .i64 0)) <|
  .ite (.Z 6) (
   .bPX (.bQ1 80 bU) (.bPY aE tI (.p1 aE (.bPW aO aB) (.Z 0)) (.p1 tI (.bPW .bool (.bPW aB (.bPW aO aB))) (.Z 5))) <|
   .bPX (.bQ1 134 aB) (.bPY aO tI (aH (.bPW aE (.bPW aO aB)) 1 (.Z 0)) (.p1 tI (.bPW .bool (.bPW aB (.bPW aO aB))) (.Z 5))) <|
   .call 0 (bP (.bPW bU aQ) [(.Z 7),(.Z 8),(aS (.bPW tI (.bPW .bool (.bPW aB (.bPW aO aB)))) 4 (.Z 5))]) <|
   .bPX (.bQ1 134 aB) (.bPY aO tI (aH (.bPW tI (.bPW .bool (.bPW aB (.bPW aO aB)))) 3 (.Z 5)) (.p1 tI (.bPW .bool (.bPW aB (.bPW aO aB))) (.Z 5))) <|
   .bPX (.bQ4 134 aB) (bP (.bPW aO aI) [(aH (.bPW tI (.bPW .bool (.bPW aB (.bPW aO aB)))) 3 (.Z 5)),(.p1 tI (.bPW .bool (.bPW aB (.bPW aO aB))) (.Z 5)),(aH (.bPW aB (.bPW aB .bool)) 1 (.Z 9))]) <|
   .ite (aH (.bPW tI (.bPW .bool (.bPW aB (.bPW aO aB)))) 1 (.Z 5)) (
    .bPX (.ar .sub .i64) (.bPY tI tI (.p1 tI (.bPW .bool (.bPW aB (.bPW aO aB))) (.Z 5)) (.ci .i64 1)) <|
    .bPZ 0 (bP (.bPW tI (.bPW .bool (.bPW aB (.bPW aO aB)))) [(.Z 12),(.cb true),(.p1 aB (.bPW aB .bool) (.Z 9)),(.Z 11),(.p1 aB (.bPW aB .bool) (.Z 9))])) (
    .bPX (.ar .sub .i64) (.bPY tI tI (.p1 tI (.bPW .bool (.bPW aB (.bPW aO aB))) (.Z 5)) (.ci .i64 1)) <|
    .bPZ 0 (bP (.bPW tI (.bPW .bool (.bPW aB (.bPW aO aB)))) [(.Z 12),(aS (.bPW aB (.bPW aB .bool)) 2 (.Z 9)),(.p1 aB (.bPW aB .bool) (.Z 9)),(.Z 11),(.p1 aB (.bPW aB .bool) (.Z 9))]))) (
   .ret (bP (.bPW aO (.bPW aB .bool)) [(aH (.bPW tI (.bPW .bool (.bPW aB (.bPW aO aB)))) 3 (.Z 5)),(aS (.bPW tI (.bPW .bool (.bPW aB (.bPW aO aB)))) 4 (.Z 5)),(aH (.bPW tI (.bPW .bool (.bPW aB (.bPW aO aB)))) 1 (.Z 5))]))
theorem aX7:bW Tryz.prog [lF] uC false 3000 ⟨[(2989,1005,jV 20 15++[.tm 11 0,.tm 10 0,.tm 2 0,.sl 2,.sl 1])],[(2978,3010,[],[4])]⟩ = .ok aDP:=by kernel_rfl
theorem aYZ (x:bE × (dG × bK)) (hx:okD (.bPW aE (.bPW aO aB)) x) (hp:(fun x=>List.length x.1≤8∧List.length x.1≤List.length x.2.1) x):aDP.wp [lF] [⟨(.bPW aE (.bPW aO aB)),x⟩] [] (fun v=>v.as (.bPW aO (.bPW aB .bool))=(fun x=>oP x.1 x.2.1 x.2.2) x):=by
 obtain ⟨m,r,d⟩:=x
 obtain ⟨hm,hr⟩:m.length≤8∧m.length≤r.length:=hp
 delta aDP lF;refine dY ?_
 refine eD ?_
 obtain ⟨n,hn⟩:∃ n,n=m.length:=⟨_,rfl⟩
 rw[show oP m r d=iD m r d n n by rw[hn];rfl,← hn]
 refine fun _=>⟨⟨by omega,by omega,by omega⟩,fun _ _=>⟨by omega,fun _=>?_⟩⟩
 refine eW (fun k=>((n:Int) - 1 - (k:Int),(iD m r d n k).2.2,(iD m r d n k).2.1,(iD m r d n k).1,(iD m r d n k).2.1)) n (by show (_,_)=(_,_);simp only[iD,Int.natCast_zero,Int.sub_zero];rfl) fun I μ k hk _ go=>?_
 dsimp only
 have hgl:=xG m r d n k
 by_cases hkn:k<n
 ·obtain ⟨j,hj⟩:∃ j,j=n - 1 - k:=⟨_,rfl⟩
  have e:(n:Int) - 1 - (k:Int)=(j:Int):=by omega
  rw[e] at go
  simp only[e,uP]
  have e2:∀ (F:Bool) (hF:F=((iD m r d n k).2.2 || (mG (m.getD j qY) (r.getD j []) (iD m r d n k).2.1).2.2)),((j:Int) - 1,F,(mG (m.getD j qY) (r.getD j []) (iD m r d n k).2.1).1,(iD m r d n k).1.set j (mG (m.getD j qY) (r.getD j []) (iD m r d n k).2.1).2.1,(mG (m.getD j qY) (r.getD j []) (iD m r d n k).2.1).1)=((n:Int) - 1 - ((k+1:Nat):Int),(iD m r d n (k+1)).2.2,(iD m r d n (k+1)).2.1,(iD m r d n (k+1)).1,(iD m r d n (k+1)).2.1):=fun F hF=>by
   rw[hF,iD,← hj]
   exact Prod.ext (by show (j:Int) - 1=(n:Int) - 1 - ((k+1:Nat):Int);omega) rfl
  (repeat' first|intro _|(refine go _ ?_ ?_ ?_)|(refine go _ ?_ ?_)|(with_reducible apply And.intro))
  all_goals first|omega|exact e2 _ (uY (by assumption))|exact e2 _ (aD0 (by assumption))
 ·have e:k=n:=by omega
  subst e
  simp only[show (k:Int) - 1 - (k:Int) = -1 by omega,uP]
  (repeat' first|intro _|(refine go _ ?_ ?_ ?_)|(refine go _ ?_ ?_)|(with_reducible apply And.intro))
  all_goals first|omega|trivial|rfl
theorem aXY:Con.Holds Tryz.prog uC:=aX aZ (aG aMG aT) aX7 aYZ
def aBL:Con:=⟨86,(.bPW aE aQ),.bool,[.val ⟨true,aE,[]⟩,.val ⟨true,aQ,[]⟩],[⟨false,.bool,[0]⟩],false,none,
 ((fun _=>True):(bE × cB)→Prop),
 ((fun x=>bO x.1&&gG x.1 x.2):(bE × cB)→(Bool))⟩
def aKM:T:=.call 0 (.p1 aE aQ (.Z 0)) <|.ite (.Z 1) (.call 1 (.p1 aE aQ (.Z 0)) <|.call 2 (.bPY aB tI (aH (.bPW aE aQ) 1 (.Z 0)) (.Z 2)) <|.ite (.Z 3) (.call 3 (.p1 aE aQ (.Z 0)) <|.call 2 (.bPY aB tI (aS (.bPW aE aQ) 2 (.Z 0)) (.Z 4)) <|.ret (.Z 5)) (.ret (.cb false))) (.ret (.cb false))
theorem bHH:bW Tryz.prog [bV,iP,cG,gF] aBL false 3000 ⟨[],[]⟩ = .ok aKM:=by kernel_rfl
theorem bK2 (x:bE × cB) (hx:okD (.bPW aE aQ) x) (hp:(fun _=>True) x):aKM.wp [bV,iP,cG,gF] [⟨(.bPW aE aQ),x⟩] [] (fun v=>v.as .bool=(fun x=>bO x.1&&gG x.1 x.2) x):=by
 delta aKM bV iP cG gF;refine dY ?_
 refine ⟨fun h1 _=>⟨fun h2 _=>?_,fun h2=>?_⟩,fun h1=>?_⟩
 ·unfold gG;rw[h1,h2];simp
 ·unfold gG;rw[h2];simp
 ·rw[h1];rfl
theorem bGY:Con.Holds Tryz.prog aBL:=aX aZ (aG gZ (aG aFD (aG jN (aG aCA aT)))) bHH bK2
def qI:Con:=⟨51,(.bPW aE aF),.bool,[.val ⟨true,aE,[]⟩,.val ⟨false,aF,[]⟩],[⟨false,.bool,[0]⟩],false,none,
 ((fun _=>True):(bE × bL)→Prop),
 ((fun x=>eK x.1 x.2):(bE × bL)→(Bool))⟩
def aAN:T:=.call 0 (.p1 aE aF (.Z 0)) <|
 .bPX .not (.Z 1) <|
 .ite (.Z 2) (
  .ret (.cb false)) (
  .bPX (.bQ0 108 aQ) (aS (.bPW aE aF) 1 (.Z 0)) <|
  .bPX (.cmp .lss .i64) (.bPY tI tI (.Z 3) (.ci .i64 1)) <|
  .ite (.Z 4) (
   .ret (.cb false)) (
   .bPX (.bQ0 108 aQ) (aS (.bPW aE aF) 1 (.Z 0)) <|
   .bPX (.cmp .gtr .i64) (.bPY tI tI (.Z 5) (.ci .i64 5)) <|
   .ite (.Z 6) (
    .ret (.cb false)) (
    .bPX (.bQ0 108 aQ) (aS (.bPW aE aF) 1 (.Z 0)) <|
    .loop tI (.ci .i64 0) <|
     .bPX (.cmp .lss .i64) (.bPY tI tI (.Z 8) (.Z 7)) <|
     .ite (.Z 9) (
      .bPX (.bQ1 108 aQ) (.bPY aF tI (aS (.bPW aE aF) 1 (.Z 0)) (.Z 8)) <|
      .call 1 (.bPY aE aQ (.p1 aE aF (.Z 0)) (.Z 10)) <|
      .bPX .not (.Z 11) <|
      .ite (.Z 12) (
       .ret (.cb false)) (
       .bPX (.ar .add .i64) (.bPY tI tI (.Z 8) (.ci .i64 1)) <|
       .bPZ 0 (.Z 13))) (
      .ret (.cb true)))))
theorem aVW:bW Tryz.prog [bV,aBL] qI false 3000 ⟨[(2988,8008,jV 19 7++[.dr 0,.dr 1,.tm 22 0])],[]⟩ = .ok aAN:=by kernel_rfl
theorem aUM (x:bE × bL) (hx:okD (.bPW aE aF) x) (hp:(fun _=>True) x):aAN.wp [bV,aBL] [⟨(.bPW aE aF),x⟩] [] (fun v=>v.as .bool=(fun x=>eK x.1 x.2) x):=by
 obtain ⟨m,b⟩:=x
 have hm:b.length≤9223372036854775807:=hx.2.1
 delta aAN bV aBL;refine dY ?_
 refine eD ?_
 refine ⟨fun h=>aWN h,fun h1 _=>⟨fun h=>aKE (by omega),fun h2 _=>⟨fun h=>aKE (by omega),fun h3 _=>?_⟩⟩⟩
 refine aAT (fun k=>(k:Int)) (fun k=>(List.take k b).all (gG m)=true) b.length rfl rfl fun I μ k hk hG _ go=>?_
 try dsimp only
 rw[h1]
 simp only[Bool.true_and]
 refine eD ?_
 constructor
 ·intro hlt
  have hk':k<b.length:=by omega
  have e:=qF (gG m) b hk'
  rw[hG,Bool.true_and] at e
  simp only[aW hk']
  (repeat' first|intro _|(refine go _ ?_ ?_ ?_)|(refine go _ ?_ ?_)|(with_reducible apply And.intro))
  all_goals first|omega|(rename_i hh;exact aT0 (yF hk' (hh.resolve_left (by simp[h1]))))|(rename_i hh _;exact e.trans hh.2)|rfl
 ·intro hge
  rw[List.take_of_length_le (by omega)] at hG
  exact bBK h1 ⟨by omega,by omega⟩ hG
theorem aTT:Con.Holds Tryz.prog qI:=aX aZ (aG gZ (aG bGY aT)) aVW aUM
def pZ:Con:=⟨63,aE,tI,[.val ⟨true,aE,[]⟩],[⟨false,tI,[0]⟩],false,none,
 ((fun _=>True):(bE)→Prop),
 ((fun x=>dM x):(bE)→(Int))⟩
def aMN:T:=.call 0 (.Z 0) <|
 .bPX .not (.Z 1) <|
 .ite (.Z 2) (
  .ret (.ci .i64 0)) (
  .bPX (.bQ1 80 bU) (.bPY aE tI (.Z 0) (.ci .i64 0)) <|
  .ret (aH bU 1 (.Z 3)))
theorem bGK:bW Tryz.prog [dJ] pZ false 3000 ⟨[],[]⟩ = .ok aMN:=by kernel_rfl
theorem bHN (x:bE) (hx:okD aE x) (hp:(fun _=>True) x):aMN.wp [dJ] [⟨aE,x⟩] [] (fun v=>v.as tI=(fun x=>dM x) x):=by
 delta aMN dJ;refine dY ?_
 simp only[Bool.not_eq_true',Bool.not_eq_false']
 refine ⟨fun h=>?_,fun h=>?_⟩
 ·unfold dM;rw[h];rfl
 ·have:=(bM x).1 h
  refine ⟨by omega,fun _=>?_⟩
  unfold dM;rw[if_pos h];rfl
theorem aWR:Con.Holds Tryz.prog pZ:=aX aZ (aG qJ aT) bGK bHN
def nK:Con:=⟨64,aE,tI,[.val ⟨true,aE,[]⟩],[⟨false,tI,[0]⟩],false,none,
 ((fun _=>True):(bE)→Prop),
 ((fun x=>cH x):(bE)→(Int))⟩
def aHA:T:=.call 0 (.Z 0) <|
 .bPX .not (.Z 1) <|
 .ite (.Z 2) (
  .ret (.ci .i64 0)) (
  .bPX (.bQ0 80 bU) (.Z 0) <|
  .bPX (.ar .sub .i64) (.bPY tI tI (.Z 3) (.ci .i64 1)) <|
  .bPX (.bQ1 80 bU) (.bPY aE tI (.Z 0) (.Z 4)) <|
  .ret (aH bU 2 (.Z 5)))
theorem bF4:bW Tryz.prog [dJ] nK false 3000 ⟨[],[]⟩ = .ok aHA:=by kernel_rfl
theorem bER (x:bE) (hx:okD aE x) (hp:(fun _=>True) x):aHA.wp [dJ] [⟨aE,x⟩] [] (fun v=>v.as tI=(fun x=>cH x) x):=by
 delta aHA dJ;refine dY ?_
 simp only[Bool.not_eq_true',Bool.not_eq_false']
 refine ⟨fun h=>?_,fun h=>?_⟩
 ·unfold cH;rw[h];rfl
 ·have:=(bM x).1 h
  refine fun _=>⟨by omega,fun _=>⟨by omega,fun _=>?_⟩⟩
  unfold cH;rw[if_pos h,zB];rfl
theorem aOR:Con.Holds Tryz.prog nK:=aX aZ (aG qJ aT) bF4 bER
def qG:Con:=⟨30,(.bPW aE aF),.bool,[.val ⟨true,aE,[]⟩,.val ⟨false,aF,[]⟩],[⟨false,.bool,[0]⟩],false,none,
 ((fun _=>True):(bE × bL)→Prop),
 ((fun x=>eK x.1 x.2):(bE × bL)→(Bool))⟩
def aAJ:T:=.call 0 (.p1 aE aF (.Z 0)) <|
 .bPX .not (.Z 1) <|
 .ite (.Z 2) (
  .ret (.cb false)) (
  .bPX (.bQ0 108 aQ) (aS (.bPW aE aF) 1 (.Z 0)) <|
  .call 1 (bP (.bPW tI aD) [(.Z 3),(.ci .i64 1),(.ci .i64 5)]) <|
  .bPX .not (.Z 4) <|
  .ite (.Z 5) (
   .ret (.cb false)) (
   .loop tI (.ci .i64 0) <|
    .bPX (.bQ0 108 aQ) (aS (.bPW aE aF) 1 (.Z 0)) <|
    .bPX (.cmp .lss .i64) (.bPY tI tI (.Z 6) (.Z 7)) <|
    .ite (.Z 8) (
     .bPX (.bQ1 108 aQ) (.bPY aF tI (aS (.bPW aE aF) 1 (.Z 0)) (.Z 6)) <|
     .call 2 (.p1 aB aB (.Z 9)) <|
     .bPX .not (.Z 10) <|
     .ite (.Z 11) (
      .ret (.cb false)) (
      .bPX (.bQ1 108 aQ) (.bPY aF tI (aS (.bPW aE aF) 1 (.Z 0)) (.Z 6)) <|
      .call 2 (aS aQ 1 (.Z 12)) <|
      .bPX .not (.Z 13) <|
      .ite (.Z 14) (
       .ret (.cb false)) (
       .bPX (.bQ1 108 aQ) (.bPY aF tI (aS (.bPW aE aF) 1 (.Z 0)) (.Z 6)) <|
       .bPX (.bQ0 3 tI) (.p1 aB aB (.Z 15)) <|
       .call 3 (.p1 aE aF (.Z 0)) <|
       .bPX (.cmp .neq .i64) (.bPY tI tI (.Z 16) (.Z 17)) <|
       .ite (.Z 18) (
        .ret (.cb false)) (
        .bPX (.bQ1 108 aQ) (.bPY aF tI (aS (.bPW aE aF) 1 (.Z 0)) (.Z 6)) <|
        .bPX (.bQ0 3 tI) (aS aQ 1 (.Z 19)) <|
        .call 4 (.p1 aE aF (.Z 0)) <|
        .bPX (.cmp .neq .i64) (.bPY tI tI (.Z 20) (.Z 21)) <|
        .ite (.Z 22) (
         .ret (.cb false)) (
         .bPX (.ar .add .i64) (.bPY tI tI (.Z 6) (.ci .i64 1)) <|
         .bPZ 0 (.Z 23)))))) (
     .ret (.cb true))))
theorem aW9:bW Tryz.prog [dJ,cJ,wY,pZ,nK] qG false 3000 ⟨[(2988,4006,jV 14 6++[.dr 0,.tm 5 0])],[]⟩ = .ok aAJ:=by kernel_rfl
theorem aUT (x:bE × bL) (hx:okD (.bPW aE aF) x) (hp:(fun _=>True) x):aAJ.wp [dJ,cJ,wY,pZ,nK] [⟨(.bPW aE aF),x⟩] [] (fun v=>v.as .bool=(fun x=>eK x.1 x.2) x):=by
 obtain ⟨m,b⟩:=x
 have hm:b.length≤9223372036854775807:=hx.2.1
 delta aAJ dJ cJ wY pZ nK;refine dY ?_
 simp only[uP,bNJ,bOG]
 refine ⟨fun h=>aWN h,fun h1 _=>⟨fun h=>aKE (by omega),fun h2=>?_⟩⟩
 refine aAT (fun k=>(k:Int)) (fun k=>(List.take k b).all (gG m)=true) b.length rfl rfl fun I μ k hk hG _ go=>?_
 try dsimp only
 refine eD ?_
 intro _
 constructor
 ·intro hlt
  have hk':k<b.length:=by omega
  have e:=qF (gG m) b hk'
  rw[hG,Bool.true_and] at e
  have bad:gG m b[k]=false→false=eK m b:=fun h=>aT0 (yF hk' h)
  simp only[aW hk']
  (repeat' first|intro _|(refine go _ ?_ ?_ ?_)|(refine go _ ?_ ?_)|(with_reducible apply And.intro))
  all_goals first|omega|exact bad (aRE (.inl (by assumption)))|exact bad (aRE (.inr (.inl (by assumption))))|exact bad (aRE (.inr (.inr (.inl (by assumption)))))|exact bad (aRE (.inr (.inr (.inr (by assumption)))))|exact e.trans (bNM (by assumption) (by assumption) (by assumption) (by assumption))|rfl
 ·intro hge
  rw[List.take_of_length_le (by omega)] at hG
  exact bBK h1 ⟨by omega,by omega⟩ hG
theorem aSV:Con.Holds Tryz.prog qG:=aX aZ (aG qJ (aG kF (aG bFB (aG aWR (aG aOR aT))))) aW9 aUT
end
end Go.Proofs.YtpafjioccjpmfaaGreat
