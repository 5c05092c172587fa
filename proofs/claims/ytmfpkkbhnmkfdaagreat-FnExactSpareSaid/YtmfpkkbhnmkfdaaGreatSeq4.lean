/- Seq4: lemmas. No conditions. -/
import Derived.Test.YtmfpkkbhnmkfdaaGreatMat3
namespace Go.Proofs.YtmfpkkbhnmkfdaaGreat
noncomputable section
set_option maxRecDepth 100000
open Go.ChangeShapes Go.WideShapes Go.ChangeAt Go.RowKit Go.Deep
set_option linter.unusedVariables false
set_option linter.unusedSimpArgs false
def wQ (y t:List Int):Int × Bool:=((gD (lH fA y t).1 (lH fA y t).1).1.fdiv 2,(lH fA y t).2 || (gD (lH fA y t).1 (lH fA y t).1).2)
def kW (m:List eV) (x:List Int):Nat→cZ × Bool
 | 0=>([x],false)
 | k+1=>((kW m x k).1++[(qF (m.getD k zOp) ((kW m x k).1.getD k [])).1],(kW m x k).2 || (qF (m.getD k zOp) ((kW m x k).1.getD k [])).2)
def zP (m:List eV) (x:List Int):cZ × Bool:=if cS m=true∧fB x (lW m)=true then kW m x m.length else ([],false)
def eR (m:List eV) (r:cZ) (d:List Int) (n:Nat):Nat→cZ × (List Int × Bool)
 | 0=>(List.replicate n [],d,false)
 | k+1=>((eR m r d n k).1.set (n - 1 - k) (jB (m.getD (n - 1 - k) zOp) (r.getD (n - 1 - k) []) (eR m r d n k).2.1).2.1,(jB (m.getD (n - 1 - k) zOp) (r.getD (n - 1 - k) []) (eR m r d n k).2.1).1,
  (eR m r d n k).2.2 || (jB (m.getD (n - 1 - k) zOp) (r.getD (n - 1 - k) []) (eR m r d n k).2.1).2.2)
def rJ (m:List eV) (r:cZ) (d:List Int):cZ × (List Int × Bool):=eR m r d m.length m.length
def jR (m:List eV) (p:bP):Bool:=fB p.1 (lW m)&&fB p.2 (iE m)
def iN (m:List eV) (b:List bP):Bool:=cS m&&(decide (1≤b.length∧b.length≤5)&&b.all (jR m))
theorem bDU {x:Int} (h:0≤x):0≤(aLS x).1:=by show 0≤eT x;unfold eT;omega
theorem aP4 {x:Int} (h:0≤x):0≤eT x:=by unfold eT;omega
theorem bFN (x:Int):0≤(fS x x).1:=by
 refine bDU ?_
 rw[Int.fdiv_eq_ediv_of_nonneg _ (by decide)]
 have h:0≤eT x * eT x:=by
  rcases Int.le_total 0 (eT x) with h|h
  ·exact Int.mul_nonneg h h
  ·exact Int.mul_nonneg_of_nonpos_of_nonpos h h
 omega
theorem bDB (a:List Int):(k:Nat)→0≤(aHC a a k).1
 | 0=>Int.le_refl _
 | k+1=>bDU (Int.add_nonneg (aP4 (bDB a k)) (aP4 (bFN _)))
theorem bEV (a:List Int):0≤(gD a a).1:=by
 unfold gD;split
 ·exact bDB a _
 ·exact Int.le_refl _
theorem bMK {x:Int} (h:0≤x):x.tdiv 2=x.fdiv 2:=by rw[Int.fdiv_eq_ediv_of_nonneg _ (by decide),Int.tdiv_eq_ediv_of_nonneg h]
theorem tF (m:List eV) (x:List Int):(k:Nat)→(kW m x k).1.length=k+1
 | 0=>rfl
 | k+1=>by rw[kW,List.length_append,tF m x k];rfl
theorem aD9 (m:List eV) (r:cZ) (d:List Int) (n:Nat):(k:Nat)→(eR m r d n k).1.length=n
 | 0=>List.length_replicate
 | k+1=>by rw[eR,List.length_set,aD9 m r d n k]
theorem aXR {m:List eV} {b:List bP} (h:cS m=false):false=iN m b:=by unfold iN;rw[h];rfl
theorem aK1 {m:List eV} {b:List bP} (h:¬ (1≤b.length∧b.length≤5)):false=iN m b:=by unfold iN;rw[decide_eq_false h,Bool.false_and,Bool.and_false]
theorem aUE {m:List eV} {b:List bP} (h:b.all (jR m)=false):false=iN m b:=by unfold iN;rw[h,Bool.and_false,Bool.and_false]
theorem bCC {m:List eV} {b:List bP} (h1:cS m=true) (h2:1≤b.length∧b.length≤5) (h3:b.all (jR m)=true):true=iN m b:=by unfold iN;rw[h1,h3,decide_eq_true h2];rfl
theorem aRW {m:List eV} {p:bP} (h:iZ p.1=false∨iZ p.2=false∨¬ (p.1.length:Int)=lW m∨¬ (p.2.length:Int)=iE m):jR m p=false:=by
 unfold jR fB
 rcases h with h|h|h|h
 ·rw[h];simp
 ·rw[h];simp
 ·rw[decide_eq_false h];simp
 ·rw[decide_eq_false h];simp
theorem bOG {m:List eV} {p:bP} (h1:iZ p.1=true) (h2:iZ p.2=true) (h3:(p.1.length:Int)=lW m) (h4:(p.2.length:Int)=iE m):jR m p=true:=by
 unfold jR fB;rw[h1,h2,decide_eq_true h3,decide_eq_true h4];rfl
def sP:Con:=⟨213,aI,(.bP9 tI .bool),[.val ⟨false,aB,[]⟩,.val ⟨false,aB,[]⟩],[⟨false,tI,[0]⟩,⟨false,.bool,[0]⟩],false,none,
 ((fun _=>True):(bP)→Prop),
 ((fun x=>wQ x.1 x.2):(bP)→(Int × Bool))⟩
def aF2:T:=.call 0 (.Z 0) <|.call 1 (.bPB aB aB (.p1 aB .bool (.Z 1)) (.p1 aB .bool (.Z 1))) <|
 .bPA (.shr .i64 .u64) (.bPB tI (.int .u64) (.p1 tI .bool (.Z 2)) (.ci .u64 1)) <|
 .ite (aQ (.bP9 aB .bool) 1 (.Z 1)) (
  .ret (.bPB tI .bool (.Z 3) (.cb true))) (
  .ret (.bPB tI .bool (.Z 3) (aQ (.bP9 tI .bool) 1 (.Z 2))))
theorem bAI:bN Tryz.prog [lZ,iU] sP false 3000 ⟨[],[]⟩ = .ok aF2:=by kernel_rfl
theorem bBA (x:bP) (hx:okD aI x) (hp:(fun _=>True) x):aF2.wp [lZ,iU] [⟨aI,x⟩] [] (fun v=>v.as (.bP9 tI .bool)=(fun x=>wQ x.1 x.2) x):=by
 delta aF2 lZ iU;refine dD ?_
 exact fun _ _=>⟨by omega,fun _=>⟨fun h=>Prod.ext rfl (jC h),fun h=>Prod.ext rfl (mR h)⟩⟩
theorem bB2:Con.Holds Tryz.prog sP:=aS aV (aH aMQ (aH aFI aT)) bAI bBA
def sH:Con:=⟨195,aI,(.bP9 tI .bool),[.val ⟨false,aB,[]⟩,.val ⟨false,aB,[]⟩],[⟨false,tI,[0]⟩,⟨false,.bool,[0]⟩],false,none,
 ((fun _=>True):(bP)→Prop),
 ((fun x=>wQ x.1 x.2):(bP)→(Int × Bool))⟩
def aEM:T:=.call 0 (.Z 0) <|.call 1 (.bPB aB aB (.p1 aB .bool (.Z 1)) (.p1 aB .bool (.Z 1))) <|
 .bPA (.quo .i64) (.bPB tI tI (.p1 tI .bool (.Z 2)) (.ci .i64 2)) <|
 .ite (aQ (.bP9 aB .bool) 1 (.Z 1)) (
  .ret (.bPB tI .bool (.Z 3) (.cb true))) (
  .ret (.bPB tI .bool (.Z 3) (aQ (.bP9 tI .bool) 1 (.Z 2))))
theorem bBB:bN Tryz.prog [mD,fP] sH false 3000 ⟨[],[]⟩ = .ok aEM:=by kernel_rfl
theorem aYW (x:bP) (hx:okD aI x) (hp:(fun _=>True) x):aEM.wp [mD,fP] [⟨aI,x⟩] [] (fun v=>v.as (.bP9 tI .bool)=(fun x=>wQ x.1 x.2) x):=by
 delta aEM mD fP;refine dD ?_
 intro _ ho
 have h0:=bEV (lH fA x.1 x.2).1
 have h1:(gD (lH fA x.1 x.2).1 (lH fA x.1 x.2).1).1≤9223372036854775807:=ho.1.2
 rw[bMK h0]
 have h2:(gD (lH fA x.1 x.2).1 (lH fA x.1 x.2).1).1.fdiv 2=(gD (lH fA x.1 x.2).1 (lH fA x.1 x.2).1).1 / 2:=Int.fdiv_eq_ediv_of_nonneg _ (by decide)
 exact ⟨⟨by omega,by omega,by omega⟩,fun _=>⟨fun h=>Prod.ext rfl (jC h),fun h=>Prod.ext rfl (mR h)⟩⟩
theorem bB5:Con.Holds Tryz.prog sH:=aS aV (aH aL2 (aH yF aT)) bBB aYW
def lT:Con:=⟨210,(.bP9 aE aB),(.bP9 aJ .bool),[.val ⟨true,aE,[]⟩,.val ⟨false,aB,[]⟩],[⟨false,aJ,[2]⟩,⟨false,.bool,[0]⟩],false,none,
 ((fun _=>True):(bO × cF)→Prop),
 ((fun x=>zP x.1 x.2):(bO × cF)→(cZ × Bool))⟩
def aEK:T:=.call 0 (.p1 aE aB (.Z 0)) <|
 .bPA .not (.Z 1) <|
 .ite (.Z 2) (
  .ret (.bPB aJ .bool (.nl 188 aB) (.cb false))) (
  .call 1 (.p1 aE aB (.Z 0)) <|
  .call 2 (.bPB aB tI (aQ (.bP9 aE aB) 1 (.Z 0)) (.Z 3)) <|
  .bPA .not (.Z 4) <|
  .ite (.Z 5) (
   .ret (.bPB aJ .bool (.nl 188 aB) (.cb false))) (
   .call 3 (aQ (.bP9 aE aB) 1 (.Z 0)) <|
   .bPA (.lit 188 aB 1) (.Z 6) <|
   .bPA (.bPD 219 bD) (.p1 aE aB (.Z 0)) <|
   .loop (.bP9 tI (.bP9 .bool aJ)) (bG (.bP9 tI (.bP9 .bool aJ)) [(.ci .i64 0),(.cb false),(.Z 7)]) <|
    .bPA (.cmp .lss .i64) (.bPB tI tI (.p1 tI (.bP9 .bool aJ) (.Z 9)) (.Z 8)) <|
    .ite (.Z 10) (
     .bPA (.bPE 219 bD) (.bPB aE tI (.p1 aE aB (.Z 0)) (.p1 tI (.bP9 .bool aJ) (.Z 9))) <|
     .bPA (.bPE 188 aB) (.bPB aJ tI (aQ (.bP9 tI (.bP9 .bool aJ)) 2 (.Z 9)) (.p1 tI (.bP9 .bool aJ) (.Z 9))) <|
     .bPA (.bPE 188 aB) (.bPB aJ tI (aQ (.bP9 tI (.bP9 .bool aJ)) 2 (.Z 9)) (.p1 tI (.bP9 .bool aJ) (.Z 9))) <|
     .call 4 (.bPB bD aB (.Z 11) (.Z 13)) <|
     .bPA (.lit 188 aB 1) (.p1 aB .bool (.Z 14)) <|
     .bPA (.bPG 188 aB 24) (.bPB aJ aJ (aQ (.bP9 tI (.bP9 .bool aJ)) 2 (.Z 9)) (.Z 15)) <|
     .ite (aK (.bP9 tI (.bP9 .bool aJ)) 1 (.Z 9)) (
      .bPA (.ar .add .i64) (.bPB tI tI (.p1 tI (.bP9 .bool aJ) (.Z 9)) (.ci .i64 1)) <|
      .bPC 0 (bG (.bP9 tI (.bP9 .bool aJ)) [(.Z 17),(.cb true),(.Z 16)])) (
      .bPA (.ar .add .i64) (.bPB tI tI (.p1 tI (.bP9 .bool aJ) (.Z 9)) (.ci .i64 1)) <|
      .bPC 0 (bG (.bP9 tI (.bP9 .bool aJ)) [(.Z 17),(aQ (.bP9 aB .bool) 1 (.Z 14)),(.Z 16)]))) (
     .ret (.bPB aJ .bool (aQ (.bP9 tI (.bP9 .bool aJ)) 2 (.Z 9)) (aK (.bP9 tI (.bP9 .bool aJ)) 1 (.Z 9))))))
theorem bC0:bN Tryz.prog [bT,jL,cA,bR,nF] lT false 3000 ⟨[(2984,4009,iL 26 12++[.dr 2,.dr 0,.dr 1,.tm 29 0,.tm 7 0,.sl 3])],[(2991,4006,[23],[]),(2971,12015,[],[6])]⟩ = .ok aEK:=by kernel_rfl
theorem aZK (x:bO × cF) (hx:okD (.bP9 aE aB) x) (hp:(fun _=>True) x):aEK.wp [bT,jL,cA,bR,nF] [⟨(.bP9 aE aB),x⟩] [] (fun v=>v.as (.bP9 aJ .bool)=(fun x=>zP x.1 x.2) x):=by
 obtain ⟨m,v⟩:=x
 delta aEK bT jL cA bR nF;refine dD ?_
 simp only[Bool.not_eq_true',Bool.not_eq_false']
 refine ⟨fun h=>?_,fun h1 _=>⟨fun h=>?_,fun h2=>?_⟩⟩
 ·unfold zP;rw[if_neg (by rw[h];simp)]
 ·unfold zP;rw[if_neg (by rw[h];simp)]
 ·have hv:=(cT v).1 ((cI _ _).1 h2).1
  have hm:=(bY m).1 h1
  rw[show zP m v=_ from if_pos ⟨h1,h2⟩]
  refine ⟨by omega,fun _ _ _=>?_⟩
  refine cJ (fun k=>((k:Int),(kW m v k).2,(kW m v k).1)) m.length rfl fun I μ k hk _ go=>?_
  dsimp only
  simp only[mP,tF]
  (repeat' first|intro _|(refine go _ ?_ ?_ ?_)|(refine go _ ?_ ?_)|(with_reducible apply And.intro))
  all_goals first|omega|(unfold maxLen;omega)|exact Prod.ext rfl (Prod.ext (jC (by assumption)) rfl)|exact Prod.ext rfl (Prod.ext (mR (by assumption)) rfl)|(have e:k=m.length:=(by omega);subst e;rfl)
theorem aMW:Con.Holds Tryz.prog lT:=aS aV (aH iI (aH aG3 (aH kB (aH iC (aH aNS aT))))) bC0 aZK
def jG:Con:=⟨194,(.bP9 aE aB),(.bP9 aJ .bool),[.val ⟨false,aE,[]⟩,.val ⟨false,aB,[]⟩],[⟨false,aJ,[2]⟩,⟨false,.bool,[0]⟩],false,none,
 ((fun x=>iZ x.2=true∧List.length x.1≤8):(bO × cF)→Prop),
 ((fun x=>kW x.1 x.2 (x.1:List eV).length):(bO × cF)→(cZ × Bool))⟩
def zU:T :=
 .bPA (.bPG 3 tI 8) (.bPB aB aB (.nl 3 tI) (aQ (.bP9 aE aB) 1 (.Z 0))) <|
 .bPA (.lit 188 aB 1) (.Z 1) <|
 .loop (.bP9 tI (.bP9 .bool aJ)) (bG (.bP9 tI (.bP9 .bool aJ)) [(.ci .i64 0),(.cb false),(.Z 2)]) <|
  .bPA (.bPD 219 bD) (.p1 aE aB (.Z 0)) <|
  .bPA (.cmp .lss .i64) (.bPB tI tI (.p1 tI (.bP9 .bool aJ) (.Z 3)) (.Z 4)) <|
  .ite (.Z 5) (
   .bPA (.bPE 219 bD) (.bPB aE tI (.p1 aE aB (.Z 0)) (.p1 tI (.bP9 .bool aJ) (.Z 3))) <|
   .bPA (.bPE 188 aB) (.bPB aJ tI (aQ (.bP9 tI (.bP9 .bool aJ)) 2 (.Z 3)) (.p1 tI (.bP9 .bool aJ) (.Z 3))) <|
   .bPA (.bPE 188 aB) (.bPB aJ tI (aQ (.bP9 tI (.bP9 .bool aJ)) 2 (.Z 3)) (.p1 tI (.bP9 .bool aJ) (.Z 3))) <|
   .call 0 (.bPB bD aB (.Z 6) (.Z 8)) <|
   .bPA (.lit 188 aB 1) (.p1 aB .bool (.Z 9)) <|
   .bPA (.bPG 188 aB 24) (.bPB aJ aJ (aQ (.bP9 tI (.bP9 .bool aJ)) 2 (.Z 3)) (.Z 10)) <|
   .ite (aK (.bP9 tI (.bP9 .bool aJ)) 1 (.Z 3)) (
    .bPA (.ar .add .i64) (.bPB tI tI (.p1 tI (.bP9 .bool aJ) (.Z 3)) (.ci .i64 1)) <|
    .bPC 0 (bG (.bP9 tI (.bP9 .bool aJ)) [(.Z 12),(.cb true),(.Z 11)])) (
    .bPA (.ar .add .i64) (.bPB tI tI (.p1 tI (.bP9 .bool aJ) (.Z 3)) (.ci .i64 1)) <|
    .bPC 0 (bG (.bP9 tI (.bP9 .bool aJ)) [(.Z 12),(aQ (.bP9 aB .bool) 1 (.Z 9)),(.Z 11)]))) (
   .ret (.bPB aJ .bool (aQ (.bP9 tI (.bP9 .bool aJ)) 2 (.Z 3)) (aK (.bP9 tI (.bP9 .bool aJ)) 1 (.Z 3))))
theorem aS8:bN Tryz.prog [mW] jG false 3000 ⟨[(2989,1003,iL 15 11++[.dr 1,.tm 8 0,.tm 7 0,.sl 2])],[(2996,1001,[13],[]),(2978,3010,[],[3])]⟩ = .ok zU:=by kernel_rfl
theorem aR7 (x:bO × cF) (hx:okD (.bP9 aE aB) x) (hp:(fun x=>iZ x.2=true∧List.length x.1≤8) x):zU.wp [mW] [⟨(.bP9 aE aB),x⟩] [] (fun v=>v.as (.bP9 aJ .bool)=(fun x=>kW x.1 x.2 (x.1:List eV).length) x):=by
 obtain ⟨m,v⟩:=x
 obtain ⟨h1,hm⟩:iZ v=true∧m.length≤8:=hp
 have hv:=(cT v).1 h1
 delta zU mW;refine dD ?_
 refine dM ?_
 refine ⟨⟨by omega,by unfold maxLen;omega⟩,fun _ _=>?_⟩
 ·skip
  refine cJ (fun k=>((k:Int),(kW m v k).2,(kW m v k).1)) m.length rfl fun I μ k hk _ go=>?_
  dsimp only
  simp only[mP,tF]
  (repeat' first|intro _|(refine go _ ?_ ?_ ?_)|(refine go _ ?_ ?_)|(with_reducible apply And.intro))
  all_goals first|omega|(unfold maxLen;omega)|exact Prod.ext rfl (Prod.ext (jC (by assumption)) rfl)|exact Prod.ext rfl (Prod.ext (mR (by assumption)) rfl)|(have e:k=m.length:=(by omega);subst e;rfl)
theorem aG5:Con.Holds Tryz.prog jG:=aS aV (aH aOG aT) aS8 aR7
def tM:Con:=⟨218,(.bP9 aE (.bP9 aJ aB)),(.bP9 aJ (.bP9 aB .bool)),[.val ⟨false,aE,[]⟩,.val ⟨false,aJ,[]⟩,.val ⟨false,aB,[1]⟩],[⟨false,aJ,[0]⟩,⟨false,aB,[0]⟩,⟨false,.bool,[0]⟩],false,none,
 ((fun x=>List.length x.1≤8∧List.length x.1≤List.length x.2.1):(bO × (cZ × cF))→Prop),
 ((fun x=>rJ x.1 x.2.1 x.2.2):(bO × (cZ × cF))→(cZ × (cF × Bool)))⟩
def aEI:T :=
 .bPA (.bPD 219 bD) (.p1 aE (.bP9 aJ aB) (.Z 0)) <|
 .bPA (.rep 188 aB 24) (.Z 1) <|
 .bPA (.bPD 219 bD) (.p1 aE (.bP9 aJ aB) (.Z 0)) <|
 .bPA (.ar .sub .i64) (.bPB tI tI (.Z 3) (.ci .i64 1)) <|
 .loop (.bP9 tI (.bP9 .bool (.bP9 aB (.bP9 aJ aB)))) (bG (.bP9 tI (.bP9 .bool (.bP9 aB (.bP9 aJ aB)))) [(.Z 4),(.cb false),(aQ (.bP9 aE (.bP9 aJ aB)) 2 (.Z 0)),(.Z 2),(aQ (.bP9 aE (.bP9 aJ aB)) 2 (.Z 0))]) <|
  .bPA (.cmp .geq .i64) (.bPB tI tI (.p1 tI (.bP9 .bool (.bP9 aB (.bP9 aJ aB))) (.Z 5)) (.ci .i64 0)) <|
  .ite (.Z 6) (
   .bPA (.bPE 219 bD) (.bPB aE tI (.p1 aE (.bP9 aJ aB) (.Z 0)) (.p1 tI (.bP9 .bool (.bP9 aB (.bP9 aJ aB))) (.Z 5))) <|
   .bPA (.bPE 188 aB) (.bPB aJ tI (aK (.bP9 aE (.bP9 aJ aB)) 1 (.Z 0)) (.p1 tI (.bP9 .bool (.bP9 aB (.bP9 aJ aB))) (.Z 5))) <|
   .call 0 (bG (.bP9 bD aI) [(.Z 7),(.Z 8),(aK (.bP9 tI (.bP9 .bool (.bP9 aB (.bP9 aJ aB)))) 2 (.Z 5))]) <|
   .bPA (.bPE 188 aB) (.bPB aJ tI (aK (.bP9 tI (.bP9 .bool (.bP9 aB (.bP9 aJ aB)))) 3 (.Z 5)) (.p1 tI (.bP9 .bool (.bP9 aB (.bP9 aJ aB))) (.Z 5))) <|
   .bPA (.bPH 188 aB) (bG (.bP9 aJ aF) [(aK (.bP9 tI (.bP9 .bool (.bP9 aB (.bP9 aJ aB)))) 3 (.Z 5)),(.p1 tI (.bP9 .bool (.bP9 aB (.bP9 aJ aB))) (.Z 5)),(aK (.bP9 aB (.bP9 aB .bool)) 1 (.Z 9))]) <|
   .ite (aK (.bP9 tI (.bP9 .bool (.bP9 aB (.bP9 aJ aB)))) 1 (.Z 5)) (
    .bPA (.ar .sub .i64) (.bPB tI tI (.p1 tI (.bP9 .bool (.bP9 aB (.bP9 aJ aB))) (.Z 5)) (.ci .i64 1)) <|
    .bPC 0 (bG (.bP9 tI (.bP9 .bool (.bP9 aB (.bP9 aJ aB)))) [(.Z 12),(.cb true),(.p1 aB (.bP9 aB .bool) (.Z 9)),(.Z 11),(.p1 aB (.bP9 aB .bool) (.Z 9))])) (
    .bPA (.ar .sub .i64) (.bPB tI tI (.p1 tI (.bP9 .bool (.bP9 aB (.bP9 aJ aB))) (.Z 5)) (.ci .i64 1)) <|
    .bPC 0 (bG (.bP9 tI (.bP9 .bool (.bP9 aB (.bP9 aJ aB)))) [(.Z 12),(aQ (.bP9 aB (.bP9 aB .bool)) 2 (.Z 9)),(.p1 aB (.bP9 aB .bool) (.Z 9)),(.Z 11),(.p1 aB (.bP9 aB .bool) (.Z 9))]))) (
   .ret (bG (.bP9 aJ (.bP9 aB .bool)) [(aK (.bP9 tI (.bP9 .bool (.bP9 aB (.bP9 aJ aB)))) 3 (.Z 5)),(aK (.bP9 tI (.bP9 .bool (.bP9 aB (.bP9 aJ aB)))) 2 (.Z 5)),(aK (.bP9 tI (.bP9 .bool (.bP9 aB (.bP9 aJ aB)))) 1 (.Z 5))]))
theorem aZF:bN Tryz.prog [lP] tM false 3000 ⟨[(2989,1005,iL 20 15++[.tm 11 0,.tm 10 0,.tm 2 0,.sl 2,.sl 1])],[(2978,3010,[],[4])]⟩ = .ok aEI:=by kernel_rfl
theorem aYO (x:bO × (cZ × cF)) (hx:okD (.bP9 aE (.bP9 aJ aB)) x) (hp:(fun x=>List.length x.1≤8∧List.length x.1≤List.length x.2.1) x):aEI.wp [lP] [⟨(.bP9 aE (.bP9 aJ aB)),x⟩] [] (fun v=>v.as (.bP9 aJ (.bP9 aB .bool))=(fun x=>rJ x.1 x.2.1 x.2.2) x):=by
 obtain ⟨m,r,d⟩:=x
 obtain ⟨hm,hr⟩:m.length≤8∧m.length≤r.length:=hp
 delta aEI lP;refine dD ?_
 refine dM ?_
 obtain ⟨n,hn⟩:∃ n,n=m.length:=⟨_,rfl⟩
 rw[show rJ m r d=eR m r d n n by rw[hn];rfl,← hn]
 refine fun _=>⟨⟨by omega,by omega,by omega⟩,fun _ _=>⟨by omega,fun _=>?_⟩⟩
 refine cJ (fun k=>((n:Int) - 1 - (k:Int),(eR m r d n k).2.2,(eR m r d n k).2.1,(eR m r d n k).1,(eR m r d n k).2.1)) n (by show (_,_)=(_,_);simp only[eR,Int.natCast_zero,Int.sub_zero];rfl) fun I μ k hk _ go=>?_
 dsimp only
 have hgl:=aD9 m r d n k
 by_cases hkn:k<n
 ·obtain ⟨j,hj⟩:∃ j,j=n - 1 - k:=⟨_,rfl⟩
  have e:(n:Int) - 1 - (k:Int)=(j:Int):=by omega
  rw[e] at go
  simp only[e,mP]
  have e2:∀ (F:Bool) (hF:F=((eR m r d n k).2.2 || (jB (m.getD j zOp) (r.getD j []) (eR m r d n k).2.1).2.2)),((j:Int) - 1,F,(jB (m.getD j zOp) (r.getD j []) (eR m r d n k).2.1).1,(eR m r d n k).1.set j (jB (m.getD j zOp) (r.getD j []) (eR m r d n k).2.1).2.1,(jB (m.getD j zOp) (r.getD j []) (eR m r d n k).2.1).1)=((n:Int) - 1 - ((k+1:Nat):Int),(eR m r d n (k+1)).2.2,(eR m r d n (k+1)).2.1,(eR m r d n (k+1)).1,(eR m r d n (k+1)).2.1):=fun F hF=>by
   rw[hF,eR,← hj]
   exact Prod.ext (by show (j:Int) - 1=(n:Int) - 1 - ((k+1:Nat):Int);omega) rfl
  (repeat' first|intro _|(refine go _ ?_ ?_ ?_)|(refine go _ ?_ ?_)|(with_reducible apply And.intro))
  all_goals first|omega|exact e2 _ (jC (by assumption))|exact e2 _ (mR (by assumption))
 ·have e:k=n:=by omega
  subst e
  simp only[show (k:Int) - 1 - (k:Int) = -1 by omega,mP]
  (repeat' first|intro _|(refine go _ ?_ ?_ ?_)|(refine go _ ?_ ?_)|(with_reducible apply And.intro))
  all_goals first|omega|trivial|rfl
theorem bAB:Con.Holds Tryz.prog tM:=aS aV (aH aK6 aT) aZF aYO
def tU:Con:=⟨198,(.bP9 aE (.bP9 aJ aB)),(.bP9 aJ (.bP9 aB .bool)),[.val ⟨false,aE,[]⟩,.val ⟨false,aJ,[]⟩,.val ⟨false,aB,[]⟩],[⟨false,aJ,[0]⟩,⟨false,aB,[0]⟩,⟨false,.bool,[0]⟩],true,none,
 ((fun x=>List.length x.1≤8∧List.length x.1≤List.length x.2.1):(bO × (cZ × cF))→Prop),
 ((fun x=>rJ x.1 x.2.1 x.2.2):(bO × (cZ × cF))→(cZ × (cF × Bool)))⟩
def aF7:T :=
 .bPA (.bPD 219 bD) (.p1 aE (.bP9 aJ aB) (.Z 0)) <|
 .bPA (.rep 188 aB 24) (.Z 1) <|
 .bPA (.bPD 219 bD) (.p1 aE (.bP9 aJ aB) (.Z 0)) <|
 .bPA (.ar .sub .i64) (.bPB tI tI (.Z 3) (.ci .i64 1)) <|
 .loop (.bP9 tI (.bP9 .bool (.bP9 aB aJ))) (bG (.bP9 tI (.bP9 .bool (.bP9 aB aJ))) [(.Z 4),(.cb false),(aQ (.bP9 aE (.bP9 aJ aB)) 2 (.Z 0)),(.Z 2)]) <|
  .bPA (.cmp .geq .i64) (.bPB tI tI (.p1 tI (.bP9 .bool (.bP9 aB aJ)) (.Z 5)) (.ci .i64 0)) <|
  .ite (.Z 6) (
   .bPA (.bPE 219 bD) (.bPB aE tI (.p1 aE (.bP9 aJ aB) (.Z 0)) (.p1 tI (.bP9 .bool (.bP9 aB aJ)) (.Z 5))) <|
   .bPA (.bPE 188 aB) (.bPB aJ tI (aK (.bP9 aE (.bP9 aJ aB)) 1 (.Z 0)) (.p1 tI (.bP9 .bool (.bP9 aB aJ)) (.Z 5))) <|
   .call 0 (bG (.bP9 bD aI) [(.Z 7),(.Z 8),(aK (.bP9 tI (.bP9 .bool (.bP9 aB aJ))) 2 (.Z 5))]) <|
   .bPA (.bPE 188 aB) (.bPB aJ tI (aQ (.bP9 tI (.bP9 .bool (.bP9 aB aJ))) 3 (.Z 5)) (.p1 tI (.bP9 .bool (.bP9 aB aJ)) (.Z 5))) <|
   .bPA (.bPH 188 aB) (bG (.bP9 aJ aF) [(aQ (.bP9 tI (.bP9 .bool (.bP9 aB aJ))) 3 (.Z 5)),(.p1 tI (.bP9 .bool (.bP9 aB aJ)) (.Z 5)),(aK (.bP9 aB (.bP9 aB .bool)) 1 (.Z 9))]) <|
   .ite (aK (.bP9 tI (.bP9 .bool (.bP9 aB aJ))) 1 (.Z 5)) (
    .bPA (.ar .sub .i64) (.bPB tI tI (.p1 tI (.bP9 .bool (.bP9 aB aJ)) (.Z 5)) (.ci .i64 1)) <|
    .bPC 0 (bG (.bP9 tI (.bP9 .bool (.bP9 aB aJ))) [(.Z 12),(.cb true),(.p1 aB (.bP9 aB .bool) (.Z 9)),(.Z 11)])) (
    .bPA (.ar .sub .i64) (.bPB tI tI (.p1 tI (.bP9 .bool (.bP9 aB aJ)) (.Z 5)) (.ci .i64 1)) <|
    .bPC 0 (bG (.bP9 tI (.bP9 .bool (.bP9 aB aJ))) [(.Z 12),(aQ (.bP9 aB (.bP9 aB .bool)) 2 (.Z 9)),(.p1 aB (.bP9 aB .bool) (.Z 9)),(.Z 11)]))) (
   .ret (bG (.bP9 aJ (.bP9 aB .bool)) [(aQ (.bP9 tI (.bP9 .bool (.bP9 aB aJ))) 3 (.Z 5)),(aK (.bP9 tI (.bP9 .bool (.bP9 aB aJ))) 2 (.Z 5)),(aK (.bP9 tI (.bP9 .bool (.bP9 aB aJ))) 1 (.Z 5))]))
theorem bBD:bN Tryz.prog [lV] tU false 3000 ⟨[(2989,1005,iL 20 15++[.tm 11 0,.tm 10 0,.tm 2 0,.sl 1])],[(2978,3010,[],[3])]⟩ = .ok aF7:=by kernel_rfl
theorem aZU (x:bO × (cZ × cF)) (hx:okD (.bP9 aE (.bP9 aJ aB)) x) (hp:(fun x=>List.length x.1≤8∧List.length x.1≤List.length x.2.1) x):aF7.wp [lV] [⟨(.bP9 aE (.bP9 aJ aB)),x⟩] [] (fun v=>v.as (.bP9 aJ (.bP9 aB .bool))=(fun x=>rJ x.1 x.2.1 x.2.2) x):=by
 obtain ⟨m,r,d⟩:=x
 obtain ⟨hm,hr⟩:m.length≤8∧m.length≤r.length:=hp
 delta aF7 lV;refine dD ?_
 refine dM ?_
 obtain ⟨n,hn⟩:∃ n,n=m.length:=⟨_,rfl⟩
 rw[show rJ m r d=eR m r d n n by rw[hn];rfl,← hn]
 refine fun _=>⟨⟨by omega,by omega,by omega⟩,fun _ _=>⟨by omega,fun _=>?_⟩⟩
 refine cJ (fun k=>((n:Int) - 1 - (k:Int),(eR m r d n k).2.2,(eR m r d n k).2.1,(eR m r d n k).1)) n (by show (_,_)=(_,_);simp only[eR,Int.natCast_zero,Int.sub_zero];rfl) fun I μ k hk _ go=>?_
 dsimp only
 have hgl:=aD9 m r d n k
 by_cases hkn:k<n
 ·obtain ⟨j,hj⟩:∃ j,j=n - 1 - k:=⟨_,rfl⟩
  have e:(n:Int) - 1 - (k:Int)=(j:Int):=by omega
  rw[e] at go
  simp only[e,mP]
  have e2:∀ (F:Bool) (hF:F=((eR m r d n k).2.2 || (jB (m.getD j zOp) (r.getD j []) (eR m r d n k).2.1).2.2)),((j:Int) - 1,F,(jB (m.getD j zOp) (r.getD j []) (eR m r d n k).2.1).1,(eR m r d n k).1.set j (jB (m.getD j zOp) (r.getD j []) (eR m r d n k).2.1).2.1)=((n:Int) - 1 - ((k+1:Nat):Int),(eR m r d n (k+1)).2.2,(eR m r d n (k+1)).2.1,(eR m r d n (k+1)).1):=fun F hF=>by
   rw[hF,eR,← hj]
   exact Prod.ext (by show (j:Int) - 1=(n:Int) - 1 - ((k+1:Nat):Int);omega) rfl
  (repeat' first|intro _|(refine go _ ?_ ?_ ?_)|(refine go _ ?_ ?_)|(with_reducible apply And.intro))
  all_goals first|omega|exact e2 _ (jC (by assumption))|exact e2 _ (mR (by assumption))
 ·have e:k=n:=by omega
  subst e
  simp only[show (k:Int) - 1 - (k:Int) = -1 by omega,mP]
  (repeat' first|intro _|(refine go _ ?_ ?_ ?_)|(refine go _ ?_ ?_)|(with_reducible apply And.intro))
  all_goals first|omega|trivial|rfl
theorem aZ5:Con.Holds Tryz.prog tU:=aS aV (aH aMC aT) bBD aZU
def aBE:Con:=⟨245,(.bP9 aE aI),.bool,[.val ⟨true,aE,[]⟩,.val ⟨true,aI,[]⟩],[⟨false,.bool,[0]⟩],false,none,
 ((fun _=>True):(bO × bP)→Prop),
 ((fun x=>cS x.1&&jR x.1 x.2):(bO × bP)→(Bool))⟩
def aKI:T:=.call 0 (.p1 aE aI (.Z 0)) <|.ite (.Z 1) (.call 1 (.p1 aE aI (.Z 0)) <|.call 2 (.bPB aB tI (aK (.bP9 aE aI) 1 (.Z 0)) (.Z 2)) <|.ite (.Z 3) (.call 3 (.p1 aE aI (.Z 0)) <|.call 2 (.bPB aB tI (aQ (.bP9 aE aI) 2 (.Z 0)) (.Z 4)) <|.ret (.Z 5)) (.ret (.cb false))) (.ret (.cb false))
theorem bHP:bN Tryz.prog [bT,jL,cA,gV] aBE false 3000 ⟨[],[]⟩ = .ok aKI:=by kernel_rfl
theorem bJW (x:bO × bP) (hx:okD (.bP9 aE aI) x) (hp:(fun _=>True) x):aKI.wp [bT,jL,cA,gV] [⟨(.bP9 aE aI),x⟩] [] (fun v=>v.as .bool=(fun x=>cS x.1&&jR x.1 x.2) x):=by
 delta aKI bT jL cA gV;refine dD ?_
 refine ⟨fun h1 _=>⟨fun h2 _=>?_,fun h2=>?_⟩,fun h1=>?_⟩
 ·unfold jR;rw[h1,h2];simp
 ·unfold jR;rw[h2];simp
 ·rw[h1];rfl
theorem bKN:Con.Holds Tryz.prog aBE:=aS aV (aH iI (aH aG3 (aH kB (aH aCU aT)))) bHP bJW
def qB:Con:=⟨156,(.bP9 aE aM),.bool,[.val ⟨true,aE,[]⟩,.val ⟨false,aM,[]⟩],[⟨false,.bool,[0]⟩],false,none,
 ((fun _=>True):(bO × dI)→Prop),
 ((fun x=>iN x.1 x.2):(bO × dI)→(Bool))⟩
def aBD:T:=.call 0 (.p1 aE aM (.Z 0)) <|
 .bPA .not (.Z 1) <|
 .ite (.Z 2) (
  .ret (.cb false)) (
  .bPA (.bPD 126 aI) (aQ (.bP9 aE aM) 1 (.Z 0)) <|
  .bPA (.cmp .lss .i64) (.bPB tI tI (.Z 3) (.ci .i64 1)) <|
  .ite (.Z 4) (
   .ret (.cb false)) (
   .bPA (.bPD 126 aI) (aQ (.bP9 aE aM) 1 (.Z 0)) <|
   .bPA (.cmp .gtr .i64) (.bPB tI tI (.Z 5) (.ci .i64 5)) <|
   .ite (.Z 6) (
    .ret (.cb false)) (
    .bPA (.bPD 126 aI) (aQ (.bP9 aE aM) 1 (.Z 0)) <|
    .loop tI (.ci .i64 0) <|
     .bPA (.cmp .lss .i64) (.bPB tI tI (.Z 8) (.Z 7)) <|
     .ite (.Z 9) (
      .bPA (.bPE 126 aI) (.bPB aM tI (aQ (.bP9 aE aM) 1 (.Z 0)) (.Z 8)) <|
      .call 1 (.bPB aE aI (.p1 aE aM (.Z 0)) (.Z 10)) <|
      .bPA .not (.Z 11) <|
      .ite (.Z 12) (
       .ret (.cb false)) (
       .bPA (.ar .add .i64) (.bPB tI tI (.Z 8) (.ci .i64 1)) <|
       .bPC 0 (.Z 13))) (
      .ret (.cb true)))))
theorem aUH:bN Tryz.prog [bT,aBE] qB false 3000 ⟨[(2988,8008,iL 19 7++[.dr 0,.dr 1,.tm 22 0])],[]⟩ = .ok aBD:=by kernel_rfl
theorem aVH (x:bO × dI) (hx:okD (.bP9 aE aM) x) (hp:(fun _=>True) x):aBD.wp [bT,aBE] [⟨(.bP9 aE aM),x⟩] [] (fun v=>v.as .bool=(fun x=>iN x.1 x.2) x):=by
 obtain ⟨m,b⟩:=x
 have hm:b.length≤9223372036854775807:=hx.2.1
 delta aBD bT aBE;refine dD ?_
 refine dM ?_
 refine ⟨fun h=>aXR h,fun h1 _=>⟨fun h=>aK1 (by omega),fun h2 _=>⟨fun h=>aK1 (by omega),fun h3 _=>?_⟩⟩⟩
 refine rL (fun k=>(k:Int)) (fun k=>(List.take k b).all (jR m)=true) b.length rfl rfl fun I μ k hk hG _ go=>?_
 try dsimp only
 rw[h1]
 simp only[Bool.true_and]
 refine dM ?_
 constructor
 ·intro hlt
  have hk':k<b.length:=by omega
  have e:=mV (jR m) b hk'
  rw[hG,Bool.true_and] at e
  simp only[aZ hk']
  (repeat' first|intro _|(refine go _ ?_ ?_ ?_)|(refine go _ ?_ ?_)|(with_reducible apply And.intro))
  all_goals first|omega|(rename_i hh;exact aUE (vH hk' (hh.resolve_left (by simp[h1]))))|(rename_i hh _;exact e.trans hh.2)|rfl
 ·intro hge
  rw[List.take_of_length_le (by omega)] at hG
  exact bCC h1 ⟨by omega,by omega⟩ hG
theorem aTK:Con.Holds Tryz.prog qB:=aS aV (aH iI (aH bKN aT)) aUH aVH
def aC5:Con:=⟨240,aE,tI,[.val ⟨true,aE,[]⟩],[⟨false,tI,[0]⟩],false,none,
 ((fun _=>True):(bO)→Prop),
 ((fun x=>lW x):(bO)→(Int))⟩
def aNB:T:=.call 0 (.Z 0) <|
 .bPA .not (.Z 1) <|
 .ite (.Z 2) (
  .ret (.ci .i64 0)) (
  .bPA (.bPE 219 bD) (.bPB aE tI (.Z 0) (.ci .i64 0)) <|
  .ret (aK bD 1 (.Z 3)))
theorem bHS:bN Tryz.prog [cD] aC5 false 3000 ⟨[],[]⟩ = .ok aNB:=by kernel_rfl
theorem bIS (x:bO) (hx:okD aE x) (hp:(fun _=>True) x):aNB.wp [cD] [⟨aE,x⟩] [] (fun v=>v.as tI=(fun x=>lW x) x):=by
 delta aNB cD;refine dD ?_
 simp only[Bool.not_eq_true',Bool.not_eq_false']
 refine ⟨fun h=>?_,fun h=>?_⟩
 ·unfold lW;rw[h];rfl
 ·have:=(bY x).1 h
  refine ⟨by omega,fun _=>?_⟩
  unfold lW;rw[if_pos h];rfl
theorem bH5:Con.Holds Tryz.prog aC5:=aS aV (aH kP aT) bHS bIS
def xR:Con:=⟨241,aE,tI,[.val ⟨true,aE,[]⟩],[⟨false,tI,[0]⟩],false,none,
 ((fun _=>True):(bO)→Prop),
 ((fun x=>iE x):(bO)→(Int))⟩
def aHU:T:=.call 0 (.Z 0) <|
 .bPA .not (.Z 1) <|
 .ite (.Z 2) (
  .ret (.ci .i64 0)) (
  .bPA (.bPD 219 bD) (.Z 0) <|
  .bPA (.ar .sub .i64) (.bPB tI tI (.Z 3) (.ci .i64 1)) <|
  .bPA (.bPE 219 bD) (.bPB aE tI (.Z 0) (.Z 4)) <|
  .ret (aK bD 2 (.Z 5)))
theorem bGU:bN Tryz.prog [cD] xR false 3000 ⟨[],[]⟩ = .ok aHU:=by kernel_rfl
theorem bEA (x:bO) (hx:okD aE x) (hp:(fun _=>True) x):aHU.wp [cD] [⟨aE,x⟩] [] (fun v=>v.as tI=(fun x=>iE x) x):=by
 delta aHU cD;refine dD ?_
 simp only[Bool.not_eq_true',Bool.not_eq_false']
 refine ⟨fun h=>?_,fun h=>?_⟩
 ·unfold iE;rw[h];rfl
 ·have:=(bY x).1 h
  refine fun _=>⟨by omega,fun _=>⟨by omega,fun _=>?_⟩⟩
  unfold iE;rw[if_pos h,yQ];rfl
theorem bG8:Con.Holds Tryz.prog xR:=aS aV (aH kP aT) bGU bEA
def qK:Con:=⟨152,(.bP9 aE aM),.bool,[.val ⟨true,aE,[]⟩,.val ⟨false,aM,[]⟩],[⟨false,.bool,[0]⟩],false,none,
 ((fun _=>True):(bO × dI)→Prop),
 ((fun x=>iN x.1 x.2):(bO × dI)→(Bool))⟩
def aC1:T:=.call 0 (.p1 aE aM (.Z 0)) <|
 .bPA .not (.Z 1) <|
 .ite (.Z 2) (
  .ret (.cb false)) (
  .bPA (.bPD 126 aI) (aQ (.bP9 aE aM) 1 (.Z 0)) <|
  .call 1 (bG (.bP9 tI aP) [(.Z 3),(.ci .i64 1),(.ci .i64 5)]) <|
  .bPA .not (.Z 4) <|
  .ite (.Z 5) (
   .ret (.cb false)) (
   .loop tI (.ci .i64 0) <|
    .bPA (.bPD 126 aI) (aQ (.bP9 aE aM) 1 (.Z 0)) <|
    .bPA (.cmp .lss .i64) (.bPB tI tI (.Z 6) (.Z 7)) <|
    .ite (.Z 8) (
     .bPA (.bPE 126 aI) (.bPB aM tI (aQ (.bP9 aE aM) 1 (.Z 0)) (.Z 6)) <|
     .call 2 (.p1 aB aB (.Z 9)) <|
     .bPA .not (.Z 10) <|
     .ite (.Z 11) (
      .ret (.cb false)) (
      .bPA (.bPE 126 aI) (.bPB aM tI (aQ (.bP9 aE aM) 1 (.Z 0)) (.Z 6)) <|
      .call 2 (aQ aI 1 (.Z 12)) <|
      .bPA .not (.Z 13) <|
      .ite (.Z 14) (
       .ret (.cb false)) (
       .bPA (.bPE 126 aI) (.bPB aM tI (aQ (.bP9 aE aM) 1 (.Z 0)) (.Z 6)) <|
       .bPA (.bPD 3 tI) (.p1 aB aB (.Z 15)) <|
       .call 3 (.p1 aE aM (.Z 0)) <|
       .bPA (.cmp .neq .i64) (.bPB tI tI (.Z 16) (.Z 17)) <|
       .ite (.Z 18) (
        .ret (.cb false)) (
        .bPA (.bPE 126 aI) (.bPB aM tI (aQ (.bP9 aE aM) 1 (.Z 0)) (.Z 6)) <|
        .bPA (.bPD 3 tI) (aQ aI 1 (.Z 19)) <|
        .call 4 (.p1 aE aM (.Z 0)) <|
        .bPA (.cmp .neq .i64) (.bPB tI tI (.Z 20) (.Z 21)) <|
        .ite (.Z 22) (
         .ret (.cb false)) (
         .bPA (.ar .add .i64) (.bPB tI tI (.Z 6) (.ci .i64 1)) <|
         .bPC 0 (.Z 23)))))) (
     .ret (.cb true))))
theorem aX3:bN Tryz.prog [cD,bK,bL,aC5,xR] qK false 3000 ⟨[(2988,4006,iL 14 6++[.dr 0,.tm 5 0])],[]⟩ = .ok aC1:=by kernel_rfl
theorem aVB (x:bO × dI) (hx:okD (.bP9 aE aM) x) (hp:(fun _=>True) x):aC1.wp [cD,bK,bL,aC5,xR] [⟨(.bP9 aE aM),x⟩] [] (fun v=>v.as .bool=(fun x=>iN x.1 x.2) x):=by
 obtain ⟨m,b⟩:=x
 have hm:b.length≤9223372036854775807:=hx.2.1
 delta aC1 cD bK bL aC5 xR;refine dD ?_
 simp only[mP,aFL,aFM]
 refine ⟨fun h=>aXR h,fun h1 _=>⟨fun h=>aK1 (by omega),fun h2=>?_⟩⟩
 refine rL (fun k=>(k:Int)) (fun k=>(List.take k b).all (jR m)=true) b.length rfl rfl fun I μ k hk hG _ go=>?_
 try dsimp only
 refine dM ?_
 intro _
 constructor
 ·intro hlt
  have hk':k<b.length:=by omega
  have e:=mV (jR m) b hk'
  rw[hG,Bool.true_and] at e
  have bad:jR m b[k]=false→false=iN m b:=fun h=>aUE (vH hk' h)
  simp only[aZ hk']
  (repeat' first|intro _|(refine go _ ?_ ?_ ?_)|(refine go _ ?_ ?_)|(with_reducible apply And.intro))
  all_goals first|omega|exact bad (aRW (.inl (by assumption)))|exact bad (aRW (.inr (.inl (by assumption))))|exact bad (aRW (.inr (.inr (.inl (by assumption)))))|exact bad (aRW (.inr (.inr (.inr (by assumption)))))|exact e.trans (bOG (by assumption) (by assumption) (by assumption) (by assumption))|rfl
 ·intro hge
  rw[List.take_of_length_le (by omega)] at hG
  exact bCC h1 ⟨by omega,by omega⟩ hG
theorem aTM:Con.Holds Tryz.prog qK:=aS aV (aH kP (aH fM (aH fT (aH bH5 (aH bG8 aT))))) aX3 aVB
end
end Go.Proofs.YtmfpkkbhnmkfdaaGreat
