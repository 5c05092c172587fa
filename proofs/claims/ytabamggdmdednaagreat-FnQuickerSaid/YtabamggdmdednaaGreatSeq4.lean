/- Seq4: lemmas. No conditions. -/
import Derived.Test.YtabamggdmdednaaGreatMat3
namespace Go.Proofs.YtabamggdmdednaaGreat
noncomputable section
set_option maxRecDepth 100000
open Go.ChangeShapes Go.WideShapes Go.ChangeAt Go.RowKit Go.Deep
set_option linter.unusedVariables false
set_option linter.unusedSimpArgs false
def wW (y t:List Int):Int × Bool:=((fS (kZ eP y t).1 (kZ eP y t).1).1.fdiv 2,(kZ eP y t).2 || (fS (kZ eP y t).1 (kZ eP y t).1).2)
def kN (m:List dI) (x:List Int):Nat→cZ × Bool
 | 0=>([x],false)
 | k+1=>((kN m x k).1++[(qN (m.getD k zOp) ((kN m x k).1.getD k [])).1],(kN m x k).2 || (qN (m.getD k zOp) ((kN m x k).1.getD k [])).2)
def zF (m:List dI) (x:List Int):cZ × Bool:=if cR m=true∧eQ x (jT m)=true then kN m x m.length else ([],false)
def eH (m:List dI) (r:cZ) (d:List Int) (n:Nat):Nat→cZ × (List Int × Bool)
 | 0=>(List.replicate n [],d,false)
 | k+1=>((eH m r d n k).1.set (n - 1 - k) (iS (m.getD (n - 1 - k) zOp) (r.getD (n - 1 - k) []) (eH m r d n k).2.1).2.1,(iS (m.getD (n - 1 - k) zOp) (r.getD (n - 1 - k) []) (eH m r d n k).2.1).1,
  (eH m r d n k).2.2 || (iS (m.getD (n - 1 - k) zOp) (r.getD (n - 1 - k) []) (eH m r d n k).2.1).2.2)
def rS (m:List dI) (r:cZ) (d:List Int):cZ × (List Int × Bool):=eH m r d m.length m.length
def jN (m:List dI) (p:bT):Bool:=eQ p.1 (jT m)&&eQ p.2 (fH m)
def iH (m:List dI) (b:List bT):Bool:=cR m&&(decide (1≤b.length∧b.length≤5)&&b.all (jN m))
theorem bF8 {x:Int} (h:0≤x):0≤(aOF x).1:=by show 0≤eI x;unfold eI;omega
theorem aS0 {x:Int} (h:0≤x):0≤eI x:=by unfold eI;omega
theorem bGL (x:Int):0≤(eS x x).1:=by
 refine bF8 ?_
 rw[Int.fdiv_eq_ediv_of_nonneg _ (by decide)]
 have h:0≤eI x * eI x:=by
  rcases Int.le_total 0 (eI x) with h|h
  ·exact Int.mul_nonneg h h
  ·exact Int.mul_nonneg_of_nonpos_of_nonpos h h
 omega
theorem bEW (a:List Int):(k:Nat)→0≤(aI5 a a k).1
 | 0=>Int.le_refl _
 | k+1=>bF8 (Int.add_nonneg (aS0 (bEW a k)) (aS0 (bGL _)))
theorem bGQ (a:List Int):0≤(fS a a).1:=by
 unfold fS;split
 ·exact bEW a _
 ·exact Int.le_refl _
theorem bO4 {x:Int} (h:0≤x):x.tdiv 2=x.fdiv 2:=by rw[Int.fdiv_eq_ediv_of_nonneg _ (by decide),Int.tdiv_eq_ediv_of_nonneg h]
theorem tE (m:List dI) (x:List Int):(k:Nat)→(kN m x k).1.length=k+1
 | 0=>rfl
 | k+1=>by rw[kN,List.length_append,tE m x k];rfl
theorem aE1 (m:List dI) (r:cZ) (d:List Int) (n:Nat):(k:Nat)→(eH m r d n k).1.length=n
 | 0=>List.length_replicate
 | k+1=>by rw[eH,List.length_set,aE1 m r d n k]
theorem aYL {m:List dI} {b:List bT} (h:cR m=false):false=iH m b:=by unfold iH;rw[h];rfl
theorem aML {m:List dI} {b:List bT} (h:¬ (1≤b.length∧b.length≤5)):false=iH m b:=by unfold iH;rw[decide_eq_false h,Bool.false_and,Bool.and_false]
theorem aYE {m:List dI} {b:List bT} (h:b.all (jN m)=false):false=iH m b:=by unfold iH;rw[h,Bool.and_false,Bool.and_false]
theorem bEJ {m:List dI} {b:List bT} (h1:cR m=true) (h2:1≤b.length∧b.length≤5) (h3:b.all (jN m)=true):true=iH m b:=by unfold iH;rw[h1,h3,decide_eq_true h2];rfl
theorem aTB {m:List dI} {p:bT} (h:iQ p.1=false∨iQ p.2=false∨¬ (p.1.length:Int)=jT m∨¬ (p.2.length:Int)=fH m):jN m p=false:=by
 unfold jN eQ
 rcases h with h|h|h|h
 ·rw[h];simp
 ·rw[h];simp
 ·rw[decide_eq_false h];simp
 ·rw[decide_eq_false h];simp
theorem bQV {m:List dI} {p:bT} (h1:iQ p.1=true) (h2:iQ p.2=true) (h3:(p.1.length:Int)=jT m) (h4:(p.2.length:Int)=fH m):jN m p=true:=by
 unfold jN eQ;rw[h1,h2,decide_eq_true h3,decide_eq_true h4];rfl
def sQ:Con:=⟨105,aO,(.bRW tI .bool),[.val ⟨false,aB,[]⟩,.val ⟨false,aB,[]⟩],[⟨false,tI,[0]⟩,⟨false,.bool,[0]⟩],false,none,
 ((fun _=>True):(bT)→Prop),
 ((fun x=>wW x.1 x.2):(bT)→(Int × Bool))⟩
def aGI:T:=.call 0 (.Z 0) <|.call 1 (.bRY aB aB (.p1 aB .bool (.Z 1)) (.p1 aB .bool (.Z 1))) <|
 .bRX (.shr .i64 .u64) (.bRY tI (.int .u64) (.p1 tI .bool (.Z 2)) (.ci .u64 1)) <|
 .ite (aP (.bRW aB .bool) 1 (.Z 1)) (
  .ret (.bRY tI .bool (.Z 3) (.cb true))) (
  .ret (.bRY tI .bool (.Z 3) (aP (.bRW tI .bool) 1 (.Z 2))))
theorem bD8:bI Tryz.prog [lI,iK] sQ false 3000 ⟨[],[]⟩ = .ok aGI:=by kernel_rfl
theorem bCB (x:bT) (hx:okD aO x) (hp:(fun _=>True) x):aGI.wp [lI,iK] [⟨aO,x⟩] [] (fun v=>v.as (.bRW tI .bool)=(fun x=>wW x.1 x.2) x):=by
 delta aGI lI iK;refine cW ?_
 exact fun _ _=>⟨by omega,fun _=>⟨fun h=>Prod.ext rfl (iT h),fun h=>Prod.ext rfl (mN h)⟩⟩
theorem bDA:Con.Holds Tryz.prog sQ:=aS aV (aI aOX (aI aF1 aQ)) bD8 bCB
def tK:Con:=⟨149,aO,(.bRW tI .bool),[.val ⟨false,aB,[]⟩,.val ⟨false,aB,[]⟩],[⟨false,tI,[0]⟩,⟨false,.bool,[0]⟩],false,none,
 ((fun _=>True):(bT)→Prop),
 ((fun x=>wW x.1 x.2):(bT)→(Int × Bool))⟩
def aFF:T:=.call 0 (.Z 0) <|.call 1 (.bRY aB aB (.p1 aB .bool (.Z 1)) (.p1 aB .bool (.Z 1))) <|
 .bRX (.quo .i64) (.bRY tI tI (.p1 tI .bool (.Z 2)) (.ci .i64 2)) <|
 .ite (aP (.bRW aB .bool) 1 (.Z 1)) (
  .ret (.bRY tI .bool (.Z 3) (.cb true))) (
  .ret (.bRY tI .bool (.Z 3) (aP (.bRW tI .bool) 1 (.Z 2))))
theorem bBR:bI Tryz.prog [lA,eY] tK false 3000 ⟨[],[]⟩ = .ok aFF:=by kernel_rfl
theorem bDU (x:bT) (hx:okD aO x) (hp:(fun _=>True) x):aFF.wp [lA,eY] [⟨aO,x⟩] [] (fun v=>v.as (.bRW tI .bool)=(fun x=>wW x.1 x.2) x):=by
 delta aFF lA eY;refine cW ?_
 intro _ ho
 have h0:=bGQ (kZ eP x.1 x.2).1
 have h1:(fS (kZ eP x.1 x.2).1 (kZ eP x.1 x.2).1).1≤9223372036854775807:=ho.1.2
 rw[bO4 h0]
 have h2:(fS (kZ eP x.1 x.2).1 (kZ eP x.1 x.2).1).1.fdiv 2=(fS (kZ eP x.1 x.2).1 (kZ eP x.1 x.2).1).1 / 2:=Int.fdiv_eq_ediv_of_nonneg _ (by decide)
 exact ⟨⟨by omega,by omega,by omega⟩,fun _=>⟨fun h=>Prod.ext rfl (iT h),fun h=>Prod.ext rfl (mN h)⟩⟩
theorem bA6:Con.Holds Tryz.prog tK:=aS aV (aI aNG (aI aA6 aQ)) bBR bDU
def lH:Con:=⟨104,(.bRW aE aB),(.bRW aL .bool),[.val ⟨true,aE,[]⟩,.val ⟨false,aB,[]⟩],[⟨false,aL,[2]⟩,⟨false,.bool,[0]⟩],false,none,
 ((fun _=>True):(aY × bK)→Prop),
 ((fun x=>zF x.1 x.2):(aY × bK)→(cZ × Bool))⟩
def aGA:T:=.call 0 (.p1 aE aB (.Z 0)) <|
 .bRX .not (.Z 1) <|
 .ite (.Z 2) (
  .ret (.bRY aL .bool (.nl 119 aB) (.cb false))) (
  .call 1 (.p1 aE aB (.Z 0)) <|
  .call 2 (.bRY aB tI (aP (.bRW aE aB) 1 (.Z 0)) (.Z 3)) <|
  .bRX .not (.Z 4) <|
  .ite (.Z 5) (
   .ret (.bRY aL .bool (.nl 119 aB) (.cb false))) (
   .call 3 (aP (.bRW aE aB) 1 (.Z 0)) <|
   .bRX (.lit 119 aB 1) (.Z 6) <|
   .bRX (.bS0 88 bF) (.p1 aE aB (.Z 0)) <|
   .loop (.bRW tI (.bRW .bool aL)) (bB (.bRW tI (.bRW .bool aL)) [(.ci .i64 0),(.cb false),(.Z 7)]) <|
    .bRX (.cmp .lss .i64) (.bRY tI tI (.p1 tI (.bRW .bool aL) (.Z 9)) (.Z 8)) <|
    .ite (.Z 10) (
     .bRX (.bS1 88 bF) (.bRY aE tI (.p1 aE aB (.Z 0)) (.p1 tI (.bRW .bool aL) (.Z 9))) <|
     .bRX (.bS1 119 aB) (.bRY aL tI (aP (.bRW tI (.bRW .bool aL)) 2 (.Z 9)) (.p1 tI (.bRW .bool aL) (.Z 9))) <|
     .bRX (.bS1 119 aB) (.bRY aL tI (aP (.bRW tI (.bRW .bool aL)) 2 (.Z 9)) (.p1 tI (.bRW .bool aL) (.Z 9))) <|
     .call 4 (.bRY bF aB (.Z 11) (.Z 13)) <|
     .bRX (.lit 119 aB 1) (.p1 aB .bool (.Z 14)) <|
     .bRX (.bS3 119 aB 24) (.bRY aL aL (aP (.bRW tI (.bRW .bool aL)) 2 (.Z 9)) (.Z 15)) <|
     .ite (aK (.bRW tI (.bRW .bool aL)) 1 (.Z 9)) (
      .bRX (.ar .add .i64) (.bRY tI tI (.p1 tI (.bRW .bool aL) (.Z 9)) (.ci .i64 1)) <|
      .bRZ 0 (bB (.bRW tI (.bRW .bool aL)) [(.Z 17),(.cb true),(.Z 16)])) (
      .bRX (.ar .add .i64) (.bRY tI tI (.p1 tI (.bRW .bool aL) (.Z 9)) (.ci .i64 1)) <|
      .bRZ 0 (bB (.bRW tI (.bRW .bool aL)) [(.Z 17),(aP (.bRW aB .bool) 1 (.Z 14)),(.Z 16)]))) (
     .ret (.bRY aL .bool (aP (.bRW tI (.bRW .bool aL)) 2 (.Z 9)) (aK (.bRW tI (.bRW .bool aL)) 1 (.Z 9))))))
theorem bA5:bI Tryz.prog [bS,iX,cB,bR,nA] lH false 3000 ⟨[(2984,4009,gQ 26 12++[.dr 2,.dr 0,.dr 1,.tm 29 0,.tm 7 0,.sl 3])],[(2991,4006,[23],[]),(2971,12015,[],[6])]⟩ = .ok aGA:=by kernel_rfl
theorem bCL (x:aY × bK) (hx:okD (.bRW aE aB) x) (hp:(fun _=>True) x):aGA.wp [bS,iX,cB,bR,nA] [⟨(.bRW aE aB),x⟩] [] (fun v=>v.as (.bRW aL .bool)=(fun x=>zF x.1 x.2) x):=by
 obtain ⟨m,v⟩:=x
 delta aGA bS iX cB bR nA;refine cW ?_
 simp only[Bool.not_eq_true',Bool.not_eq_false']
 refine ⟨fun h=>?_,fun h1 _=>⟨fun h=>?_,fun h2=>?_⟩⟩
 ·unfold zF;rw[if_neg (by rw[h];simp)]
 ·unfold zF;rw[if_neg (by rw[h];simp)]
 ·have hv:=(cT v).1 ((cI _ _).1 h2).1
  have hm:=(bY m).1 h1
  rw[show zF m v=_ from if_pos ⟨h1,h2⟩]
  refine ⟨by omega,fun _ _ _=>?_⟩
  refine cN (fun k=>((k:Int),(kN m v k).2,(kN m v k).1)) m.length rfl fun I μ k hk _ go=>?_
  dsimp only
  simp only[mG,tE]
  (repeat' first|intro _|(refine go _ ?_ ?_ ?_)|(refine go _ ?_ ?_)|(with_reducible apply And.intro))
  all_goals first|omega|(unfold maxLen;omega)|exact Prod.ext rfl (Prod.ext (iT (by assumption)) rfl)|exact Prod.ext rfl (Prod.ext (mN (by assumption)) rfl)|(have e:k=m.length:=(by omega);subst e;rfl)
theorem aLR:Con.Holds Tryz.prog lH:=aS aV (aI iB (aI aGW (aI jR (aI gS (aI aPC aQ))))) bA5 bCL
def jD:Con:=⟨148,(.bRW aE aB),(.bRW aL .bool),[.val ⟨false,aE,[]⟩,.val ⟨false,aB,[]⟩],[⟨false,aL,[2]⟩,⟨false,.bool,[0]⟩],false,none,
 ((fun x=>iQ x.2=true∧List.length x.1≤8):(aY × bK)→Prop),
 ((fun x=>kN x.1 x.2 (x.1:List dI).length):(aY × bK)→(cZ × Bool))⟩
def zY:T :=
 .bRX (.bS3 3 tI 8) (.bRY aB aB (.nl 3 tI) (aP (.bRW aE aB) 1 (.Z 0))) <|
 .bRX (.lit 119 aB 1) (.Z 1) <|
 .loop (.bRW tI (.bRW .bool aL)) (bB (.bRW tI (.bRW .bool aL)) [(.ci .i64 0),(.cb false),(.Z 2)]) <|
  .bRX (.bS0 88 bF) (.p1 aE aB (.Z 0)) <|
  .bRX (.cmp .lss .i64) (.bRY tI tI (.p1 tI (.bRW .bool aL) (.Z 3)) (.Z 4)) <|
  .ite (.Z 5) (
   .bRX (.bS1 88 bF) (.bRY aE tI (.p1 aE aB (.Z 0)) (.p1 tI (.bRW .bool aL) (.Z 3))) <|
   .bRX (.bS1 119 aB) (.bRY aL tI (aP (.bRW tI (.bRW .bool aL)) 2 (.Z 3)) (.p1 tI (.bRW .bool aL) (.Z 3))) <|
   .bRX (.bS1 119 aB) (.bRY aL tI (aP (.bRW tI (.bRW .bool aL)) 2 (.Z 3)) (.p1 tI (.bRW .bool aL) (.Z 3))) <|
   .call 0 (.bRY bF aB (.Z 6) (.Z 8)) <|
   .bRX (.lit 119 aB 1) (.p1 aB .bool (.Z 9)) <|
   .bRX (.bS3 119 aB 24) (.bRY aL aL (aP (.bRW tI (.bRW .bool aL)) 2 (.Z 3)) (.Z 10)) <|
   .ite (aK (.bRW tI (.bRW .bool aL)) 1 (.Z 3)) (
    .bRX (.ar .add .i64) (.bRY tI tI (.p1 tI (.bRW .bool aL) (.Z 3)) (.ci .i64 1)) <|
    .bRZ 0 (bB (.bRW tI (.bRW .bool aL)) [(.Z 12),(.cb true),(.Z 11)])) (
    .bRX (.ar .add .i64) (.bRY tI tI (.p1 tI (.bRW .bool aL) (.Z 3)) (.ci .i64 1)) <|
    .bRZ 0 (bB (.bRW tI (.bRW .bool aL)) [(.Z 12),(aP (.bRW aB .bool) 1 (.Z 9)),(.Z 11)]))) (
   .ret (.bRY aL .bool (aP (.bRW tI (.bRW .bool aL)) 2 (.Z 3)) (aK (.bRW tI (.bRW .bool aL)) 1 (.Z 3))))
theorem aUZ:bI Tryz.prog [nD] jD false 3000 ⟨[(2989,1003,gQ 15 11++[.dr 1,.tm 8 0,.tm 7 0,.sl 2])],[(2996,1001,[13],[]),(2978,3010,[],[3])]⟩ = .ok zY:=by kernel_rfl
theorem aSJ (x:aY × bK) (hx:okD (.bRW aE aB) x) (hp:(fun x=>iQ x.2=true∧List.length x.1≤8) x):zY.wp [nD] [⟨(.bRW aE aB),x⟩] [] (fun v=>v.as (.bRW aL .bool)=(fun x=>kN x.1 x.2 (x.1:List dI).length) x):=by
 obtain ⟨m,v⟩:=x
 obtain ⟨h1,hm⟩:iQ v=true∧m.length≤8:=hp
 have hv:=(cT v).1 h1
 delta zY nD;refine cW ?_
 refine dB ?_
 refine ⟨⟨by omega,by unfold maxLen;omega⟩,fun _ _=>?_⟩
 ·skip
  refine cN (fun k=>((k:Int),(kN m v k).2,(kN m v k).1)) m.length rfl fun I μ k hk _ go=>?_
  dsimp only
  simp only[mG,tE]
  (repeat' first|intro _|(refine go _ ?_ ?_ ?_)|(refine go _ ?_ ?_)|(with_reducible apply And.intro))
  all_goals first|omega|(unfold maxLen;omega)|exact Prod.ext rfl (Prod.ext (iT (by assumption)) rfl)|exact Prod.ext rfl (Prod.ext (mN (by assumption)) rfl)|(have e:k=m.length:=(by omega);subst e;rfl)
theorem aHA:Con.Holds Tryz.prog jD:=aS aV (aI aQ5 aQ) aUZ aSJ
def tQ:Con:=⟨110,(.bRW aE (.bRW aL aB)),(.bRW aL (.bRW aB .bool)),[.val ⟨false,aE,[]⟩,.val ⟨false,aL,[]⟩,.val ⟨false,aB,[1]⟩],[⟨false,aL,[1]⟩,⟨false,aB,[1]⟩,⟨false,.bool,[0]⟩],false,none,
 ((fun x=>List.length x.1≤8∧List.length x.1≤List.length x.2.1):(aY × (cZ × bK))→Prop),
 ((fun x=>rS x.1 x.2.1 x.2.2):(aY × (cZ × bK))→(cZ × (bK × Bool)))⟩
def aF0:T :=
 .bRX (.bS0 88 bF) (.p1 aE (.bRW aL aB) (.Z 0)) <|
 .bRX (.rep 119 aB 24) (.Z 1) <|
 .bRX (.bS0 88 bF) (.p1 aE (.bRW aL aB) (.Z 0)) <|
 .bRX (.ar .sub .i64) (.bRY tI tI (.Z 3) (.ci .i64 1)) <|
 .loop (.bRW tI (.bRW .bool (.bRW aB (.bRW aL aB)))) (bB (.bRW tI (.bRW .bool (.bRW aB (.bRW aL aB)))) [(.Z 4),(.cb false),(aP (.bRW aE (.bRW aL aB)) 2 (.Z 0)),(.Z 2),(aP (.bRW aE (.bRW aL aB)) 2 (.Z 0))]) <|
  .bRX (.cmp .geq .i64) (.bRY tI tI (.p1 tI (.bRW .bool (.bRW aB (.bRW aL aB))) (.Z 5)) (.ci .i64 0)) <|
  .ite (.Z 6) (
   .bRX (.bS1 88 bF) (.bRY aE tI (.p1 aE (.bRW aL aB) (.Z 0)) (.p1 tI (.bRW .bool (.bRW aB (.bRW aL aB))) (.Z 5))) <|
   .bRX (.bS1 119 aB) (.bRY aL tI (aK (.bRW aE (.bRW aL aB)) 1 (.Z 0)) (.p1 tI (.bRW .bool (.bRW aB (.bRW aL aB))) (.Z 5))) <|
   .call 0 (bB (.bRW bF aO) [(.Z 7),(.Z 8),(aP (.bRW tI (.bRW .bool (.bRW aB (.bRW aL aB)))) 4 (.Z 5))]) <|
   .bRX (.bS1 119 aB) (.bRY aL tI (aK (.bRW tI (.bRW .bool (.bRW aB (.bRW aL aB)))) 3 (.Z 5)) (.p1 tI (.bRW .bool (.bRW aB (.bRW aL aB))) (.Z 5))) <|
   .bRX (.bS4 119 aB) (bB (.bRW aL aH) [(aK (.bRW tI (.bRW .bool (.bRW aB (.bRW aL aB)))) 3 (.Z 5)),(.p1 tI (.bRW .bool (.bRW aB (.bRW aL aB))) (.Z 5)),(aK (.bRW aB (.bRW aB .bool)) 1 (.Z 9))]) <|
   .ite (aK (.bRW tI (.bRW .bool (.bRW aB (.bRW aL aB)))) 1 (.Z 5)) (
    .bRX (.ar .sub .i64) (.bRY tI tI (.p1 tI (.bRW .bool (.bRW aB (.bRW aL aB))) (.Z 5)) (.ci .i64 1)) <|
    .bRZ 0 (bB (.bRW tI (.bRW .bool (.bRW aB (.bRW aL aB)))) [(.Z 12),(.cb true),(.p1 aB (.bRW aB .bool) (.Z 9)),(.Z 11),(.p1 aB (.bRW aB .bool) (.Z 9))])) (
    .bRX (.ar .sub .i64) (.bRY tI tI (.p1 tI (.bRW .bool (.bRW aB (.bRW aL aB))) (.Z 5)) (.ci .i64 1)) <|
    .bRZ 0 (bB (.bRW tI (.bRW .bool (.bRW aB (.bRW aL aB)))) [(.Z 12),(aP (.bRW aB (.bRW aB .bool)) 2 (.Z 9)),(.p1 aB (.bRW aB .bool) (.Z 9)),(.Z 11),(.p1 aB (.bRW aB .bool) (.Z 9))]))) (
   .ret (bB (.bRW aL (.bRW aB .bool)) [(aK (.bRW tI (.bRW .bool (.bRW aB (.bRW aL aB)))) 3 (.Z 5)),(aP (.bRW tI (.bRW .bool (.bRW aB (.bRW aL aB)))) 4 (.Z 5)),(aK (.bRW tI (.bRW .bool (.bRW aB (.bRW aL aB)))) 1 (.Z 5))]))
theorem bB2:bI Tryz.prog [mE] tQ false 3000 ⟨[(2989,1005,gQ 20 15++[.tm 11 0,.tm 10 0,.tm 2 0,.sl 2,.sl 1])],[(2978,3010,[],[4])]⟩ = .ok aF0:=by kernel_rfl
theorem bAI (x:aY × (cZ × bK)) (hx:okD (.bRW aE (.bRW aL aB)) x) (hp:(fun x=>List.length x.1≤8∧List.length x.1≤List.length x.2.1) x):aF0.wp [mE] [⟨(.bRW aE (.bRW aL aB)),x⟩] [] (fun v=>v.as (.bRW aL (.bRW aB .bool))=(fun x=>rS x.1 x.2.1 x.2.2) x):=by
 obtain ⟨m,r,d⟩:=x
 obtain ⟨hm,hr⟩:m.length≤8∧m.length≤r.length:=hp
 delta aF0 mE;refine cW ?_
 refine dB ?_
 obtain ⟨n,hn⟩:∃ n,n=m.length:=⟨_,rfl⟩
 rw[show rS m r d=eH m r d n n by rw[hn];rfl,← hn]
 refine fun _=>⟨⟨by omega,by omega,by omega⟩,fun _ _=>⟨by omega,fun _=>?_⟩⟩
 refine cN (fun k=>((n:Int) - 1 - (k:Int),(eH m r d n k).2.2,(eH m r d n k).2.1,(eH m r d n k).1,(eH m r d n k).2.1)) n (by show (_,_)=(_,_);simp only[eH,Int.natCast_zero,Int.sub_zero];rfl) fun I μ k hk _ go=>?_
 dsimp only
 have hgl:=aE1 m r d n k
 by_cases hkn:k<n
 ·obtain ⟨j,hj⟩:∃ j,j=n - 1 - k:=⟨_,rfl⟩
  have e:(n:Int) - 1 - (k:Int)=(j:Int):=by omega
  rw[e] at go
  simp only[e,mG]
  have e2:∀ (F:Bool) (hF:F=((eH m r d n k).2.2 || (iS (m.getD j zOp) (r.getD j []) (eH m r d n k).2.1).2.2)),((j:Int) - 1,F,(iS (m.getD j zOp) (r.getD j []) (eH m r d n k).2.1).1,(eH m r d n k).1.set j (iS (m.getD j zOp) (r.getD j []) (eH m r d n k).2.1).2.1,(iS (m.getD j zOp) (r.getD j []) (eH m r d n k).2.1).1)=((n:Int) - 1 - ((k+1:Nat):Int),(eH m r d n (k+1)).2.2,(eH m r d n (k+1)).2.1,(eH m r d n (k+1)).1,(eH m r d n (k+1)).2.1):=fun F hF=>by
   rw[hF,eH,← hj]
   exact Prod.ext (by show (j:Int) - 1=(n:Int) - 1 - ((k+1:Nat):Int);omega) rfl
  (repeat' first|intro _|(refine go _ ?_ ?_ ?_)|(refine go _ ?_ ?_)|(with_reducible apply And.intro))
  all_goals first|omega|exact e2 _ (iT (by assumption))|exact e2 _ (mN (by assumption))
 ·have e:k=n:=by omega
  subst e
  simp only[show (k:Int) - 1 - (k:Int) = -1 by omega,mG]
  (repeat' first|intro _|(refine go _ ?_ ?_ ?_)|(refine go _ ?_ ?_)|(with_reducible apply And.intro))
  all_goals first|omega|trivial|rfl
theorem bD9:Con.Holds Tryz.prog tQ:=aS aV (aI aM0 aQ) bB2 bAI
def sR:Con:=⟨152,(.bRW aE (.bRW aL aB)),(.bRW aL (.bRW aB .bool)),[.val ⟨false,aE,[]⟩,.val ⟨false,aL,[]⟩,.val ⟨false,aB,[]⟩],[⟨false,aL,[0]⟩,⟨false,aB,[0]⟩,⟨false,.bool,[0]⟩],true,none,
 ((fun x=>List.length x.1≤8∧List.length x.1≤List.length x.2.1):(aY × (cZ × bK))→Prop),
 ((fun x=>rS x.1 x.2.1 x.2.2):(aY × (cZ × bK))→(cZ × (bK × Bool)))⟩
def aG1:T :=
 .bRX (.bS0 88 bF) (.p1 aE (.bRW aL aB) (.Z 0)) <|
 .bRX (.rep 119 aB 24) (.Z 1) <|
 .bRX (.bS0 88 bF) (.p1 aE (.bRW aL aB) (.Z 0)) <|
 .bRX (.ar .sub .i64) (.bRY tI tI (.Z 3) (.ci .i64 1)) <|
 .loop (.bRW tI (.bRW .bool (.bRW aB aL))) (bB (.bRW tI (.bRW .bool (.bRW aB aL))) [(.Z 4),(.cb false),(aP (.bRW aE (.bRW aL aB)) 2 (.Z 0)),(.Z 2)]) <|
  .bRX (.cmp .geq .i64) (.bRY tI tI (.p1 tI (.bRW .bool (.bRW aB aL)) (.Z 5)) (.ci .i64 0)) <|
  .ite (.Z 6) (
   .bRX (.bS1 88 bF) (.bRY aE tI (.p1 aE (.bRW aL aB) (.Z 0)) (.p1 tI (.bRW .bool (.bRW aB aL)) (.Z 5))) <|
   .bRX (.bS1 119 aB) (.bRY aL tI (aK (.bRW aE (.bRW aL aB)) 1 (.Z 0)) (.p1 tI (.bRW .bool (.bRW aB aL)) (.Z 5))) <|
   .call 0 (bB (.bRW bF aO) [(.Z 7),(.Z 8),(aK (.bRW tI (.bRW .bool (.bRW aB aL))) 2 (.Z 5))]) <|
   .bRX (.bS1 119 aB) (.bRY aL tI (aP (.bRW tI (.bRW .bool (.bRW aB aL))) 3 (.Z 5)) (.p1 tI (.bRW .bool (.bRW aB aL)) (.Z 5))) <|
   .bRX (.bS4 119 aB) (bB (.bRW aL aH) [(aP (.bRW tI (.bRW .bool (.bRW aB aL))) 3 (.Z 5)),(.p1 tI (.bRW .bool (.bRW aB aL)) (.Z 5)),(aK (.bRW aB (.bRW aB .bool)) 1 (.Z 9))]) <|
   .ite (aK (.bRW tI (.bRW .bool (.bRW aB aL))) 1 (.Z 5)) (
    .bRX (.ar .sub .i64) (.bRY tI tI (.p1 tI (.bRW .bool (.bRW aB aL)) (.Z 5)) (.ci .i64 1)) <|
    .bRZ 0 (bB (.bRW tI (.bRW .bool (.bRW aB aL))) [(.Z 12),(.cb true),(.p1 aB (.bRW aB .bool) (.Z 9)),(.Z 11)])) (
    .bRX (.ar .sub .i64) (.bRY tI tI (.p1 tI (.bRW .bool (.bRW aB aL)) (.Z 5)) (.ci .i64 1)) <|
    .bRZ 0 (bB (.bRW tI (.bRW .bool (.bRW aB aL))) [(.Z 12),(aP (.bRW aB (.bRW aB .bool)) 2 (.Z 9)),(.p1 aB (.bRW aB .bool) (.Z 9)),(.Z 11)]))) (
   .ret (bB (.bRW aL (.bRW aB .bool)) [(aP (.bRW tI (.bRW .bool (.bRW aB aL))) 3 (.Z 5)),(aK (.bRW tI (.bRW .bool (.bRW aB aL))) 2 (.Z 5)),(aK (.bRW tI (.bRW .bool (.bRW aB aL))) 1 (.Z 5))]))
theorem bCN:bI Tryz.prog [lN] sR false 3000 ⟨[(2989,1005,gQ 20 15++[.tm 11 0,.tm 10 0,.tm 2 0,.sl 1])],[(2978,3010,[],[3])]⟩ = .ok aG1:=by kernel_rfl
theorem bBV (x:aY × (cZ × bK)) (hx:okD (.bRW aE (.bRW aL aB)) x) (hp:(fun x=>List.length x.1≤8∧List.length x.1≤List.length x.2.1) x):aG1.wp [lN] [⟨(.bRW aE (.bRW aL aB)),x⟩] [] (fun v=>v.as (.bRW aL (.bRW aB .bool))=(fun x=>rS x.1 x.2.1 x.2.2) x):=by
 obtain ⟨m,r,d⟩:=x
 obtain ⟨hm,hr⟩:m.length≤8∧m.length≤r.length:=hp
 delta aG1 lN;refine cW ?_
 refine dB ?_
 obtain ⟨n,hn⟩:∃ n,n=m.length:=⟨_,rfl⟩
 rw[show rS m r d=eH m r d n n by rw[hn];rfl,← hn]
 refine fun _=>⟨⟨by omega,by omega,by omega⟩,fun _ _=>⟨by omega,fun _=>?_⟩⟩
 refine cN (fun k=>((n:Int) - 1 - (k:Int),(eH m r d n k).2.2,(eH m r d n k).2.1,(eH m r d n k).1)) n (by show (_,_)=(_,_);simp only[eH,Int.natCast_zero,Int.sub_zero];rfl) fun I μ k hk _ go=>?_
 dsimp only
 have hgl:=aE1 m r d n k
 by_cases hkn:k<n
 ·obtain ⟨j,hj⟩:∃ j,j=n - 1 - k:=⟨_,rfl⟩
  have e:(n:Int) - 1 - (k:Int)=(j:Int):=by omega
  rw[e] at go
  simp only[e,mG]
  have e2:∀ (F:Bool) (hF:F=((eH m r d n k).2.2 || (iS (m.getD j zOp) (r.getD j []) (eH m r d n k).2.1).2.2)),((j:Int) - 1,F,(iS (m.getD j zOp) (r.getD j []) (eH m r d n k).2.1).1,(eH m r d n k).1.set j (iS (m.getD j zOp) (r.getD j []) (eH m r d n k).2.1).2.1)=((n:Int) - 1 - ((k+1:Nat):Int),(eH m r d n (k+1)).2.2,(eH m r d n (k+1)).2.1,(eH m r d n (k+1)).1):=fun F hF=>by
   rw[hF,eH,← hj]
   exact Prod.ext (by show (j:Int) - 1=(n:Int) - 1 - ((k+1:Nat):Int);omega) rfl
  (repeat' first|intro _|(refine go _ ?_ ?_ ?_)|(refine go _ ?_ ?_)|(with_reducible apply And.intro))
  all_goals first|omega|exact e2 _ (iT (by assumption))|exact e2 _ (mN (by assumption))
 ·have e:k=n:=by omega
  subst e
  simp only[show (k:Int) - 1 - (k:Int) = -1 by omega,mG]
  (repeat' first|intro _|(refine go _ ?_ ?_ ?_)|(refine go _ ?_ ?_)|(with_reducible apply And.intro))
  all_goals first|omega|trivial|rfl
theorem bAP:Con.Holds Tryz.prog sR:=aS aV (aI aN6 aQ) bCN bBV
def aC8:Con:=⟨51,(.bRW aE aO),.bool,[.val ⟨true,aE,[]⟩,.val ⟨true,aO,[]⟩],[⟨false,.bool,[0]⟩],false,none,
 ((fun _=>True):(aY × bT)→Prop),
 ((fun x=>cR x.1&&jN x.1 x.2):(aY × bT)→(Bool))⟩
def aNC:T:=.call 0 (.p1 aE aO (.Z 0)) <|.ite (.Z 1) (.call 1 (.p1 aE aO (.Z 0)) <|.call 2 (.bRY aB tI (aK (.bRW aE aO) 1 (.Z 0)) (.Z 2)) <|.ite (.Z 3) (.call 3 (.p1 aE aO (.Z 0)) <|.call 2 (.bRY aB tI (aP (.bRW aE aO) 2 (.Z 0)) (.Z 4)) <|.ret (.Z 5)) (.ret (.cb false))) (.ret (.cb false))
theorem bJT:bI Tryz.prog [bS,iX,cB,gG] aC8 false 3000 ⟨[],[]⟩ = .ok aNC:=by kernel_rfl
theorem bLE (x:aY × bT) (hx:okD (.bRW aE aO) x) (hp:(fun _=>True) x):aNC.wp [bS,iX,cB,gG] [⟨(.bRW aE aO),x⟩] [] (fun v=>v.as .bool=(fun x=>cR x.1&&jN x.1 x.2) x):=by
 delta aNC bS iX cB gG;refine cW ?_
 refine ⟨fun h1 _=>⟨fun h2 _=>?_,fun h2=>?_⟩,fun h1=>?_⟩
 ·unfold jN;rw[h1,h2];simp
 ·unfold jN;rw[h2];simp
 ·rw[h1];rfl
theorem bKA:Con.Holds Tryz.prog aC8:=aS aV (aI iB (aI aGW (aI jR (aI aD9 aQ)))) bJT bLE
def rE:Con:=⟨24,(.bRW aE aG),.bool,[.val ⟨true,aE,[]⟩,.val ⟨false,aG,[]⟩],[⟨false,.bool,[0]⟩],false,none,
 ((fun _=>True):(aY × bO)→Prop),
 ((fun x=>iH x.1 x.2):(aY × bO)→(Bool))⟩
def aBJ:T:=.call 0 (.p1 aE aG (.Z 0)) <|
 .bRX .not (.Z 1) <|
 .ite (.Z 2) (
  .ret (.cb false)) (
  .bRX (.bS0 92 aO) (aP (.bRW aE aG) 1 (.Z 0)) <|
  .bRX (.cmp .lss .i64) (.bRY tI tI (.Z 3) (.ci .i64 1)) <|
  .ite (.Z 4) (
   .ret (.cb false)) (
   .bRX (.bS0 92 aO) (aP (.bRW aE aG) 1 (.Z 0)) <|
   .bRX (.cmp .gtr .i64) (.bRY tI tI (.Z 5) (.ci .i64 5)) <|
   .ite (.Z 6) (
    .ret (.cb false)) (
    .bRX (.bS0 92 aO) (aP (.bRW aE aG) 1 (.Z 0)) <|
    .loop tI (.ci .i64 0) <|
     .bRX (.cmp .lss .i64) (.bRY tI tI (.Z 8) (.Z 7)) <|
     .ite (.Z 9) (
      .bRX (.bS1 92 aO) (.bRY aG tI (aP (.bRW aE aG) 1 (.Z 0)) (.Z 8)) <|
      .call 1 (.bRY aE aO (.p1 aE aG (.Z 0)) (.Z 10)) <|
      .bRX .not (.Z 11) <|
      .ite (.Z 12) (
       .ret (.cb false)) (
       .bRX (.ar .add .i64) (.bRY tI tI (.Z 8) (.ci .i64 1)) <|
       .bRZ 0 (.Z 13))) (
      .ret (.cb true)))))
theorem aXD:bI Tryz.prog [bS,aC8] rE false 3000 ⟨[(2988,8008,gQ 19 7++[.dr 0,.dr 1,.tm 22 0])],[]⟩ = .ok aBJ:=by kernel_rfl
theorem aVF (x:aY × bO) (hx:okD (.bRW aE aG) x) (hp:(fun _=>True) x):aBJ.wp [bS,aC8] [⟨(.bRW aE aG),x⟩] [] (fun v=>v.as .bool=(fun x=>iH x.1 x.2) x):=by
 obtain ⟨m,b⟩:=x
 have hm:b.length≤9223372036854775807:=hx.2.1
 delta aBJ bS aC8;refine cW ?_
 refine dB ?_
 refine ⟨fun h=>aYL h,fun h1 _=>⟨fun h=>aML (by omega),fun h2 _=>⟨fun h=>aML (by omega),fun h3 _=>?_⟩⟩⟩
 refine pA (fun k=>(k:Int)) (fun k=>(List.take k b).all (jN m)=true) b.length rfl rfl fun I μ k hk hG _ go=>?_
 try dsimp only
 rw[h1]
 simp only[Bool.true_and]
 refine dB ?_
 constructor
 ·intro hlt
  have hk':k<b.length:=by omega
  have e:=mT (jN m) b hk'
  rw[hG,Bool.true_and] at e
  simp only[aZ hk']
  (repeat' first|intro _|(refine go _ ?_ ?_ ?_)|(refine go _ ?_ ?_)|(with_reducible apply And.intro))
  all_goals first|omega|(rename_i hh;exact aYE (vE hk' (hh.resolve_left (by simp[h1]))))|(rename_i hh _;exact e.trans hh.2)|rfl
 ·intro hge
  rw[List.take_of_length_le (by omega)] at hG
  exact bEJ h1 ⟨by omega,by omega⟩ hG
theorem aYQ:Con.Holds Tryz.prog rE:=aS aV (aI iB (aI bKA aQ)) aXD aVF
def qX:Con:=⟨82,aE,tI,[.val ⟨true,aE,[]⟩],[⟨false,tI,[0]⟩],false,none,
 ((fun _=>True):(aY)→Prop),
 ((fun x=>jT x):(aY)→(Int))⟩
def aMH:T:=.call 0 (.Z 0) <|
 .bRX .not (.Z 1) <|
 .ite (.Z 2) (
  .ret (.ci .i64 0)) (
  .bRX (.bS1 88 bF) (.bRY aE tI (.Z 0) (.ci .i64 0)) <|
  .ret (aK bF 1 (.Z 3)))
theorem bMV:bI Tryz.prog [cD] qX false 3000 ⟨[],[]⟩ = .ok aMH:=by kernel_rfl
theorem bJE (x:aY) (hx:okD aE x) (hp:(fun _=>True) x):aMH.wp [cD] [⟨aE,x⟩] [] (fun v=>v.as tI=(fun x=>jT x) x):=by
 delta aMH cD;refine cW ?_
 simp only[Bool.not_eq_true',Bool.not_eq_false']
 refine ⟨fun h=>?_,fun h=>?_⟩
 ·unfold jT;rw[h];rfl
 ·have:=(bY x).1 h
  refine ⟨by omega,fun _=>?_⟩
  unfold jT;rw[if_pos h];rfl
theorem aZC:Con.Holds Tryz.prog qX:=aS aV (aI kF aQ) bMV bJE
def nT:Con:=⟨83,aE,tI,[.val ⟨true,aE,[]⟩],[⟨false,tI,[0]⟩],false,none,
 ((fun _=>True):(aY)→Prop),
 ((fun x=>fH x):(aY)→(Int))⟩
def aIG:T:=.call 0 (.Z 0) <|
 .bRX .not (.Z 1) <|
 .ite (.Z 2) (
  .ret (.ci .i64 0)) (
  .bRX (.bS0 88 bF) (.Z 0) <|
  .bRX (.ar .sub .i64) (.bRY tI tI (.Z 3) (.ci .i64 1)) <|
  .bRX (.bS1 88 bF) (.bRY aE tI (.Z 0) (.Z 4)) <|
  .ret (aK bF 2 (.Z 5)))
theorem bH2:bI Tryz.prog [cD] nT false 3000 ⟨[],[]⟩ = .ok aIG:=by kernel_rfl
theorem bIX (x:aY) (hx:okD aE x) (hp:(fun _=>True) x):aIG.wp [cD] [⟨aE,x⟩] [] (fun v=>v.as tI=(fun x=>fH x) x):=by
 delta aIG cD;refine cW ?_
 simp only[Bool.not_eq_true',Bool.not_eq_false']
 refine ⟨fun h=>?_,fun h=>?_⟩
 ·unfold fH;rw[h];rfl
 ·have:=(bY x).1 h
  refine fun _=>⟨by omega,fun _=>⟨by omega,fun _=>?_⟩⟩
  unfold fH;rw[if_pos h,yR];rfl
theorem aRJ:Con.Holds Tryz.prog nT:=aS aV (aI kF aQ) bH2 bIX
def rC:Con:=⟨70,(.bRW aE aG),.bool,[.val ⟨true,aE,[]⟩,.val ⟨false,aG,[]⟩],[⟨false,.bool,[0]⟩],false,none,
 ((fun _=>True):(aY × bO)→Prop),
 ((fun x=>iH x.1 x.2):(aY × bO)→(Bool))⟩
def aBM:T:=.call 0 (.p1 aE aG (.Z 0)) <|
 .bRX .not (.Z 1) <|
 .ite (.Z 2) (
  .ret (.cb false)) (
  .bRX (.bS0 92 aO) (aP (.bRW aE aG) 1 (.Z 0)) <|
  .call 1 (bB (.bRW tI aD) [(.Z 3),(.ci .i64 1),(.ci .i64 5)]) <|
  .bRX .not (.Z 4) <|
  .ite (.Z 5) (
   .ret (.cb false)) (
   .loop tI (.ci .i64 0) <|
    .bRX (.bS0 92 aO) (aP (.bRW aE aG) 1 (.Z 0)) <|
    .bRX (.cmp .lss .i64) (.bRY tI tI (.Z 6) (.Z 7)) <|
    .ite (.Z 8) (
     .bRX (.bS1 92 aO) (.bRY aG tI (aP (.bRW aE aG) 1 (.Z 0)) (.Z 6)) <|
     .call 2 (.p1 aB aB (.Z 9)) <|
     .bRX .not (.Z 10) <|
     .ite (.Z 11) (
      .ret (.cb false)) (
      .bRX (.bS1 92 aO) (.bRY aG tI (aP (.bRW aE aG) 1 (.Z 0)) (.Z 6)) <|
      .call 2 (aP aO 1 (.Z 12)) <|
      .bRX .not (.Z 13) <|
      .ite (.Z 14) (
       .ret (.cb false)) (
       .bRX (.bS1 92 aO) (.bRY aG tI (aP (.bRW aE aG) 1 (.Z 0)) (.Z 6)) <|
       .bRX (.bS0 3 tI) (.p1 aB aB (.Z 15)) <|
       .call 3 (.p1 aE aG (.Z 0)) <|
       .bRX (.cmp .neq .i64) (.bRY tI tI (.Z 16) (.Z 17)) <|
       .ite (.Z 18) (
        .ret (.cb false)) (
        .bRX (.bS1 92 aO) (.bRY aG tI (aP (.bRW aE aG) 1 (.Z 0)) (.Z 6)) <|
        .bRX (.bS0 3 tI) (aP aO 1 (.Z 19)) <|
        .call 4 (.p1 aE aG (.Z 0)) <|
        .bRX (.cmp .neq .i64) (.bRY tI tI (.Z 20) (.Z 21)) <|
        .ite (.Z 22) (
         .ret (.cb false)) (
         .bRX (.ar .add .i64) (.bRY tI tI (.Z 6) (.ci .i64 1)) <|
         .bRZ 0 (.Z 23)))))) (
     .ret (.cb true))))
theorem aWH:bI Tryz.prog [cD,bL,bN,qX,nT] rC false 3000 ⟨[(2988,4006,gQ 14 6++[.dr 0,.tm 5 0])],[]⟩ = .ok aBM:=by kernel_rfl
theorem aXW (x:aY × bO) (hx:okD (.bRW aE aG) x) (hp:(fun _=>True) x):aBM.wp [cD,bL,bN,qX,nT] [⟨(.bRW aE aG),x⟩] [] (fun v=>v.as .bool=(fun x=>iH x.1 x.2) x):=by
 obtain ⟨m,b⟩:=x
 have hm:b.length≤9223372036854775807:=hx.2.1
 delta aBM cD bL bN qX nT;refine cW ?_
 simp only[mG,aFJ,aF4]
 refine ⟨fun h=>aYL h,fun h1 _=>⟨fun h=>aML (by omega),fun h2=>?_⟩⟩
 refine pA (fun k=>(k:Int)) (fun k=>(List.take k b).all (jN m)=true) b.length rfl rfl fun I μ k hk hG _ go=>?_
 try dsimp only
 refine dB ?_
 intro _
 constructor
 ·intro hlt
  have hk':k<b.length:=by omega
  have e:=mT (jN m) b hk'
  rw[hG,Bool.true_and] at e
  have bad:jN m b[k]=false→false=iH m b:=fun h=>aYE (vE hk' h)
  simp only[aZ hk']
  (repeat' first|intro _|(refine go _ ?_ ?_ ?_)|(refine go _ ?_ ?_)|(with_reducible apply And.intro))
  all_goals first|omega|exact bad (aTB (.inl (by assumption)))|exact bad (aTB (.inr (.inl (by assumption))))|exact bad (aTB (.inr (.inr (.inl (by assumption)))))|exact bad (aTB (.inr (.inr (.inr (by assumption)))))|exact e.trans (bQV (by assumption) (by assumption) (by assumption) (by assumption))|rfl
 ·intro hge
  rw[List.take_of_length_le (by omega)] at hG
  exact bEJ h1 ⟨by omega,by omega⟩ hG
theorem aYP:Con.Holds Tryz.prog rC:=aS aV (aI kF (aI eV (aI fD (aI aZC (aI aRJ aQ))))) aWH aXW
end
end Go.Proofs.YtabamggdmdednaaGreat
