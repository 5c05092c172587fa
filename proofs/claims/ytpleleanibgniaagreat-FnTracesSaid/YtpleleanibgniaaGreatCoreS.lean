/- CoreS: lemmas. No conditions. -/
import Derived.Test.YtpleleanibgniaaGreatCoreA
import Derived.Test.YtpleleanibgniaaGreatCoreP
namespace Go.Proofs.YtpleleanibgniaaGreat
noncomputable section
set_option maxRecDepth 100000
open Go.ChangeShapes Go.WideShapes Go.ChangeAt Go.RowKit Go.Deep
set_option linter.unusedVariables false
set_option linter.unusedSimpArgs false
def bGW:bC:=aS aA
def aAY (ops:List dE) (plan:List cQ) (last redo:Bool):bC:=if bT ops=true then (0,plan,ops,last,redo,[],[],[],[],[],[],aC0 ops) else bGW
def wJ (c:bK) (n:Nat) (s:Int):bC :=
 aAY (List.drop (bA c.1 c.2.1 s).1.toNat (List.take (bA c.1 c.2.1 s).2.toNat c.1)) (lJ c.2.2.1 (bL c.1 c.2.1) s (n:Int) (c.2.2.2.1.getD s.toNat false)) (s==bL c.1 c.2.1 - 1) (c.2.2.2.1.getD s.toNat false)
def vS (c:bK) (i:Nat):cS:=(c.2.2.2.2.1.getD i 0,[])
def fH (c:bK) (b:List cI):bI :=
 if dH c b=0 then (b,mp (bL c.1 c.2.1).toNat (fun s=>wJ c b.length (s:Int)),mp c.2.2.2.2.1.length (vS c),mp c.2.2.2.2.1.length (vS c)) else ([],[],[],[])
theorem bH5 {c:bK} {b:List cI} (h:¬ dH c b=0):([],[],[],[])=fH c b:=(if_neg h).symm
theorem aDT {c:bK} {b:List cI} (h:dH c b=0):(b,mp (bL c.1 c.2.1).toNat (fun s=>wJ c b.length (s:Int)),mp c.2.2.2.2.1.length (vS c),mp c.2.2.2.2.1.length (vS c))=fH c b:=(if_pos h).symm
theorem bFN {ops:List dE} {plan:List cQ} {last redo:Bool} (h:bT ops=false):(0,[],[],false,false,[],[],[],[],[],[],[],0,false)=aAY ops plan last redo:=(if_neg (by rw[h];simp)).symm
theorem bF3 {ops:List dE} {plan:List cQ} {last redo:Bool} (h:bT ops=true):(0,plan,ops,last,redo,[],[],[],[],[],[],aC0 ops)=aAY ops plan last redo:=(if_pos h).symm
theorem aBI {c:bK} {b:List cI} (h:dH c b=0):bT c.1=true∧dY c.1 b=true∧jY c.1 c.2.1=true∧bL c.1 c.2.1=(c.2.1.length:Int)+1∧bL c.1 c.2.1≤4∧(c.2.2.2.1.length:Int)=bL c.1 c.2.1∧qA c=true∧lL c (b.length:Int)=true:=by
 cases h1:bT c.1
 ·rw[← bIE h1] at h;omega
 cases h2:dY c.1 b
 ·rw[← bI3 h1 h2] at h;omega
 by_cases h3:bL c.1 c.2.1=0∨4<bL c.1 c.2.1
 ·rw[← bGM h1 h2 h3] at h;omega
 by_cases h4:c.2.2.1=1∨c.2.2.1=2
 rotate_left
 ·rw[← bHF h1 h2 h3 h4] at h;omega
 by_cases h5:(c.2.2.2.1.length:Int)=bL c.1 c.2.1
 rotate_left
 ·rw[← bIS h1 h2 h3 h4 h5] at h;omega
 cases h6:qA c
 ·rw[← bH2 h1 h2 h3 h4 h5 h6] at h;omega
 cases h7:lL c (b.length:Int)
 ·rw[← bGT h1 h2 h3 h4 h5 h6 h7] at h;omega
 cases hc:jY c.1 c.2.1
 ·rw[aP8 hc] at h3;omega
 ·exact ⟨rfl,rfl,rfl,aC6 hc,by omega,h5,rfl,rfl⟩
theorem aQZ {c:bK} (h:qA c=true):c.2.2.2.2.1.length=c.2.1.length:=by
 unfold qA at h;rw[Bool.and_eq_true,decide_eq_true_eq] at h;exact h.1
theorem aQM {c:bK} (h:bW aE c≤1000000000):pN c:=by
 have hB:=qL (t:=aE) h
 exact ⟨⟨hB.1.1,fun o ho=>(hB.1.2 o ho).2.2.2.1⟩,hB.2.1.1,hB.2.2.2.1.1,hB.2.2.2.2.1.1,hB.2.2.2.2.2.1⟩
theorem bAV {m:List dE} (a b:Nat):bW aD (List.drop a (List.take b m))≤bW aD m:=qT ((List.drop_sublist _ _).trans (List.take_sublist _ _))
def lF:Con:=⟨26,(.bJ2 aD (.bJ2 aY (.bJ2 .bool .bool))),aA,[.val ⟨false,aD,[]⟩,.val ⟨false,aY,[]⟩,.val ⟨false,.bool,[]⟩,.val ⟨false,.bool,[]⟩],[⟨true,aA,[0,2,2,0,0,2,2,2,2,2,2,2,0,0]⟩],false,none,
 ((fun x=>bW aD x.1≤1000000000∧List.length x.2.1≤1000000000):(aW × ((List cQ) × (Bool × Bool)))→Prop),
 ((fun x=>aAY x.1 x.2.1 x.2.2.1 x.2.2.2):(aW × ((List cQ) × (Bool × Bool)))→(bC))⟩
def uR:T:=.call 0 (.p1 aD (.bJ2 aY (.bJ2 .bool .bool)) (.Z 0)) <|
 .bJ3 .not (.Z 1) <|
 .ite (.Z 2) (
  .ret (bJ aA [(.ci .i64 0),(.nl 52 aC),(.nl 93 bN),(.cb false),(.cb false),(.nl 133 aM),(.nl 124 aB),(.nl 3 tI),(.nl 3 tI),(.nl 3 tI),(.nl 3 tI),(.nl 124 aB),(.ci .i64 0),(.cb false)])) (
  .bJ3 (.bJ9 52 aC 16) (.bJ4 aY aY (.nl 52 aC) (aJ (.bJ2 aD (.bJ2 aY (.bJ2 .bool .bool))) 1 (.Z 0))) <|
  .call 1 (.p1 aD (.bJ2 aY (.bJ2 .bool .bool)) (.Z 0)) <|
  .call 2 (.p1 aD (.bJ2 aY (.bJ2 .bool .bool)) (.Z 0)) <|
  .ret (bJ aA [(.ci .i64 0),(.Z 3),(.Z 4),(aJ (.bJ2 aD (.bJ2 aY (.bJ2 .bool .bool))) 2 (.Z 0)),(aR (.bJ2 aD (.bJ2 aY (.bJ2 .bool .bool))) 3 (.Z 0)),(.nl 133 aM),(.nl 124 aB),(.nl 3 tI),(.nl 3 tI),(.nl 3 tI),(.nl 3 tI),(.Z 5)]))
theorem aMK:bV Tryz.prog [cE,pZ,kI] lF false 3000 ⟨[],[]⟩ = .ok uR:=by kernel_rfl
theorem aNF (x:aW × ((List cQ) × (Bool × Bool))) (hx:okD (.bJ2 aD (.bJ2 aY (.bJ2 .bool .bool))) x) (hp:(fun x=>bW aD x.1≤1000000000∧List.length x.2.1≤1000000000) x):uR.wp [cE,pZ,kI] [⟨(.bJ2 aD (.bJ2 aY (.bJ2 .bool .bool))),x⟩] [] (fun v=>v.as aA=(fun x=>aAY x.1 x.2.1 x.2.2.1 x.2.2.2) x):=by
 have hm:=(qL (t:=aD) hp.1)
 delta uR cE pZ kI;refine eE ?_
 refine eL ?_
 refine ⟨fun h=>bFN h,fun h=>⟨⟨by have:=hp.2;omega,by have:=hp.2;unfold maxLen;omega⟩,fun _=>⟨hp.1,fun _=>⟨⟨hm.1,fun o ho=>(hm.2 o ho).2.2.2.1⟩,fun _=>bF3 h⟩⟩⟩⟩
theorem aLV:Con.Holds Tryz.prog lF:=aV aX (aG jH (aG aU8 (aG aJT aT))) aMK aNF
def nD:Con:=⟨7,(.bJ2 aE aF),aO,[.val ⟨true,aE,[]⟩,.val ⟨false,aF,[]⟩],[⟨true,aO,[2,2,2,2]⟩],false,none,
 ((fun x=>bW aE x.1≤100000000∧bW aF x.2≤100000000):(bK × bS)→Prop),
 ((fun x=>fH x.1 x.2):(bK × bS)→(bI))⟩
def xO:T:=.call 0 (.Z 0) <|
 .bJ3 (.cmp .neq .i64) (.bJ4 tI tI (.Z 1) (.ci .i64 0)) <|
 .ite (.Z 2) (
  .ret (bJ aO [(.nl 67 aQ),(.nl 50 aA),(.nl 74 aN),(.nl 74 aN)])) (
  .call 1 (.p1 aE aF (.Z 0)) <|
  .loop (.bJ2 tI aF) (.bJ4 tI aF (.ci .i64 0) (.nl 67 aQ)) <|
   .bJ3 (.bJ6 67 aQ) (aR (.bJ2 aE aF) 1 (.Z 0)) <|
   .bJ3 (.cmp .lss .i64) (.bJ4 tI tI (.p1 tI aF (.Z 4)) (.Z 5)) <|
   .ite (.Z 6) (
    .bJ3 (.bJ7 67 aQ) (.bJ4 aF tI (aR (.bJ2 aE aF) 1 (.Z 0)) (.p1 tI aF (.Z 4))) <|
    .bJ3 (.bJ7 67 aQ) (.bJ4 aF tI (aR (.bJ2 aE aF) 1 (.Z 0)) (.p1 tI aF (.Z 4))) <|
    .bJ3 (.bJ9 3 tI 8) (.bJ4 aB aB (.nl 3 tI) (.p1 aB aB (.Z 7))) <|
    .bJ3 (.bJ9 3 tI 8) (.bJ4 aB aB (.nl 3 tI) (aR aQ 1 (.Z 8))) <|
    .bJ3 (.lit 67 aQ 1) (.bJ4 aB aB (.Z 9) (.Z 10)) <|
    .bJ3 (.bJ9 67 aQ 48) (.bJ4 aF aF (aR (.bJ2 tI aF) 1 (.Z 4)) (.Z 11)) <|
    .bJ3 (.ar .add .i64) (.bJ4 tI tI (.p1 tI aF (.Z 4)) (.ci .i64 1)) <|
    .bJ5 0 (.bJ4 tI aF (.Z 13) (.Z 12))) (
    .loop (.bJ2 tI (.bJ2 (.slice 50 aA) (.bJ2 aH aH))) (bJ (.bJ2 tI (.bJ2 (.slice 50 aA) (.bJ2 aH aH))) [(.ci .i64 0),(.nl 50 aA),(.nl 74 aN),(.nl 74 aN)]) <|
     .bJ3 (.cmp .lss .i64) (.bJ4 tI tI (.p1 tI (.bJ2 (.slice 50 aA) (.bJ2 aH aH)) (.Z 7)) (.Z 3)) <|
     .ite (.Z 8) (
      .call 2 (bJ (.bJ2 aD (.bJ2 aB tI)) [(.p1 aD (.bJ2 aB (.bJ2 tI (.bJ2 cB aQ))) (.p1 aE aF (.Z 0))),(aJ aE 1 (.p1 aE aF (.Z 0))),(.p1 tI (.bJ2 (.slice 50 aA) (.bJ2 aH aH)) (.Z 7))]) <|
      .bJ3 (.ar .sub .i64) (.bJ4 tI tI (.Z 3) (.ci .i64 1)) <|
      .bJ3 (.cmp .eql .i64) (.bJ4 tI tI (.p1 tI (.bJ2 (.slice 50 aA) (.bJ2 aH aH)) (.Z 7)) (.Z 10)) <|
      .bJ3 (.bJ8 93 bN) (bJ (.bJ2 aD aC) [(.p1 aD (.bJ2 aB (.bJ2 tI (.bJ2 cB aQ))) (.p1 aE aF (.Z 0))),(.p1 tI tI (.Z 9)),(aR aC 1 (.Z 9))]) <|
      .bJ3 (.bJ6 67 aQ) (aR (.bJ2 aE aF) 1 (.Z 0)) <|
      .bJ3 (.bJ7 4 .bool) (.bJ4 cB tI (aJ aE 3 (.p1 aE aF (.Z 0))) (.p1 tI (.bJ2 (.slice 50 aA) (.bJ2 aH aH)) (.Z 7))) <|
      .bJ3 (.bJ7 4 .bool) (.bJ4 cB tI (aJ aE 3 (.p1 aE aF (.Z 0))) (.p1 tI (.bJ2 (.slice 50 aA) (.bJ2 aH aH)) (.Z 7))) <|
      .call 3 (bJ (.bJ2 tI (.bJ2 tI (.bJ2 tI (.bJ2 tI .bool)))) [(aJ aE 2 (.p1 aE aF (.Z 0))),(.Z 3),(.p1 tI (.bJ2 (.slice 50 aA) (.bJ2 aH aH)) (.Z 7)),(.Z 13),(.Z 14)]) <|
      .call 4 (bJ (.bJ2 aD (.bJ2 aY (.bJ2 .bool .bool))) [(.Z 12),(.Z 16),(.Z 11),(.Z 15)]) <|
      .bJ3 (.lit 50 aA 1) (.Z 17) <|
      .bJ3 (.bJ9 50 aA 248) (.bJ4 (.slice 50 aA) (.slice 50 aA) (aJ (.bJ2 tI (.bJ2 (.slice 50 aA) (.bJ2 aH aH))) 1 (.Z 7)) (.Z 18)) <|
      .bJ3 (.cmp .gtr .i64) (.bJ4 tI tI (.p1 tI (.bJ2 (.slice 50 aA) (.bJ2 aH aH)) (.Z 7)) (.ci .i64 0)) <|
      .ite (.Z 20) (
       .bJ3 (.ar .sub .i64) (.bJ4 tI tI (.p1 tI (.bJ2 (.slice 50 aA) (.bJ2 aH aH)) (.Z 7)) (.ci .i64 1)) <|
       .bJ3 (.bJ7 3 tI) (.bJ4 aB tI (aJ aE 4 (.p1 aE aF (.Z 0))) (.Z 21)) <|
       .bJ3 (.lit 74 aN 1) (.bJ4 tI (.slice 105 aI) (.Z 22) (.nl 105 aI)) <|
       .bJ3 (.bJ9 74 aN 32) (.bJ4 aH aH (aJ (.bJ2 tI (.bJ2 (.slice 50 aA) (.bJ2 aH aH))) 2 (.Z 7)) (.Z 23)) <|
       .bJ3 (.ar .sub .i64) (.bJ4 tI tI (.p1 tI (.bJ2 (.slice 50 aA) (.bJ2 aH aH)) (.Z 7)) (.ci .i64 1)) <|
       .bJ3 (.bJ7 3 tI) (.bJ4 aB tI (aJ aE 4 (.p1 aE aF (.Z 0))) (.Z 25)) <|
       .bJ3 (.lit 74 aN 1) (.bJ4 tI (.slice 105 aI) (.Z 26) (.nl 105 aI)) <|
       .bJ3 (.bJ9 74 aN 32) (.bJ4 aH aH (aR (.bJ2 tI (.bJ2 (.slice 50 aA) (.bJ2 aH aH))) 3 (.Z 7)) (.Z 27)) <|
       .bJ3 (.ar .add .i64) (.bJ4 tI tI (.p1 tI (.bJ2 (.slice 50 aA) (.bJ2 aH aH)) (.Z 7)) (.ci .i64 1)) <|
       .bJ5 0 (bJ (.bJ2 tI (.bJ2 (.slice 50 aA) (.bJ2 aH aH))) [(.Z 29),(.Z 19),(.Z 24),(.Z 28)])) (
       .bJ3 (.ar .add .i64) (.bJ4 tI tI (.p1 tI (.bJ2 (.slice 50 aA) (.bJ2 aH aH)) (.Z 7)) (.ci .i64 1)) <|
       .bJ5 0 (bJ (.bJ2 tI (.bJ2 (.slice 50 aA) (.bJ2 aH aH))) [(.Z 21),(.Z 19),(aR (.bJ2 tI (.bJ2 (.slice 50 aA) (.bJ2 aH aH))) 2 (.Z 7))]))) (
      .ret (.bJ4 aF (.bJ2 (.slice 50 aA) (.bJ2 aH aH)) (aR (.bJ2 tI aF) 1 (.Z 4)) (aR (.bJ2 tI (.bJ2 (.slice 50 aA) (.bJ2 aH aH))) 1 (.Z 7))))))
theorem aOX:bV Tryz.prog [lC,lM,cO,wY,lF] nD false 3000 ⟨[(2984,2004,[.dr 18,.dr 17]++mW 15 11++[.dr 0,.tm 7 0,.sl 12]),(2974,4007,mW 22 19++[.dr 7,.tm 8 0,.sl 13,.sl 14,.sl 15])],[(2976,6007,[40,33],[]),(2963,12010,[88],[])]⟩ = .ok xO:=by kernel_rfl
theorem aPV (x:bK × bS) (hx:okD (.bJ2 aE aF) x) (hp:(fun x=>bW aE x.1≤100000000∧bW aF x.2≤100000000) x):xO.wp [lC,lM,cO,wY,lF] [⟨(.bJ2 aE aF),x⟩] [] (fun v=>v.as aO=(fun x=>fH x.1 x.2) x):=by
 obtain ⟨c,b⟩:=x
 obtain ⟨hp1,hp2⟩:bW aE c≤100000000∧bW aF b≤100000000:=hp
 have hcp:pN c:=aQM (by omega)
 have hb1:List.length b≤bW aF b:=oE (e:=67) (t:=aQ) b
 have hbm:∀ x∈b,List.length x.1≤1000000000∧List.length x.2≤1000000000:=fun x hx=>⟨((qL (t:=aF) (show bW aF b≤1000000000 by omega)).2 x hx).1.1,((qL (t:=aF) (show bW aF b≤1000000000 by omega)).2 x hx).2.1⟩
 have hmm:bW aD c.1≤bW aE c:=Nat.le_add_right _ _
 delta xO lC lM cO wY lF;refine eE ?_
 refine eL ?_
 refine ⟨hcp,fun _=>⟨fun h=>bH5 h,fun h=>?_⟩⟩
 obtain ⟨a1,a2,a3,a4,a5,a6,a7,a8⟩:=aBI h
 have hcl:=aQZ a7
 refine ⟨⟨hcp.1,hcp.2.1⟩,fun _=>?_⟩
 refine fC (fun k=>((k:Int),List.take k b)) (List.length b) rfl fun I μ k hk _ go=>?_
 dsimp only
 refine eL ?_
 intro _
 constructor
 ·intro hlt
  have hk':k<List.length b:=by omega
  have hm:=hbm _ (List.getElem_mem hk')
  simp only[bD hk']
  (repeat' first|intro _|(refine go _ ?_ ?_ ?_)|(refine go _ ?_ ?_)|(with_reducible apply And.intro))
  all_goals first|omega|(with_reducible exact hm.1)|(with_reducible exact hm.2)|(unfold maxLen;omega)|(simp only[List.length_take];unfold maxLen;omega)|(simp only[List.length_take];omega)|(rw[iQ hk'];rfl)
 intro hge
 rw[show List.take k b=b from List.take_of_length_le (by omega)]
 clear go
 refine fC (fun k=>((k:Int),mp k (fun s=>wJ c b.length (s:Int)),mp (k - 1) (vS c),mp (k - 1) (vS c))) (bL c.1 c.2.1).toNat rfl fun I μ k hk _ go=>?_
 dsimp only
 refine eL ?_
 have hr:=aCE c.1 c.2.1 (k:Int)
 have hpl:=aDZ c.2.2.1 (bL c.1 c.2.1) (k:Int) (b.length:Int) (List.getD c.2.2.2.1 k (aS .bool))
 have hml:=iD k (fun s=>wJ c b.length ((s:Nat):Int))
 have hml2:=iD (k - 1) (vS c)
 have hmd:bW aD (List.drop (bA c.1 c.2.1 (k:Int)).1.toNat (List.take (bA c.1 c.2.1 (k:Int)).2.toNat c.1))≤1000000000:=Nat.le_trans (bAV _ _) (by omega)
 have e2:0<k→mp k (vS c)=mp (k - 1) (vS c)++[vS c (k - 1)]:=fun h0=>by rw[← mX,Nat.sub_add_cancel h0]
 have e3:¬ 0<k→mp k (vS c)=mp (k - 1) (vS c):=fun h0=>by rw[show k - 1=k by omega]
 constructor
 ·intro hlt
  (repeat' first|intro _|(refine go _ ?_ ?_ ?_)|(refine go _ ?_ ?_)|(with_reducible apply And.intro))
  all_goals first|omega|(unfold maxLen;omega)|exact hcp.1|exact hcp.2.1|exact hmd|skip
  all_goals show _=((((k+1:Nat):Int)),mp (k+1) (fun s=>wJ c b.length ((s:Nat):Int)),mp k (vS c),mp k (vS c))
  all_goals rw[mX]
  all_goals first|(rw[e2 (by omega)];rfl)|(rw[e3 (by omega)];rfl)|skip
 ·intro hge
  have ek:k=(bL c.1 c.2.1).toNat:=by omega
  have ec:k - 1=List.length c.2.2.2.2.1:=by omega
  rw[ec,ek]
  exact aDT h
theorem aQJ:Con.Holds Tryz.prog nD:=aV aX (aG aL4 (aG aMT (aG lH (aG bA8 (aG aLV aT))))) aOX aPV
end
end Go.Proofs.YtpleleanibgniaaGreat
