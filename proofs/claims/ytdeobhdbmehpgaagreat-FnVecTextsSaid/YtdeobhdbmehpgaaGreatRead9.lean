/- Read9: lemmas. No conditions. -/
import Derived.Test.YtdeobhdbmehpgaaGreatRead8
namespace Go.Proofs.YtdeobhdbmehpgaaGreat
open Go.ChangeShapes Go.WideShapes Go.ChangeAt Go.RowKit Go.Deep
set_option linter.unusedVariables false
set_option linter.unusedSimpArgs false
theorem aQU {x:aM} (h:¬ gF x=⟨#[]⟩):bD0 x∧gF x=gS ⟨#[]⟩ (fW x):=by
 unfold gF at h ⊢
 split at h
 ·rename_i h1;rw[if_pos h1];exact ⟨h1,rfl⟩
 ·exact absurd rfl h
def aPW (s:ByteArray):aM × (Int × Bool):=if (fE (yL s 0)).2.2.2=true∨¬ gF (fE (yL s 0)).1=s.extract 0 (fE (yL s 0)).2.2.1.toNat then (bEE,0,false) else ((fE (yL s 0)).1,(fE (yL s 0)).2.2.1,true)
theorem aYR {r:kG} (h:rQ r):rQ (fE r).2∧(fE r).2.1=r.1:=by
 have h0:=qG 8 h
 have h1:=aAO (fun r h=>bAK h) ((dL r 8).1.getD 5 0).toNat h0.1
 have h2:=aAO (fun r h=>bCM h) ((dL r 8).1.getD 6 0).toNat h1.1
 have h3:=aAO (fun r h=>aXL h) ((dL r 8).1.getD 7 0).toNat h2.1
 have h4:=aF2 h3.1
 have h5:=nQ h4.1
 have h6:=nQ h5.1
 have h7:=nQ h6.1
 have h8:=nQ h7.1
 have h9:=aF2 h8.1
 exact ⟨h9.1,h9.2.trans (h8.2.trans (h7.2.trans (h6.2.trans (h5.2.trans (h4.2.trans (h3.2.trans (h2.2.trans (h1.2.trans h0.2))))))))⟩
noncomputable def jJ:Con:=⟨14,.str,(.bEL aB (.bEL tI .bool)),[.val ⟨false,.str,[]⟩],[⟨true,aB,[0,1,1,0,0,1,1,1,1,1,1,1,0,0]⟩,⟨false,tI,[0]⟩,⟨false,.bool,[0]⟩],false,none,
 ((fun _=>True):(ByteArray)→Prop),
 ((fun x=>aPW x):(ByteArray)→(aM × (Int × Bool)))⟩
def qV:T:=.call 0 (aY (.bEL .str (.bEL tI .bool)) [(.Z 0),(.ci .i64 0),(.cb false)]) <|.ite (aN (.bEL aB (.bEL .str (.bEL tI .bool))) 3 (.Z 1)) (.ret (aY (.bEL aB (.bEL tI .bool)) [(aY aB [(.ci .i64 0),(.nl 76 aD),(.nl 78 bC),(.cb false),(.cb false),(.nl 80 aC),(.nl 112 aA),(.nl 3 tI),(.nl 3 tI),(.nl 3 tI),(.nl 3 tI),(.nl 112 aA),(.ci .i64 0),(.cb false)]),(.ci .i64 0),(.cb false)])) (
 .bEM .ssub (aY (.bEL .str aD) [(.Z 0),(.ci .i64 0),(aI (.bEL aB (.bEL .str (.bEL tI .bool))) 2 (.Z 1))]) <|
 .call 1 (.p1 aB (.bEL .str (.bEL tI .bool)) (.Z 1)) <|
 .bEM (.seq true) (.bEN .str .str (.Z 3) (.Z 2)) <|
 .ite (.Z 4) (
  .ret (aY (.bEL aB (.bEL tI .bool)) [(aY aB [(.ci .i64 0),(.nl 76 aD),(.nl 78 bC),(.cb false),(.cb false),(.nl 80 aC),(.nl 112 aA),(.nl 3 tI),(.nl 3 tI),(.nl 3 tI),(.nl 3 tI),(.nl 112 aA),(.ci .i64 0),(.cb false)]),(.ci .i64 0),(.cb false)])) (
  .ret (aY (.bEL aB (.bEL tI .bool)) [(.p1 aB (.bEL .str (.bEL tI .bool)) (.Z 1)),(aI (.bEL aB (.bEL .str (.bEL tI .bool))) 2 (.Z 1)),(.cb true)])))
set_option maxRecDepth 100000 in
theorem aIM:bJ Tryz.prog [gK,fC] jJ false 3000 ⟨[],[]⟩ = .ok qV:=by kernel_rfl
set_option maxHeartbeats 4000000 in
theorem aIO (x:ByteArray) (hx:okD .str x) (hp:(fun _=>True) x):qV.wp [gK,fC] [⟨.str,x⟩] [] (fun v=>v.as (.bEL aB (.bEL tI .bool))=(fun x=>aPW x) x):=by
 have hP:rQ (yL x 0):=⟨by show (0:Int)≤((0:Nat):Int);omega,by show ((0:Nat):Int)≤x.size;omega⟩
 have hQ:=aYR hP
 have hz:0≤(fE (yL x 0)).2.2.1:=hQ.1.1
 have hz2:(fE (yL x 0)).2.2.1≤((fE (yL x 0)).2.1.size:Int):=hQ.1.2
 rw[hQ.2] at hz2
 have hz3:(fE (yL x 0)).2.2.1≤(x.size:Int):=hz2
 clear hz2 hQ
 delta qV gK fC;refine eE ?_
 have e0:((x,((0:Int),false)):kG)=yL x 0:=rfl
 rw[e0]
 unfold aPW
 generalize fE (yL x 0)=q at *
 refine ⟨hP,fun _=>⟨fun h=>?_,fun h=>⟨⟨by omega,hz,hz3⟩,fun _ _=>⟨fun h2=>?_,fun h2=>?_⟩⟩⟩⟩
 ·rw[if_pos (.inl h)];rfl
 ·simp only[sS] at h2
  rw[if_pos (.inr h2)];rfl
 ·simp only[sS] at h2
  rw[if_neg (fun hh=>hh.elim (fun h3=>Bool.noConfusion (h3.symm.trans h)) (fun h3=>h3 h2))]
set_option maxHeartbeats 4000000 in
theorem aHT:Con.Holds Tryz.prog jJ:=aQ aR (aG aCU (aG yV aO)) aIM aIO
end Go.Proofs.YtdeobhdbmehpgaaGreat
