/- Read10: lemmas. No conditions. -/
import Derived.Test.YtlabadaccldkaaaGreatShow4
import Derived.Test.YtlabadaccldkaaaGreatRead9
namespace Go.Proofs.YtlabadaccldkaaaGreat
set_option maxRecDepth 100000
open Go.ChangeShapes Go.WideShapes Go.ChangeAt Go.RowKit Go.Deep
set_option linter.unusedVariables false
set_option linter.unusedSimpArgs false
def itF (r:fA):kP × fA:=(((bP r 1).1.getD 0 0,(eB (bP r 1).2).1),(eB (bP r 1).2).2)
def KU (h:List Int) (acc:List kP) (q:List kP × fA):bK × fA:=((h.getD 0 0,acc++q.1),q.2)
def mE (r:fA):bK × fA:=KU (bP r 2).1 [] (dG itF ((bP r 2).1.getD 1 0).toNat (bP r 2).2)
def itQ (s:ByteArray) (p:Int):kP × Int:=(((jP s 1 p).1.getD 0 0,(fI s (jP s 1 p).2).1),(fI s (jP s 1 p).2).2)
def KUQ (h:List Int) (acc:List kP) (q:List kP × Int):bK × Int:=((h.getD 0 0,acc++q.1),q.2)
def mD (s:ByteArray) (p:Int):bK × Int:=KUQ (jP s 2 p).1 [] (cU (itQ s) (min ((jP s 2 p).1.getD 1 0).toNat 5) (jP s 2 p).2)
theorem aV8 {r:fA} (h:lM r):lM (itF r).2∧(itF r).2.1=r.1:=by
 have h1:=jF 1 h
 have h2:=jJ h1.1
 exact ⟨h2.1,h2.2.trans h1.2⟩
theorem aDD {r:fA} (h:lM r):lM (mE r).2∧(mE r).2.1=r.1:=by
 have h0:=jF 2 h
 have h1:=vI (fun r h=>aV8 h) ((bP r 2).1.getD 1 0).toNat h0.1
 exact ⟨h1.1,h1.2.trans h0.2⟩
theorem aV4 (s:ByteArray):GdQ s (itQ s):=fun p hp=>tS (qS s 1) (jH s) hp
theorem aC9 (s:ByteArray):GdQ s (mD s):=fun p hp=>by
 have h1:=qS s 2 p hp
 have h2:=vE (aV4 s) (min ((jP s 2 p).1.getD 1 0).toNat 5) _ h1.1
 exact ⟨h2.1,fun h=>by have h3:=h2.2 h;have h4:=h1.2 h3.1;exact ⟨h4.1,Int.le_trans h4.2 h3.2⟩⟩
def aI3 (q:bK):Prop:=gV [q.1,(q.2.length:Int)]=true∧q.2.length≤5∧∀ a∈q.2,gV [a.1]=true∧gV a.2=true
theorem aTD {s:ByteArray} (a:kP) (p:Nat) (ha:gV [a.1]=true∧gV a.2=true) (h:gW s p (cK ⟨#[]⟩ (itP a))):itF (lW s p)=(a,lW s (p+(cK ⟨#[]⟩ (itP a)).size)):=by
 unfold itP at h ⊢
 rw[eD,gC,fF] at h ⊢
 obtain ⟨h1,h2⟩:=bJ.1 h
 unfold itF
 rw[kE (n:=1) ha.1 h1 rfl]
 dsimp only
 rw[iK ha.2 h2,cA,Nat.add_assoc];rfl
theorem aRX {s:ByteArray} (a:kP) (p:Nat) (ha:gV [a.1]=true∧gV a.2=true) (h:gW s p (cK ⟨#[]⟩ (itP a))):itQ s p=(a,((p+(cK ⟨#[]⟩ (itP a)).size:Nat):Int)):=by
 unfold itP at h ⊢
 rw[eD,gC,fF] at h ⊢
 obtain ⟨h1,h2⟩:=bJ.1 h
 unfold itQ
 rw[pI (n:=1) ha.1 h1 rfl]
 dsimp only
 rw[iL ha.2 h2,cA,Nat.add_assoc];rfl
theorem aB3 {s:ByteArray} {p:Nat} {q:bK} (hq:aI3 q) (h:gW s p (cK ⟨#[]⟩ (eX q))):mE (lW s p)=(q,lW s (p+(cK ⟨#[]⟩ (eX q)).size)):=by
 unfold eX at h ⊢
 rw[eD] at h ⊢
 obtain ⟨h1,h2⟩:=bJ.1 h
 unfold mE
 rw[kE (n:=2) hq.1 h1 rfl]
 dsimp only
 rw[show ([q.1,(q.2.length:Int)].getD 1 0).toNat=q.2.length from Int.toNat_natCast _,hN aTD q.2 _ hq.2.2 h2,cA,Nat.add_assoc];rfl
theorem aAY {s:ByteArray} {p:Nat} {q:bK} (hq:aI3 q) (h:gW s p (cK ⟨#[]⟩ (eX q))):mD s p=(q,((p+(cK ⟨#[]⟩ (eX q)).size:Nat):Int)):=by
 unfold eX at h ⊢
 rw[eD] at h ⊢
 obtain ⟨h1,h2⟩:=bJ.1 h
 unfold mD
 rw[pI (n:=2) hq.1 h1 rfl]
 dsimp only
 rw[show min ([q.1,(q.2.length:Int)].getD 1 0).toNat 5=q.2.length from by show min ((q.2.length:Int)).toNat 5=_;rw[Int.toNat_natCast];exact Nat.min_eq_left hq.2.1,iA aRX q.2 _ hq.2.2 h2,cA,Nat.add_assoc];rfl
noncomputable def gS:Con:=⟨33,(.aWS .str (.aWS tI .bool)),(.aWS aE (.aWS .str (.aWS tI .bool))),[.box 68 ⟨true,(.aWS .str (.aWS tI .bool)),[]⟩],[⟨true,aE,[0,1]⟩],false,none,
 ((fun x=>lM x):((ByteArray) × (Int × Bool))→Prop),
 ((fun x=>mE x):((ByteArray) × (Int × Bool))→(bK × ((ByteArray) × (Int × Bool))))⟩
def lQ:T:=.call 0 (.aWU (.aWS .str (.aWS tI .bool)) tI (.Z 0) (.ci .i64 2)) <|
 .aWT (.aWX 3 tI) (.aWU aA tI (.p1 aA (.aWS .str (.aWS tI .bool)) (.Z 1)) (.ci .i64 0)) <|
 .aWT (.aWX 3 tI) (.aWU aA tI (.p1 aA (.aWS .str (.aWS tI .bool)) (.Z 1)) (.ci .i64 0)) <|
 .loop (.aWS tI (.aWS (.slice 97 aP) (.aWS .str (.aWS tI .bool)))) (aQ (.aWS tI (.aWS (.slice 97 aP) (.aWS .str (.aWS tI .bool)))) [(.ci .i64 0),(.nl 97 aP),(aG (.aWS aA (.aWS .str (.aWS tI .bool))) 1 (.Z 1))]) <|
  .aWT (.aWX 3 tI) (.aWU aA tI (.p1 aA (.aWS .str (.aWS tI .bool)) (.Z 1)) (.ci .i64 1)) <|
  .aWT (.aWX 3 tI) (.aWU aA tI (.p1 aA (.aWS .str (.aWS tI .bool)) (.Z 1)) (.ci .i64 1)) <|
  .aWT (.cmp .lss .i64) (.aWU tI tI (.p1 tI (.aWS (.slice 97 aP) (.aWS .str (.aWS tI .bool))) (.Z 4)) (.Z 6)) <|
  .ite (.Z 7) (
   .aWT .not (aG (.aWS tI (.aWS (.slice 97 aP) (.aWS .str (.aWS tI .bool)))) 4 (.Z 4)) <|
   .ite (.Z 8) (
    .call 0 (.aWU (.aWS .str (.aWS tI .bool)) tI (aG (.aWS tI (.aWS (.slice 97 aP) (.aWS .str (.aWS tI .bool)))) 2 (.Z 4)) (.ci .i64 1)) <|
    .call 1 (aG (.aWS aA (.aWS .str (.aWS tI .bool))) 1 (.Z 9)) <|
    .aWT (.aWX 3 tI) (.aWU aA tI (.p1 aA (.aWS .str (.aWS tI .bool)) (.Z 9)) (.ci .i64 0)) <|
    .aWT (.aWX 3 tI) (.aWU aA tI (.p1 aA (.aWS .str (.aWS tI .bool)) (.Z 9)) (.ci .i64 0)) <|
    .aWT (.lit 97 aP 1) (.aWU tI aA (.Z 12) (.p1 aA (.aWS .str (.aWS tI .bool)) (.Z 10))) <|
    .aWT (.aWZ 97 aP 32) (.aWU (.slice 97 aP) (.slice 97 aP) (aO (.aWS tI (.aWS (.slice 97 aP) (.aWS .str (.aWS tI .bool)))) 1 (.Z 4)) (.Z 13)) <|
    .aWT (.ar .add .i64) (.aWU tI tI (.p1 tI (.aWS (.slice 97 aP) (.aWS .str (.aWS tI .bool))) (.Z 4)) (.ci .i64 1)) <|
    .aWV 0 (aQ (.aWS tI (.aWS (.slice 97 aP) (.aWS .str (.aWS tI .bool)))) [(.Z 15),(.Z 14),(aG (.aWS aA (.aWS .str (.aWS tI .bool))) 1 (.Z 10))])) (
    .ret (.aWU aE (.aWS .str (.aWS tI .bool)) (.aWU tI (.slice 97 aP) (.Z 3) (aO (.aWS tI (.aWS (.slice 97 aP) (.aWS .str (.aWS tI .bool)))) 1 (.Z 4))) (aG (.aWS tI (.aWS (.slice 97 aP) (.aWS .str (.aWS tI .bool)))) 2 (.Z 4))))) (
   .ret (.aWU aE (.aWS .str (.aWS tI .bool)) (.aWU tI (.slice 97 aP) (.Z 3) (aO (.aWS tI (.aWS (.slice 97 aP) (.aWS .str (.aWS tI .bool)))) 1 (.Z 4))) (aG (.aWS tI (.aWS (.slice 97 aP) (.aWS .str (.aWS tI .bool)))) 2 (.Z 4))))
theorem aA7:cW Tryz.prog [cN,bS] gS false 3000 ⟨[(2989,1004,fG 13 8++[.tm 5 0,.sl 7,.bx 1 0,.bx 1 1,.bx 1 2])],[(2977,7011,[],[9])]⟩ = .ok lQ:=by kernel_rfl
set_option maxHeartbeats 4000000 in
theorem aA8 (x:(ByteArray) × (Int × Bool)) (hx:okD (.aWS .str (.aWS tI .bool)) x) (hp:(fun x=>lM x) x):lQ.wp [cN,bS] [⟨(.aWS .str (.aWS tI .bool)),x⟩] [] (fun v=>v.as (.aWS aE (.aWS .str (.aWS tI .bool)))=(fun x=>mE x) x):=by
 have hp:lM x:=hp
 delta lQ cN bS;refine jN ?_
 have h8:=lU (r:=x) (show 0≤(2:Int) by decide)
 have hP:=jF 2 hp
 have n5:=rA (r:=x) (n:=2) (i:=1)
 have hv0:mE x=KU (bP x 2).1 [] (dG itF ((bP x 2).1.getD 1 0).toNat (bP x 2).2):=rfl
 simp only[dzx,Int.reduceToNat]
 generalize (bP x 2).1=H at *
 generalize (bP x 2).2=r0 at *
 (repeat' first|intro _|(with_reducible apply And.intro))
 all_goals first|omega|exact hp|skip
 have z5:H.getD 1 (aV tI)=H.getD 1 0:=rfl
 rw[z5]
 refine ⟨fun t=>∃ k:Nat,t.1=(k:Int)∧(t.2.1:List kP).length=k∧(k:Int)≤max 0 (H.getD 1 0)∧lM t.2.2∧mE x=KU H t.2.1 (dG itF ((H.getD 1 0).toNat - k) t.2.2),fun t=>(H.getD 1 0 - (t.1:Int)).toNat,⟨0,rfl,rfl,by omega,hP.1,hv0⟩,fun t _ hI=>?_⟩
 obtain ⟨i,a1,r1⟩:Int × (List kP × fA):=t
 obtain ⟨k1,rfl,hl,hk,hPr1,hvr1⟩:=hI
 dsimp only at hl hk hPr1 hvr1 ⊢
 refine ⟨by omega,fun _=>⟨by omega,fun _=>⟨fun hlt=>⟨fun hb=>?_,fun hb=>?_⟩,fun hge=>?_⟩⟩⟩
 ·obtain ⟨m,hm⟩:∃ m,(H.getD 1 0).toNat - k1=m+1:=⟨(H.getD 1 0).toNat - k1 - 1,by omega⟩
  rw[hm,iT itF m hb] at hvr1
  have hs1:=lU (r:=r1) (show 0≤(1:Int) by decide)
  have hp1:=jF 1 hPr1
  (repeat' first|intro _|(with_reducible apply And.intro))
  all_goals first|omega|exact hPr1|exact hp1.1|(unfold maxLen;omega)|skip
  refine ⟨k1+1,rfl,by (first|omega|(simp only[List.length_append,List.length_cons,List.length_nil];omega)),by omega,(aV8 hPr1).1,?_⟩
  rw[show (H.getD 1 0).toNat - (k1+1)=m by omega,hvr1]
  show KU H a1 ((itF r1).1 :: _,_)=KU H (a1++[(itF r1).1]) _
  unfold KU;simp only[List.append_assoc,List.singleton_append];rfl
 all_goals
  first|rw[iJ itF _ hb] at hvr1|rw[show (H.getD 1 0).toNat - k1=0 by omega] at hvr1
  rw[hvr1];unfold KU;simp only[List.append_nil,dG];rfl
set_option maxHeartbeats 4000000 in
theorem aAM:Con.Holds Tryz.prog gS:=aX bI (aR nK (aR iY aY)) aA7 aA8
noncomputable def gO:Con:=⟨28,(.aWS .str tI),(.aWS aE tI),[.val ⟨false,.str,[]⟩,.val ⟨false,tI,[]⟩],[⟨true,aE,[0,2]⟩,⟨false,tI,[0]⟩],false,none,
 ((fun x=>PB x.1 x.2):((ByteArray) × Int)→Prop),
 ((fun x=>mD x.1 x.2):((ByteArray) × Int)→(bK × Int))⟩
def lV:T:=.call 0 (aQ (.aWS .str aJ) [(.p1 .str tI (.Z 0)),(aG (.aWS .str tI) 1 (.Z 0)),(.ci .i64 2)]) <|
 .aWT (.aWX 3 tI) (.aWU aA tI (.p1 aA tI (.Z 1)) (.ci .i64 0)) <|
 .aWT (.aWX 3 tI) (.aWU aA tI (.p1 aA tI (.Z 1)) (.ci .i64 0)) <|
 .loop (.aWS tI aE) (aQ (.aWS tI aE) [(.ci .i64 0),(aG (.aWS aA tI) 1 (.Z 1)),(.nl 97 aP)]) <|
  .aWT (.aWX 3 tI) (.aWU aA tI (.p1 aA tI (.Z 1)) (.ci .i64 1)) <|
  .aWT (.aWX 3 tI) (.aWU aA tI (.p1 aA tI (.Z 1)) (.ci .i64 1)) <|
  .aWT (.cmp .lss .i64) (.aWU tI tI (.p1 tI aE (.Z 4)) (.Z 6)) <|
  .ite (.Z 7) (
   .aWT (.cmp .lss .i64) (.aWU tI tI (.p1 tI aE (.Z 4)) (.ci .i64 5)) <|
   .ite (.Z 8) (
    .aWT (.cmp .geq .i64) (.aWU tI tI (aO (.aWS tI aE) 1 (.Z 4)) (.ci .i64 0)) <|
    .ite (.Z 9) (
     .call 0 (aQ (.aWS .str aJ) [(.p1 .str tI (.Z 0)),(aO (.aWS tI aE) 1 (.Z 4)),(.ci .i64 1)]) <|
     .call 1 (.aWU .str tI (.p1 .str tI (.Z 0)) (aG (.aWS aA tI) 1 (.Z 10))) <|
     .aWT (.aWX 3 tI) (.aWU aA tI (.p1 aA tI (.Z 10)) (.ci .i64 0)) <|
     .aWT (.aWX 3 tI) (.aWU aA tI (.p1 aA tI (.Z 10)) (.ci .i64 0)) <|
     .aWT (.lit 97 aP 1) (.aWU tI aA (.Z 13) (.p1 aA tI (.Z 11))) <|
     .aWT (.aWZ 97 aP 32) (.aWU (.slice 97 aP) (.slice 97 aP) (aG (.aWS tI aE) 2 (.Z 4)) (.Z 14)) <|
     .aWT (.ar .add .i64) (.aWU tI tI (.p1 tI aE (.Z 4)) (.ci .i64 1)) <|
     .aWV 0 (aQ (.aWS tI aE) [(.Z 16),(aG (.aWS aA tI) 1 (.Z 11)),(.Z 15)])) (
     .ret (.aWU aE tI (.aWU tI (.slice 97 aP) (.Z 3) (aG (.aWS tI aE) 2 (.Z 4))) (aO (.aWS tI aE) 1 (.Z 4))))) (
    .ret (.aWU aE tI (.aWU tI (.slice 97 aP) (.Z 3) (aG (.aWS tI aE) 2 (.Z 4))) (aO (.aWS tI aE) 1 (.Z 4))))) (
   .ret (.aWU aE tI (.aWU tI (.slice 97 aP) (.Z 3) (aG (.aWS tI aE) 2 (.Z 4))) (aO (.aWS tI aE) 1 (.Z 4))))
theorem aAE:cW Tryz.prog [gT,dE] gO false 3000 ⟨[(2989,1004,fG 23 18++[.dr 14]++fG 17 15++[.dr 1,.tm 9 0,.tm 7 0,.sl 6])],[(2976,15012,[],[8])]⟩ = .ok lV:=by kernel_rfl
set_option maxHeartbeats 4000000 in
theorem zX (x:(ByteArray) × Int) (hx:okD (.aWS .str tI) x) (hp:(fun x=>PB x.1 x.2) x):lV.wp [gT,dE] [⟨(.aWS .str tI),x⟩] [] (fun v=>v.as (.aWS aE tI)=(fun x=>mD x.1 x.2) x):=by
 obtain ⟨s,p⟩:=x
 have hp:PB s p:=hp
 delta lV gT dE;refine jN ?_
 have h8:=rL (s:=s) (p:=p) (show 0≤(2:Int) by decide)
 have g0:=qS s 2 p hp
 have hv0:mD s p=KUQ (jP s 2 p).1 [] (cU (itQ s) (min ((jP s 2 p).1.getD 1 0).toNat 5) (jP s 2 p).2):=rfl
 simp only[dzx,Int.reduceToNat]
 generalize (jP s 2 p).1=H at *
 generalize (jP s 2 p).2=p0 at *
 (repeat' first|intro _|(with_reducible apply And.intro))
 all_goals first|omega|exact hp|skip
 have z5:H.getD 1 (aV tI)=H.getD 1 0:=rfl
 rw[z5]
 refine ⟨fun t=>∃ k:Nat,t.1=(k:Int)∧(t.2.2:List kP).length=k∧k≤min (H.getD 1 0).toNat 5∧PB s t.2.1∧mD s p=KUQ H t.2.2 (cU (itQ s) (min (H.getD 1 0).toNat 5 - k) t.2.1),fun t=>(5 - (t.1:Int)).toNat,⟨0,rfl,rfl,by omega,g0.1,hv0⟩,fun t _ hI=>?_⟩
 obtain ⟨i,r1,a1⟩:Int × (Int × List kP):=t
 obtain ⟨k1,rfl,hl,hk,hPr1,hvr1⟩:=hI
 dsimp only at hl hk hPr1 hvr1 ⊢
 have hPar1:-1≤r1:=hPr1.1
 have hPbr1:r1≤(s.size:Int):=hPr1.2
 have ex:(H.getD 1 0).toNat≤k1∨5≤k1∨r1<0→((H.getD 0 0,a1),r1)=mD s p:=fun h=>by
  rw[hvr1]
  by_cases h0:r1<0
  ·rw[kS _ _ h0];unfold KUQ;simp
  ·rw[show min (H.getD 1 0).toNat 5 - k1=0 by omega];unfold KUQ;simp[cU]
 refine ⟨by omega,fun _=>⟨by omega,fun _=>⟨fun ha=>⟨fun hb=>⟨fun hc=>?_,fun hc=>ex (.inr (.inr (by omega)))⟩,fun hb=>ex (.inr (.inl (by omega)))⟩,fun ha=>ex (.inl (by omega))⟩⟩⟩
 obtain ⟨m,hm⟩:∃ m,(min (H.getD 1 0).toNat 5 - k1)=m+1:=⟨(min (H.getD 1 0).toNat 5 - k1) - 1,by omega⟩
 rw[hm,lD _ m hc] at hvr1
 have hs1:=rL (s:=s) (p:=r1) (show 0≤(1:Int) by decide)
 have hp1:=qS s 1 r1 hPr1
 have hpa:-1≤(jP s 1 r1).2:=hp1.1.1
 have hpb:(jP s 1 r1).2≤(s.size:Int):=hp1.1.2
 (repeat' first|intro _|(with_reducible apply And.intro))
 all_goals first|omega|exact hPr1|exact hp1.1|(unfold maxLen;omega)|skip
 refine ⟨k1+1,rfl,by (first|omega|(simp only[List.length_append,List.length_cons,List.length_nil];omega)),by omega,(aV4 s r1 hPr1).1,?_⟩
 rw[show min (H.getD 1 0).toNat 5 - (k1+1)=m by omega,hvr1]
 show KUQ H a1 ((itQ s r1).1 :: _,_)=KUQ H (a1++[(itQ s r1).1]) _
 unfold KUQ;simp only[List.append_assoc,List.singleton_append];rfl
set_option maxHeartbeats 4000000 in
theorem zK:Con.Holds Tryz.prog gO:=aX bI (aR zZ (aR oW aY)) aAE zX
end Go.Proofs.YtlabadaccldkaaaGreat
