/- The laws' own helpers over Stage: copy, compare, count, mark, look at the marks. -/
import Derived.Test.YtmfpkkbhnmkfdaaGreatTGrads
import Derived.Test.YtmfpkkbhnmkfdaaGreatTIns
import Derived.Test.YtmfpkkbhnmkfdaaGreatTOp
import Derived.Test.YtmfpkkbhnmkfdaaGreatTRow
import Derived.Test.YtmfpkkbhnmkfdaaGreatTSaved
namespace Go.Proofs.YtmfpkkbhnmkfdaaGreat
open Go.ChangeShapes Go.WideShapes Go.ChangeAt Go.RowKit
set_option linter.unusedVariables false
set_option linter.unusedSimpArgs false
theorem oS {w:World} {cs:List Value} {x0:Ty.D cP} {x1:Ty.D (.slice 95 aO)} {x2:Ty.D (.slice 219 aZ)} {x3:Ty.D .bool} {x4:Ty.D .bool} {x5:Ty.D (.slice 186 aC)} {x6:Ty.D (.slice 188 bG)} {x7:Ty.D aB} {x8:Ty.D aB} {x9:Ty.D aB} {x10:Ty.D aB} {x11:Ty.D (.slice 188 bG)} {x12:Ty.D cP} {x13:Ty.D .bool} (h:rd aA w cs (x0,(x1,(x2,(x3,(x4,(x5,(x6,(x7,(x8,(x9,(x10,(x11,(x12,x13)))))))))))))) :
  ∃ p1 n1 q1 p2 n2 q2 p5 n5 q5 p6 n6 q6 p7 n7 q7 p8 n8 q8 p9 n9 q9 p10 n10 q10 p11 n11 q11,cs = [.int .i64 x0,.slice p1 n1 q1,.slice p2 n2 q2,.bool x3,.bool x4,.slice p5 n5 q5,.slice p6 n6 q6,.slice p7 n7 q7,.slice p8 n8 q8,.slice p9 n9 q9,.slice p10 n10 q10,.slice p11 n11 q11,.int .i64 x12,.bool x13]∧(Lit.int .i64 x0).wf = true∧cM (Ty.n aO) (rd aO w) w p1 n1 q1 x1∧cM (Ty.n aZ) (rd aZ w) w p2 n2 q2 x2∧cM (Ty.n aC) (rd aC w) w p5 n5 q5 x5∧cM (Ty.n bG) (rd bG w) w p6 n6 q6 x6∧cM (Ty.n cP) (rd cP w) w p7 n7 q7 x7∧cM (Ty.n cP) (rd cP w) w p8 n8 q8 x8∧cM (Ty.n cP) (rd cP w) w p9 n9 q9 x9∧cM (Ty.n cP) (rd cP w) w p10 n10 q10 x10∧cM (Ty.n bG) (rd bG w) w p11 n11 q11 x11∧(Lit.int .i64 x12).wf = true:=by
 obtain ⟨_,_,hcs,⟨rfl,w0⟩,⟨_,_,rfl,⟨p1,n1,q1,rfl,s1⟩,⟨_,_,rfl,⟨p2,n2,q2,rfl,s2⟩,⟨_,_,rfl,rfl,⟨_,_,rfl,rfl,⟨_,_,rfl,⟨p5,n5,q5,rfl,s5⟩,⟨_,_,rfl,⟨p6,n6,q6,rfl,s6⟩,⟨_,_,rfl,⟨p7,n7,q7,rfl,s7⟩,⟨_,_,rfl,⟨p8,n8,q8,rfl,s8⟩,⟨_,_,rfl,⟨p9,n9,q9,rfl,s9⟩,⟨_,_,rfl,⟨p10,n10,q10,rfl,s10⟩,⟨_,_,rfl,⟨p11,n11,q11,rfl,s11⟩,⟨_,_,rfl,⟨rfl,w12⟩,rfl⟩⟩⟩⟩⟩⟩⟩⟩⟩⟩⟩⟩⟩:=h
 exact ⟨_,_,_,_,_,_,_,_,_,_,_,_,_,_,_,_,_,_,_,_,_,_,_,_,_,_,_,hcs,w0,s1,s2,s5,s6,s7,s8,s9,s10,s11,w12⟩
set_option maxHeartbeats 1000000 in
set_option maxRecDepth 100000 in
theorem aMU (cs:Array Value) (d:aA.D) (w:World) (h:rd aA w cs.toList d) (hz:aW aA d≤1048576) :
  Calls Tryz.prog 122 #[.agg cs] w (yY aA w d):=by
 obtain ⟨x0,⟨x1,⟨x2,⟨x3,⟨x4,⟨x5,⟨x6,⟨x7,⟨x8,⟨x9,⟨x10,⟨x11,⟨x12,x13⟩⟩⟩⟩⟩⟩⟩⟩⟩⟩⟩⟩⟩:=d
 obtain ⟨p1,n1,q1,p2,n2,q2,p5,n5,q5,p6,n6,q6,p7,n7,q7,p8,n8,q8,p9,n9,q9,p10,n10,q10,p11,n11,q11,hcs,w0,s1,s2,s5,s6,s7,s8,s9,s10,s11,w12⟩:=oS h
 obtain rfl:cs = #[.int .i64 x0,.slice p1 n1 q1,.slice p2 n2 q2,.bool x3,.bool x4,.slice p5 n5 q5,.slice p6 n6 q6,.slice p7 n7 q7,.slice p8 n8 q8,.slice p9 n9 q9,.slice p10 n10 q10,.slice p11 n11 q11,.int .i64 x12,.bool x13]:=cA hcs
 have z1:aW (.slice 95 aO) x1≤1048576:=by simp only [aW] at hz ⊢;omega
 have z2:aW (.slice 219 aZ) x2≤1048576:=by simp only [aW] at hz ⊢;omega
 have z5:aW (.slice 186 aC) x5≤1048576:=by simp only [aW] at hz ⊢;omega
 have z6:aW (.slice 188 bG) x6≤1048576:=by simp only [aW] at hz ⊢;omega
 have z7:aW aB x7≤1048576:=by simp only [aW] at hz ⊢;omega
 have z8:aW aB x8≤1048576:=by simp only [aW] at hz ⊢;omega
 have z9:aW aB x9≤1048576:=by simp only [aW] at hz ⊢;omega
 have z10:aW aB x10≤1048576:=by simp only [aW] at hz ⊢;omega
 have z11:aW aM (x11,(x12,x13))≤1048576:=by simp only [aW] at hz ⊢;omega
 clear hz hcs
 go_enter Tryz.func122,Tryz.ntmps122
 go_wp2_with fail
 refine (aR3 _ _ _ x1 _ (by exact s1.below bO) z1).mono ?_
 rintro e w91 ⟨r1,rc1,rfl,f1,b1⟩
 obtain ⟨u1,v1⟩:=bR b1
 have y1:=b1.size
 simp only [World.size_alloc,World.size_setCell] at u1 v1 y1
 have yy10:w.heap.size < w91.heap.size:=aP
 have yy11:w.heap.size + 1 < w91.heap.size:=aP
 have yy12:w.heap.size + 1 + 1 < w91.heap.size:=aP
 go_wp2_with fail
 refine (aVU _ _ _ x2 _ (by exact s2.below bO) z2).mono ?_
 rintro e w92 ⟨r2,rc2,rfl,f2,b2⟩
 obtain ⟨u2,v2⟩:=bR b2
 have y2:=b2.size
 simp only [World.size_alloc,World.size_setCell] at u2 v2 y2
 have yy20:w.heap.size < w92.heap.size:=aP
 have yy21:w.heap.size + 1 < w92.heap.size:=aP
 have yy22:w.heap.size + 1 + 1 < w92.heap.size:=aP
 go_wp2_with fail
 refine (aL6 _ _ _ x5 _ (by exact s5.below bO) z5).mono ?_
 rintro e w95 ⟨r5,rc5,rfl,f5,b5⟩
 obtain ⟨u5,v5⟩:=bR b5
 have y5:=b5.size
 simp only [World.size_alloc,World.size_setCell] at u5 v5 y5
 have yy50:w.heap.size < w95.heap.size:=aP
 have yy51:w.heap.size + 1 < w95.heap.size:=aP
 have yy52:w.heap.size + 1 + 1 < w95.heap.size:=aP
 go_wp2_with fail
 refine (zQ _ _ _ x6 _ (by exact s6.below bO) z6).mono ?_
 rintro e w96 ⟨r6,rc6,rfl,f6,b6⟩
 obtain ⟨u6,v6⟩:=bR b6
 have y6:=b6.size
 simp only [World.size_alloc,World.size_setCell] at u6 v6 y6
 have yy60:w.heap.size < w96.heap.size:=aP
 have yy61:w.heap.size + 1 < w96.heap.size:=aP
 have yy62:w.heap.size + 1 + 1 < w96.heap.size:=aP
 go_wp2_with fail
 refine (eZ _ _ _ x7 _ (by exact s7.below bO) (by simp only [bI] at z7;omega)).mono ?_
 rintro e w97 ⟨r7,rc7,rfl,f7,b7⟩
 obtain ⟨u7,v7⟩:=bR b7
 have y7:=b7.size
 simp only [World.size_alloc,World.size_setCell] at u7 v7 y7
 have yy70:w.heap.size < w97.heap.size:=aP
 have yy71:w.heap.size + 1 < w97.heap.size:=aP
 have yy72:w.heap.size + 1 + 1 < w97.heap.size:=aP
 go_wp2_with fail
 refine (eZ _ _ _ x8 _ (by exact s8.below bO) (by simp only [bI] at z8;omega)).mono ?_
 rintro e w98 ⟨r8,rc8,rfl,f8,b8⟩
 obtain ⟨u8,v8⟩:=bR b8
 have y8:=b8.size
 simp only [World.size_alloc,World.size_setCell] at u8 v8 y8
 have yy80:w.heap.size < w98.heap.size:=aP
 have yy81:w.heap.size + 1 < w98.heap.size:=aP
 have yy82:w.heap.size + 1 + 1 < w98.heap.size:=aP
 go_wp2_with fail
 refine (eZ _ _ _ x9 _ (by exact s9.below bO) (by simp only [bI] at z9;omega)).mono ?_
 rintro e w99 ⟨r9,rc9,rfl,f9,b9⟩
 obtain ⟨u9,v9⟩:=bR b9
 have y9:=b9.size
 simp only [World.size_alloc,World.size_setCell] at u9 v9 y9
 have yy90:w.heap.size < w99.heap.size:=aP
 have yy91:w.heap.size + 1 < w99.heap.size:=aP
 have yy92:w.heap.size + 1 + 1 < w99.heap.size:=aP
 go_wp2_with fail
 refine (eZ _ _ _ x10 _ (by exact s10.below bO) (by simp only [bI] at z10;omega)).mono ?_
 rintro e w910 ⟨r10,rc10,rfl,f10,b10⟩
 obtain ⟨u10,v10⟩:=bR b10
 have y10:=b10.size
 simp only [World.size_alloc,World.size_setCell] at u10 v10 y10
 have yy100:w.heap.size < w910.heap.size:=aP
 have yy101:w.heap.size + 1 < w910.heap.size:=aP
 have yy102:w.heap.size + 1 + 1 < w910.heap.size:=aP
 go_wp2_with fail
 refine (aOC _ (x11,(x12,x13)) _ (by exact ⟨[_],[_,_],rfl,⟨_,_,_,rfl,s11.below bO⟩,⟨[_],[_],rfl,⟨rfl,w12⟩,rfl⟩⟩) z11).mono ?_
 rintro e w911 ⟨cs11,rfl,f11,b11⟩
 obtain ⟨u11,v11⟩:=bR b11
 have y11:=b11.size
 simp only [World.size_alloc,World.size_setCell] at u11 v11 y11
 have yy110:w.heap.size < w911.heap.size:=aP
 have yy111:w.heap.size + 1 < w911.heap.size:=aP
 have yy112:w.heap.size + 1 + 1 < w911.heap.size:=aP
 have rr11:=f11.rd
 obtain ⟨c11p0,c11n0,c11q0,hcs11,c11s0,c11w1⟩:=aB6 rr11
 obtain rfl:cs11 = #[.slice c11p0 c11n0 c11q0,.int .i64 x12,.bool x13]:=cA hcs11
 clear hcs11
 go_wp2
 refine bodyPost_ret (v:=.agg #[.int .i64 x0,.slice r1 (List.length x1) rc1,.slice r2 (List.length x2) rc2,.bool x3,.bool x4,.slice r5 (List.length x5) rc5,.slice r6 (List.length x6) rc6,.slice r7 (List.length x7) rc7,.slice r8 (List.length x8) rc8,.slice r9 (List.length x9) rc9,.slice r10 (List.length x10) rc10,.slice c11p0 c11n0 c11q0,.int .i64 x12,.bool x13]) (by simp [results,Tryz.results122,go_sem,u1,yy10,yy11,yy12,u2,yy20,yy21,yy22,u5,yy50,yy51,yy52,u6,yy60,yy61,yy62,u7,yy70,yy71,yy72,u8,yy80,yy81,yy82,u9,yy90,yy91,yy92,u10,yy100,yy101,yy102,u11,yy110,yy111,yy112]) rfl ⟨_,rfl,?_,?_⟩
 ·refine aR.pair (c1:=[_]) (c2:=[_,_,_,_,_,_,_,_,_,_,_,_,_]) (mid:=w.heap.size) ?_ ?_ aP aP
  ·exact aR.int w0 aP
  ·refine aR.pair (c1:=[_]) (c2:=[_,_,_,_,_,_,_,_,_,_,_,_]) (mid:=w91.heap.size) ?_ ?_ aP aP
   ·refine aR.mono (lo:=w.heap.size + 1 + 1 + 1) (hi:=w91.heap.size) ?_ aP aP aP
    (repeat' first | refine aR.set1 ?_ aP _ | refine aR.alloc ?_ _)
    refine aR.below ?_ b11 aP
    (repeat' first | refine aR.set1 ?_ aP _ | refine aR.alloc ?_ _)
    refine aR.below ?_ b10 aP
    (repeat' first | refine aR.set1 ?_ aP _ | refine aR.alloc ?_ _)
    refine aR.below ?_ b9 aP
    (repeat' first | refine aR.set1 ?_ aP _ | refine aR.alloc ?_ _)
    refine aR.below ?_ b8 aP
    (repeat' first | refine aR.set1 ?_ aP _ | refine aR.alloc ?_ _)
    refine aR.below ?_ b7 aP
    (repeat' first | refine aR.set1 ?_ aP _ | refine aR.alloc ?_ _)
    refine aR.below ?_ b6 aP
    (repeat' first | refine aR.set1 ?_ aP _ | refine aR.alloc ?_ _)
    refine aR.below ?_ b5 aP
    (repeat' first | refine aR.set1 ?_ aP _ | refine aR.alloc ?_ _)
    refine aR.below ?_ b2 aP
    (repeat' first | refine aR.set1 ?_ aP _ | refine aR.alloc ?_ _)
    exact f1.mono aP (Nat.le_refl _) (Nat.le_refl _)
   ·refine aR.pair (c1:=[_]) (c2:=[_,_,_,_,_,_,_,_,_,_,_]) (mid:=w92.heap.size) ?_ ?_ aP aP
    ·refine aR.mono (lo:=w91.heap.size) (hi:=w92.heap.size) ?_ aP aP aP
     (repeat' first | refine aR.set1 ?_ aP _ | refine aR.alloc ?_ _)
     refine aR.below ?_ b11 aP
     (repeat' first | refine aR.set1 ?_ aP _ | refine aR.alloc ?_ _)
     refine aR.below ?_ b10 aP
     (repeat' first | refine aR.set1 ?_ aP _ | refine aR.alloc ?_ _)
     refine aR.below ?_ b9 aP
     (repeat' first | refine aR.set1 ?_ aP _ | refine aR.alloc ?_ _)
     refine aR.below ?_ b8 aP
     (repeat' first | refine aR.set1 ?_ aP _ | refine aR.alloc ?_ _)
     refine aR.below ?_ b7 aP
     (repeat' first | refine aR.set1 ?_ aP _ | refine aR.alloc ?_ _)
     refine aR.below ?_ b6 aP
     (repeat' first | refine aR.set1 ?_ aP _ | refine aR.alloc ?_ _)
     refine aR.below ?_ b5 aP
     (repeat' first | refine aR.set1 ?_ aP _ | refine aR.alloc ?_ _)
     exact f2.mono aP (Nat.le_refl _) (Nat.le_refl _)
    ·refine aR.pair (c1:=[_]) (c2:=[_,_,_,_,_,_,_,_,_,_]) (mid:=w92.heap.size) ?_ ?_ aP aP
     ·exact aR.bool aP
     ·refine aR.pair (c1:=[_]) (c2:=[_,_,_,_,_,_,_,_,_]) (mid:=w92.heap.size) ?_ ?_ aP aP
      ·exact aR.bool aP
      ·refine aR.pair (c1:=[_]) (c2:=[_,_,_,_,_,_,_,_]) (mid:=w95.heap.size) ?_ ?_ aP aP
       ·refine aR.mono (lo:=w92.heap.size) (hi:=w95.heap.size) ?_ aP aP aP
        (repeat' first | refine aR.set1 ?_ aP _ | refine aR.alloc ?_ _)
        refine aR.below ?_ b11 aP
        (repeat' first | refine aR.set1 ?_ aP _ | refine aR.alloc ?_ _)
        refine aR.below ?_ b10 aP
        (repeat' first | refine aR.set1 ?_ aP _ | refine aR.alloc ?_ _)
        refine aR.below ?_ b9 aP
        (repeat' first | refine aR.set1 ?_ aP _ | refine aR.alloc ?_ _)
        refine aR.below ?_ b8 aP
        (repeat' first | refine aR.set1 ?_ aP _ | refine aR.alloc ?_ _)
        refine aR.below ?_ b7 aP
        (repeat' first | refine aR.set1 ?_ aP _ | refine aR.alloc ?_ _)
        refine aR.below ?_ b6 aP
        (repeat' first | refine aR.set1 ?_ aP _ | refine aR.alloc ?_ _)
        exact f5.mono aP (Nat.le_refl _) (Nat.le_refl _)
       ·refine aR.pair (c1:=[_]) (c2:=[_,_,_,_,_,_,_]) (mid:=w96.heap.size) ?_ ?_ aP aP
        ·refine aR.mono (lo:=w95.heap.size) (hi:=w96.heap.size) ?_ aP aP aP
         (repeat' first | refine aR.set1 ?_ aP _ | refine aR.alloc ?_ _)
         refine aR.below ?_ b11 aP
         (repeat' first | refine aR.set1 ?_ aP _ | refine aR.alloc ?_ _)
         refine aR.below ?_ b10 aP
         (repeat' first | refine aR.set1 ?_ aP _ | refine aR.alloc ?_ _)
         refine aR.below ?_ b9 aP
         (repeat' first | refine aR.set1 ?_ aP _ | refine aR.alloc ?_ _)
         refine aR.below ?_ b8 aP
         (repeat' first | refine aR.set1 ?_ aP _ | refine aR.alloc ?_ _)
         refine aR.below ?_ b7 aP
         (repeat' first | refine aR.set1 ?_ aP _ | refine aR.alloc ?_ _)
         exact f6.mono aP (Nat.le_refl _) (Nat.le_refl _)
        ·refine aR.pair (c1:=[_]) (c2:=[_,_,_,_,_,_]) (mid:=w97.heap.size) ?_ ?_ aP aP
         ·refine aR.mono (lo:=w96.heap.size) (hi:=w97.heap.size) ?_ aP aP aP
          (repeat' first | refine aR.set1 ?_ aP _ | refine aR.alloc ?_ _)
          refine aR.below ?_ b11 aP
          (repeat' first | refine aR.set1 ?_ aP _ | refine aR.alloc ?_ _)
          refine aR.below ?_ b10 aP
          (repeat' first | refine aR.set1 ?_ aP _ | refine aR.alloc ?_ _)
          refine aR.below ?_ b9 aP
          (repeat' first | refine aR.set1 ?_ aP _ | refine aR.alloc ?_ _)
          refine aR.below ?_ b8 aP
          (repeat' first | refine aR.set1 ?_ aP _ | refine aR.alloc ?_ _)
          exact f7.mono aP (Nat.le_refl _) (Nat.le_refl _)
         ·refine aR.pair (c1:=[_]) (c2:=[_,_,_,_,_]) (mid:=w98.heap.size) ?_ ?_ aP aP
          ·refine aR.mono (lo:=w97.heap.size) (hi:=w98.heap.size) ?_ aP aP aP
           (repeat' first | refine aR.set1 ?_ aP _ | refine aR.alloc ?_ _)
           refine aR.below ?_ b11 aP
           (repeat' first | refine aR.set1 ?_ aP _ | refine aR.alloc ?_ _)
           refine aR.below ?_ b10 aP
           (repeat' first | refine aR.set1 ?_ aP _ | refine aR.alloc ?_ _)
           refine aR.below ?_ b9 aP
           (repeat' first | refine aR.set1 ?_ aP _ | refine aR.alloc ?_ _)
           exact f8.mono aP (Nat.le_refl _) (Nat.le_refl _)
          ·refine aR.pair (c1:=[_]) (c2:=[_,_,_,_]) (mid:=w99.heap.size) ?_ ?_ aP aP
           ·refine aR.mono (lo:=w98.heap.size) (hi:=w99.heap.size) ?_ aP aP aP
            (repeat' first | refine aR.set1 ?_ aP _ | refine aR.alloc ?_ _)
            refine aR.below ?_ b11 aP
            (repeat' first | refine aR.set1 ?_ aP _ | refine aR.alloc ?_ _)
            refine aR.below ?_ b10 aP
            (repeat' first | refine aR.set1 ?_ aP _ | refine aR.alloc ?_ _)
            exact f9.mono aP (Nat.le_refl _) (Nat.le_refl _)
           ·refine aR.pair (c1:=[_]) (c2:=[_,_,_]) (mid:=w910.heap.size) ?_ ?_ aP aP
            ·refine aR.mono (lo:=w99.heap.size) (hi:=w910.heap.size) ?_ aP aP aP
             (repeat' first | refine aR.set1 ?_ aP _ | refine aR.alloc ?_ _)
             refine aR.below ?_ b11 aP
             (repeat' first | refine aR.set1 ?_ aP _ | refine aR.alloc ?_ _)
             exact f10.mono aP (Nat.le_refl _) (Nat.le_refl _)
            ·refine aR.mono (lo:=w910.heap.size) (hi:=w911.heap.size) ?_ aP aP aP
             (repeat' first | refine aR.set1 ?_ aP _ | refine aR.alloc ?_ _)
             exact f11.mono aP (Nat.le_refl _) (Nat.le_refl _)
 ·exact bO
set_option maxHeartbeats 1000000 in
set_option maxRecDepth 100000 in
theorem aKQ (p:Option Addr) (len cap:Nat) (l:List aA.D) (w:World) (h:cM aA.n (rd aA w) w p len cap l) (hz:aW (.slice 121 aA) l≤1048576) :
  Calls Tryz.prog 65 #[.slice p len cap] w (aB8 121 aA w l):=by
 obtain rfl:=h.lens
 rw [bI] at hz
 have hlen:l.length≤1048576:=by omega
 have hmk:=fY Tryz.prog 32 121 (.agg #[.int .i64 0,.slice none 0 0,.slice none 0 0,.bool false,.bool false,.slice none 0 0,.slice none 0 0,.slice none 0 0,.slice none 0 0,.slice none 0 0,.slice none 0 0,.slice none 0 0,.int .i64 0,.bool false]) 248 aA Tryz.underlying32 (by kernel_rfl) rfl l.length (by omega) (by omega)
 go_enter Tryz.func65,Tryz.ntmps65
 go_wp2
 go_loopw [4] (fun i wr=>∃ k:Nat,k≤l.length∧i = .int .i64 k∧Below w.heap.size w wr∧aR (.slice 121 aA) w.heap.size wr.heap.size wr [.slice (some ⟨w.heap.size,0,none⟩) l.length l.length] (l.take k ++ List.replicate (l.length - k) (aS aA))) (fun i _=>l.length - (intOf i).toNat)
 case atStart=>exact ⟨0,by omega,rfl,(Below.refl _ _).alloc (Nat.le_refl _) _,(aR.made w aA _ l.length (by simp [maxLen];omega)).mono (Nat.le_refl _) (by simp) (Nat.le_refl _)⟩
 case round =>
  obtain ⟨k,hk,rfl,hb,hf⟩:=hrel
  by_cases hlt:k < l.length
  ·obtain ⟨b,off,rfl,hlb,cs,hcs,hc,hR⟩:=h.2.2.2.2 k hlt
   have hzk:=iV (aW aA) l k hlt
   obtain ⟨x,hx⟩:∃ x,l[k] = x:=⟨_,rfl⟩
   rw [hx] at hR hzk
   have hR0:rd aA wr cs x:=cO (fun q hq=>hb.block q hq) _ _ _ hR
   obtain ⟨x0,⟨x1,⟨x2,⟨x3,⟨x4,⟨x5,⟨x6,⟨x7,⟨x8,⟨x9,⟨x10,⟨x11,⟨x12,x13⟩⟩⟩⟩⟩⟩⟩⟩⟩⟩⟩⟩⟩:=x
   obtain ⟨p1,n1,q1,p2,n2,q2,p5,n5,q5,p6,n6,q6,p7,n7,q7,p8,n8,q8,p9,n9,q9,p10,n10,q10,p11,n11,q11,rfl,w0,s1,s2,s5,s6,s7,s8,s9,s10,s11,w12⟩:=oS hR
   have c0:wr.cell? ⟨b,off + k * 14,none⟩ = some (.int .i64 x0):=(hb.cell hlb).trans (by have hh:=hc 0 (by simp);rw [show Ty.n aA = 14 from rfl] at hh;simpa using hh)
   have c1:wr.cell? ⟨b,off + k * 14 + 1,none⟩ = some (.slice p1 n1 q1):=(hb.cell hlb).trans (by have hh:=hc 1 (by simp);rw [show Ty.n aA = 14 from rfl] at hh;simpa using hh)
   have c2:wr.cell? ⟨b,off + k * 14 + 2,none⟩ = some (.slice p2 n2 q2):=(hb.cell hlb).trans (by have hh:=hc 2 (by simp);rw [show Ty.n aA = 14 from rfl] at hh;simpa using hh)
   have c3:wr.cell? ⟨b,off + k * 14 + 3,none⟩ = some (.bool x3):=(hb.cell hlb).trans (by have hh:=hc 3 (by simp);rw [show Ty.n aA = 14 from rfl] at hh;simpa using hh)
   have c4:wr.cell? ⟨b,off + k * 14 + 4,none⟩ = some (.bool x4):=(hb.cell hlb).trans (by have hh:=hc 4 (by simp);rw [show Ty.n aA = 14 from rfl] at hh;simpa using hh)
   have c5:wr.cell? ⟨b,off + k * 14 + 5,none⟩ = some (.slice p5 n5 q5):=(hb.cell hlb).trans (by have hh:=hc 5 (by simp);rw [show Ty.n aA = 14 from rfl] at hh;simpa using hh)
   have c6:wr.cell? ⟨b,off + k * 14 + 6,none⟩ = some (.slice p6 n6 q6):=(hb.cell hlb).trans (by have hh:=hc 6 (by simp);rw [show Ty.n aA = 14 from rfl] at hh;simpa using hh)
   have c7:wr.cell? ⟨b,off + k * 14 + 7,none⟩ = some (.slice p7 n7 q7):=(hb.cell hlb).trans (by have hh:=hc 7 (by simp);rw [show Ty.n aA = 14 from rfl] at hh;simpa using hh)
   have c8:wr.cell? ⟨b,off + k * 14 + 8,none⟩ = some (.slice p8 n8 q8):=(hb.cell hlb).trans (by have hh:=hc 8 (by simp);rw [show Ty.n aA = 14 from rfl] at hh;simpa using hh)
   have c9:wr.cell? ⟨b,off + k * 14 + 9,none⟩ = some (.slice p9 n9 q9):=(hb.cell hlb).trans (by have hh:=hc 9 (by simp);rw [show Ty.n aA = 14 from rfl] at hh;simpa using hh)
   have c10:wr.cell? ⟨b,off + k * 14 + 10,none⟩ = some (.slice p10 n10 q10):=(hb.cell hlb).trans (by have hh:=hc 10 (by simp);rw [show Ty.n aA = 14 from rfl] at hh;simpa using hh)
   have c11:wr.cell? ⟨b,off + k * 14 + 11,none⟩ = some (.slice p11 n11 q11):=(hb.cell hlb).trans (by have hh:=hc 11 (by simp);rw [show Ty.n aA = 14 from rfl] at hh;simpa using hh)
   have c12:wr.cell? ⟨b,off + k * 14 + 12,none⟩ = some (.int .i64 x12):=(hb.cell hlb).trans (by have hh:=hc 12 (by simp);rw [show Ty.n aA = 14 from rfl] at hh;simpa using hh)
   have c13:wr.cell? ⟨b,off + k * 14 + 13,none⟩ = some (.bool x13):=(hb.cell hlb).trans (by have hh:=hc 13 (by simp);rw [show Ty.n aA = 14 from rfl] at hh;simpa using hh)
   obtain ⟨b',cap',hv,_,hbl,hfz,c,hcl,hcc,_⟩:=hf.at k (by simp;omega)
   simp only [Value.slice.injEq,Option.some.injEq,Addr.mk.injEq,and_true] at hv
   obtain ⟨rfl,-,rfl⟩:=hv
   have HF:=Lib.hid hf;have HX:=Lib.hid hx
   have e0:wr.cell? ⟨w.heap.size,k * 14,none⟩ = some (c[0]'(by rw [hcl];decide)):=by simpa [Ty.n] using hcc 0 (by rw [hcl];decide)
   have g0:wr.frozen? ⟨w.heap.size,k * 14,none⟩ = false:=hfz _
   have e1:wr.cell? ⟨w.heap.size,k * 14 + 1,none⟩ = some (c[1]'(by rw [hcl];decide)):=by simpa [Ty.n] using hcc 1 (by rw [hcl];decide)
   have g1:wr.frozen? ⟨w.heap.size,k * 14 + 1,none⟩ = false:=hfz _
   have e2:wr.cell? ⟨w.heap.size,k * 14 + 2,none⟩ = some (c[2]'(by rw [hcl];decide)):=by simpa [Ty.n] using hcc 2 (by rw [hcl];decide)
   have g2:wr.frozen? ⟨w.heap.size,k * 14 + 2,none⟩ = false:=hfz _
   have e3:wr.cell? ⟨w.heap.size,k * 14 + 3,none⟩ = some (c[3]'(by rw [hcl];decide)):=by simpa [Ty.n] using hcc 3 (by rw [hcl];decide)
   have g3:wr.frozen? ⟨w.heap.size,k * 14 + 3,none⟩ = false:=hfz _
   have e4:wr.cell? ⟨w.heap.size,k * 14 + 4,none⟩ = some (c[4]'(by rw [hcl];decide)):=by simpa [Ty.n] using hcc 4 (by rw [hcl];decide)
   have g4:wr.frozen? ⟨w.heap.size,k * 14 + 4,none⟩ = false:=hfz _
   have e5:wr.cell? ⟨w.heap.size,k * 14 + 5,none⟩ = some (c[5]'(by rw [hcl];decide)):=by simpa [Ty.n] using hcc 5 (by rw [hcl];decide)
   have g5:wr.frozen? ⟨w.heap.size,k * 14 + 5,none⟩ = false:=hfz _
   have e6:wr.cell? ⟨w.heap.size,k * 14 + 6,none⟩ = some (c[6]'(by rw [hcl];decide)):=by simpa [Ty.n] using hcc 6 (by rw [hcl];decide)
   have g6:wr.frozen? ⟨w.heap.size,k * 14 + 6,none⟩ = false:=hfz _
   have e7:wr.cell? ⟨w.heap.size,k * 14 + 7,none⟩ = some (c[7]'(by rw [hcl];decide)):=by simpa [Ty.n] using hcc 7 (by rw [hcl];decide)
   have g7:wr.frozen? ⟨w.heap.size,k * 14 + 7,none⟩ = false:=hfz _
   have e8:wr.cell? ⟨w.heap.size,k * 14 + 8,none⟩ = some (c[8]'(by rw [hcl];decide)):=by simpa [Ty.n] using hcc 8 (by rw [hcl];decide)
   have g8:wr.frozen? ⟨w.heap.size,k * 14 + 8,none⟩ = false:=hfz _
   have e9:wr.cell? ⟨w.heap.size,k * 14 + 9,none⟩ = some (c[9]'(by rw [hcl];decide)):=by simpa [Ty.n] using hcc 9 (by rw [hcl];decide)
   have g9:wr.frozen? ⟨w.heap.size,k * 14 + 9,none⟩ = false:=hfz _
   have e10:wr.cell? ⟨w.heap.size,k * 14 + 10,none⟩ = some (c[10]'(by rw [hcl];decide)):=by simpa [Ty.n] using hcc 10 (by rw [hcl];decide)
   have g10:wr.frozen? ⟨w.heap.size,k * 14 + 10,none⟩ = false:=hfz _
   have e11:wr.cell? ⟨w.heap.size,k * 14 + 11,none⟩ = some (c[11]'(by rw [hcl];decide)):=by simpa [Ty.n] using hcc 11 (by rw [hcl];decide)
   have g11:wr.frozen? ⟨w.heap.size,k * 14 + 11,none⟩ = false:=hfz _
   have e12:wr.cell? ⟨w.heap.size,k * 14 + 12,none⟩ = some (c[12]'(by rw [hcl];decide)):=by simpa [Ty.n] using hcc 12 (by rw [hcl];decide)
   have g12:wr.frozen? ⟨w.heap.size,k * 14 + 12,none⟩ = false:=hfz _
   have e13:wr.cell? ⟨w.heap.size,k * 14 + 13,none⟩ = some (c[13]'(by rw [hcl];decide)):=by simpa [Ty.n] using hcc 13 (by rw [hcl];decide)
   have g13:wr.frozen? ⟨w.heap.size,k * 14 + 13,none⟩ = false:=hfz _
   clear h hc hcc hfz hf hx
   go_wp2_with fail
   refine (aMU _ (x0,(x1,(x2,(x3,(x4,(x5,(x6,(x7,(x8,(x9,(x10,(x11,(x12,x13))))))))))))) _ (by exact hR0) (by omega)).mono ?_
   rintro e w1 ⟨cs1,rfl,f1,b1⟩
   have rr:=f1.rd
   obtain ⟨rp1,rn1,rq1,rp2,rn2,rq2,rp5,rn5,rq5,rp6,rn6,rq6,rp7,rn7,rq7,rp8,rn8,rq8,rp9,rn9,rq9,rp10,rn10,rq10,rp11,rn11,rq11,rhcs,rw0,rs1,rs2,rs5,rs6,rs7,rs8,rs9,rs10,rs11,rw12⟩:=oS rr
   obtain rfl:cs1 = #[.int .i64 x0,.slice rp1 rn1 rq1,.slice rp2 rn2 rq2,.bool x3,.bool x4,.slice rp5 rn5 rq5,.slice rp6 rn6 rq6,.slice rp7 rn7 rq7,.slice rp8 rn8 rq8,.slice rp9 rn9 rq9,.slice rp10 rn10 rq10,.slice rp11 rn11 rq11,.int .i64 x12,.bool x13]:=cA rhcs
   have e0':w1.cell? ⟨w.heap.size,k * 14,none⟩ = some (c[0]'(by rw [hcl];decide)):=(b1.cell hbl).trans e0
   have g0':w1.frozen? ⟨w.heap.size,k * 14,none⟩ = false:=(b1.frozen hbl).trans g0
   have e1':w1.cell? ⟨w.heap.size,k * 14 + 1,none⟩ = some (c[1]'(by rw [hcl];decide)):=(b1.cell hbl).trans e1
   have g1':w1.frozen? ⟨w.heap.size,k * 14 + 1,none⟩ = false:=(b1.frozen hbl).trans g1
   have e2':w1.cell? ⟨w.heap.size,k * 14 + 2,none⟩ = some (c[2]'(by rw [hcl];decide)):=(b1.cell hbl).trans e2
   have g2':w1.frozen? ⟨w.heap.size,k * 14 + 2,none⟩ = false:=(b1.frozen hbl).trans g2
   have e3':w1.cell? ⟨w.heap.size,k * 14 + 3,none⟩ = some (c[3]'(by rw [hcl];decide)):=(b1.cell hbl).trans e3
   have g3':w1.frozen? ⟨w.heap.size,k * 14 + 3,none⟩ = false:=(b1.frozen hbl).trans g3
   have e4':w1.cell? ⟨w.heap.size,k * 14 + 4,none⟩ = some (c[4]'(by rw [hcl];decide)):=(b1.cell hbl).trans e4
   have g4':w1.frozen? ⟨w.heap.size,k * 14 + 4,none⟩ = false:=(b1.frozen hbl).trans g4
   have e5':w1.cell? ⟨w.heap.size,k * 14 + 5,none⟩ = some (c[5]'(by rw [hcl];decide)):=(b1.cell hbl).trans e5
   have g5':w1.frozen? ⟨w.heap.size,k * 14 + 5,none⟩ = false:=(b1.frozen hbl).trans g5
   have e6':w1.cell? ⟨w.heap.size,k * 14 + 6,none⟩ = some (c[6]'(by rw [hcl];decide)):=(b1.cell hbl).trans e6
   have g6':w1.frozen? ⟨w.heap.size,k * 14 + 6,none⟩ = false:=(b1.frozen hbl).trans g6
   have e7':w1.cell? ⟨w.heap.size,k * 14 + 7,none⟩ = some (c[7]'(by rw [hcl];decide)):=(b1.cell hbl).trans e7
   have g7':w1.frozen? ⟨w.heap.size,k * 14 + 7,none⟩ = false:=(b1.frozen hbl).trans g7
   have e8':w1.cell? ⟨w.heap.size,k * 14 + 8,none⟩ = some (c[8]'(by rw [hcl];decide)):=(b1.cell hbl).trans e8
   have g8':w1.frozen? ⟨w.heap.size,k * 14 + 8,none⟩ = false:=(b1.frozen hbl).trans g8
   have e9':w1.cell? ⟨w.heap.size,k * 14 + 9,none⟩ = some (c[9]'(by rw [hcl];decide)):=(b1.cell hbl).trans e9
   have g9':w1.frozen? ⟨w.heap.size,k * 14 + 9,none⟩ = false:=(b1.frozen hbl).trans g9
   have e10':w1.cell? ⟨w.heap.size,k * 14 + 10,none⟩ = some (c[10]'(by rw [hcl];decide)):=(b1.cell hbl).trans e10
   have g10':w1.frozen? ⟨w.heap.size,k * 14 + 10,none⟩ = false:=(b1.frozen hbl).trans g10
   have e11':w1.cell? ⟨w.heap.size,k * 14 + 11,none⟩ = some (c[11]'(by rw [hcl];decide)):=(b1.cell hbl).trans e11
   have g11':w1.frozen? ⟨w.heap.size,k * 14 + 11,none⟩ = false:=(b1.frozen hbl).trans g11
   have e12':w1.cell? ⟨w.heap.size,k * 14 + 12,none⟩ = some (c[12]'(by rw [hcl];decide)):=(b1.cell hbl).trans e12
   have g12':w1.frozen? ⟨w.heap.size,k * 14 + 12,none⟩ = false:=(b1.frozen hbl).trans g12
   have e13':w1.cell? ⟨w.heap.size,k * 14 + 13,none⟩ = some (c[13]'(by rw [hcl];decide)):=(b1.cell hbl).trans e13
   have g13':w1.frozen? ⟨w.heap.size,k * 14 + 13,none⟩ = false:=(b1.frozen hbl).trans g13
   clear e0 g0 c0 e1 g1 c1 e2 g2 c2 e3 g3 c3 e4 g4 c4 e5 g5 c5 e6 g6 c6 e7 g7 c7 e8 g8 c8 e9 g9 c9 e10 g10 c10 e11 g11 c11 e12 g12 c12 e13 g13 c13 rhcs
   go_wp2
   go_roundw
   case rel =>
    refine ⟨k + 1,by omega,by go_num,?_,?_⟩
    ·(repeat' first | refine Below.setCell ?_ aP _);exact hb.trans (b1.mono hb.size)
    ·have h1:=(HF.out.below b1 (Nat.le_refl _)).set k (by simp;omega) hb.size b1.size (x:=l[k]) (by rw [HX.out];exact f1)
     rw [lR l (aS aA) k hlt] at h1
     refine aR.mono (hi:=w1.heap.size) ?_ (Nat.le_refl _) aP (Nat.le_refl _)
     exact h1
   case measure=>simp [intOf];omega
  ·clear h
   go_wp2
   go_ret
   obtain rfl:k = l.length:=by omega
   exact ⟨_,_,rfl,by simpa using hf,hb⟩
set_option maxHeartbeats 1000000 in
set_option maxRecDepth 100000 in
theorem aDU (ca:Array Value) (d:aA.D) (left:Int) (w:World) (ha:rd aA w ca.toList d) (h0:0≤left) (h2:left≤9223372036854775807) :
  Calls Tryz.prog 111 #[.agg ca,.int .i64 left] w (dO (.int .i64 (gM left (aW aA d))) w):=by
 obtain ⟨x0,⟨x1,⟨x2,⟨x3,⟨x4,⟨x5,⟨x6,⟨x7,⟨x8,⟨x9,⟨x10,⟨x11,⟨x12,x13⟩⟩⟩⟩⟩⟩⟩⟩⟩⟩⟩⟩⟩:=d
 obtain ⟨ap1,an1,aq1,ap2,an2,aq2,ap5,an5,aq5,ap6,an6,aq6,ap7,an7,aq7,ap8,an8,aq8,ap9,an9,aq9,ap10,an10,aq10,ap11,an11,aq11,ahcs,aw0,as1,as2,as5,as6,as7,as8,as9,as10,as11,aw12⟩:=oS ha
 obtain rfl:ca = #[.int .i64 x0,.slice ap1 an1 aq1,.slice ap2 an2 aq2,.bool x3,.bool x4,.slice ap5 an5 aq5,.slice ap6 an6 aq6,.slice ap7 an7 aq7,.slice ap8 an8 aq8,.slice ap9 an9 aq9,.slice ap10 an10 aq10,.slice ap11 an11 aq11,.int .i64 x12,.bool x13]:=cA ahcs
 clear ahcs
 have e0:aW aA (x0,(x1,(x2,(x3,(x4,(x5,(x6,(x7,(x8,(x9,(x10,(x11,(x12,x13))))))))))))) = aW (.slice 95 aO) x1 + aW (.slice 219 aZ) x2 + aW (.slice 186 aC) x5 + aW (.slice 188 bG) x6 + aW aB x7 + aW aB x8 + aW aB x9 + aW aB x10 + aW aM (x11,(x12,x13)):=by first | rfl | (simp only [aW];omega)
 have hl7:aW aB x7 = an7:=by rw [as7.lens];exact dK x7
 have hm7:an7≤maxLen:=Nat.le_trans as7.2.1 as7.2.2.1
 have hl8:aW aB x8 = an8:=by rw [as8.lens];exact dK x8
 have hm8:an8≤maxLen:=Nat.le_trans as8.2.1 as8.2.2.1
 have hl9:aW aB x9 = an9:=by rw [as9.lens];exact dK x9
 have hm9:an9≤maxLen:=Nat.le_trans as9.2.1 as9.2.2.1
 have hl10:aW aB x10 = an10:=by rw [as10.lens];exact dK x10
 have hm10:an10≤maxLen:=Nat.le_trans as10.2.1 as10.2.2.1
 have HS:Hid (aW aA (x0,(x1,(x2,(x3,(x4,(x5,(x6,(x7,(x8,(x9,(x10,(x11,(x12,x13))))))))))))) = aW (.slice 95 aO) x1 + aW (.slice 219 aZ) x2 + aW (.slice 186 aC) x5 + aW (.slice 188 bG) x6 + an7 + an8 + an9 + an10 + aW aM (x11,(x12,x13))):=e0.trans (by rw [hl7,hl8,hl9,hl10])
 clear e0 hl7 hl8 hl9 hl10
 go_enter Tryz.func111,Tryz.ntmps111
 go_wp2_with fail
 refine (aRI _ _ _ x1 (left) _ (by exact as1.below bO) (by omega) (by omega)).mono ?_
 rintro e w91 ⟨rfl,b1⟩
 obtain ⟨v1,hv1⟩:∃ z:Int,z = gM (left) (aW (.slice 95 aO) x1):=⟨_,rfl⟩
 rw [← hv1]
 have HV1:Hid ((((aW (.slice 95 aO) x1:Nat):Int)≤left∧v1 = left - (aW (.slice 95 aO) x1:Nat))∨(¬ ((aW (.slice 95 aO) x1:Nat):Int)≤left∧v1 = -1)):=Lib.hid (by rw [hv1];unfold gM;split <;> omega)
 clear hv1
 obtain ⟨u1,vv1⟩:=bR b1
 have y1:=b1.size
 try simp only [World.size_alloc,World.size_setCell] at u1 vv1 y1
 have yy10:w.heap.size < w91.heap.size:=aP
 by_cases hn1:v1 < 0
 ·go_wp2
  go_ret
  exact ⟨bH (by rw [HS.out];have:=HV1.out;unfold gM;rw [if_neg (by omega)];try omega),bO⟩
 have hp1:0≤v1∧v1≤9223372036854775807:=by have:=HV1.out;omega
 go_wp2_with fail
 refine (aXL _ _ _ x2 (v1) _ (by exact as2.below bO) (by omega) (by omega)).mono ?_
 rintro e w92 ⟨rfl,b2⟩
 obtain ⟨v2,hv2⟩:∃ z:Int,z = gM (v1) (aW (.slice 219 aZ) x2):=⟨_,rfl⟩
 rw [← hv2]
 have HV2:Hid ((((aW (.slice 219 aZ) x2:Nat):Int)≤v1∧v2 = v1 - (aW (.slice 219 aZ) x2:Nat))∨(¬ ((aW (.slice 219 aZ) x2:Nat):Int)≤v1∧v2 = -1)):=Lib.hid (by rw [hv2];unfold gM;split <;> omega)
 clear hv2
 obtain ⟨u2,vv2⟩:=bR b2
 have y2:=b2.size
 try simp only [World.size_alloc,World.size_setCell] at u2 vv2 y2
 have yy20:w.heap.size < w92.heap.size:=aP
 by_cases hn2:v2 < 0
 ·go_wp2
  go_ret
  exact ⟨bH (by rw [HS.out];have:=HV1.out;have:=HV2.out;unfold gM;rw [if_neg (by omega)];try omega),bO⟩
 have hp2:0≤v2∧v2≤9223372036854775807:=by have:=HV2.out;omega
 go_wp2_with fail
 refine (aKL _ _ _ x5 (v2) _ (by exact as5.below bO) (by omega) (by omega)).mono ?_
 rintro e w95 ⟨rfl,b5⟩
 obtain ⟨v5,hv5⟩:∃ z:Int,z = gM (v2) (aW (.slice 186 aC) x5):=⟨_,rfl⟩
 rw [← hv5]
 have HV5:Hid ((((aW (.slice 186 aC) x5:Nat):Int)≤v2∧v5 = v2 - (aW (.slice 186 aC) x5:Nat))∨(¬ ((aW (.slice 186 aC) x5:Nat):Int)≤v2∧v5 = -1)):=Lib.hid (by rw [hv5];unfold gM;split <;> omega)
 clear hv5
 obtain ⟨u5,vv5⟩:=bR b5
 have y5:=b5.size
 try simp only [World.size_alloc,World.size_setCell] at u5 vv5 y5
 have yy50:w.heap.size < w95.heap.size:=aP
 by_cases hn5:v5 < 0
 ·go_wp2
  go_ret
  exact ⟨bH (by rw [HS.out];have:=HV1.out;have:=HV2.out;have:=HV5.out;unfold gM;rw [if_neg (by omega)];try omega),bO⟩
 have hp5:0≤v5∧v5≤9223372036854775807:=by have:=HV5.out;omega
 go_wp2_with fail
 refine (aA7 _ _ _ x6 (v5) _ (by exact as6.below bO) (by omega) (by omega)).mono ?_
 rintro e w96 ⟨rfl,b6⟩
 obtain ⟨v6,hv6⟩:∃ z:Int,z = gM (v5) (aW (.slice 188 bG) x6):=⟨_,rfl⟩
 rw [← hv6]
 have HV6:Hid ((((aW (.slice 188 bG) x6:Nat):Int)≤v5∧v6 = v5 - (aW (.slice 188 bG) x6:Nat))∨(¬ ((aW (.slice 188 bG) x6:Nat):Int)≤v5∧v6 = -1)):=Lib.hid (by rw [hv6];unfold gM;split <;> omega)
 clear hv6
 obtain ⟨u6,vv6⟩:=bR b6
 have y6:=b6.size
 try simp only [World.size_alloc,World.size_setCell] at u6 vv6 y6
 have yy60:w.heap.size < w96.heap.size:=aP
 by_cases hn6:v6 < 0
 ·go_wp2
  go_ret
  exact ⟨bH (by rw [HS.out];have:=HV1.out;have:=HV2.out;have:=HV5.out;have:=HV6.out;unfold gM;rw [if_neg (by omega)];try omega),bO⟩
 have hp6:0≤v6∧v6≤9223372036854775807:=by have:=HV6.out;omega
 go_wp2_with fail
 refine (mV _ _ _ (v6) _ hm7 (by omega) (by omega)).mono ?_
 rintro e w97 ⟨rfl,b7⟩
 obtain ⟨v7,hv7⟩:∃ z:Int,z = gM (v6) (an7):=⟨_,rfl⟩
 rw [← hv7]
 have HV7:Hid ((((an7:Nat):Int)≤v6∧v7 = v6 - (an7:Nat))∨(¬ ((an7:Nat):Int)≤v6∧v7 = -1)):=Lib.hid (by rw [hv7];unfold gM;split <;> omega)
 clear hv7
 obtain ⟨u7,vv7⟩:=bR b7
 have y7:=b7.size
 try simp only [World.size_alloc,World.size_setCell] at u7 vv7 y7
 have yy70:w.heap.size < w97.heap.size:=aP
 by_cases hn7:v7 < 0
 ·go_wp2
  go_ret
  exact ⟨bH (by rw [HS.out];have:=HV1.out;have:=HV2.out;have:=HV5.out;have:=HV6.out;have:=HV7.out;unfold gM;rw [if_neg (by omega)];try omega),bO⟩
 have hp7:0≤v7∧v7≤9223372036854775807:=by have:=HV7.out;omega
 go_wp2_with fail
 refine (mV _ _ _ (v7) _ hm8 (by omega) (by omega)).mono ?_
 rintro e w98 ⟨rfl,b8⟩
 obtain ⟨v8,hv8⟩:∃ z:Int,z = gM (v7) (an8):=⟨_,rfl⟩
 rw [← hv8]
 have HV8:Hid ((((an8:Nat):Int)≤v7∧v8 = v7 - (an8:Nat))∨(¬ ((an8:Nat):Int)≤v7∧v8 = -1)):=Lib.hid (by rw [hv8];unfold gM;split <;> omega)
 clear hv8
 obtain ⟨u8,vv8⟩:=bR b8
 have y8:=b8.size
 try simp only [World.size_alloc,World.size_setCell] at u8 vv8 y8
 have yy80:w.heap.size < w98.heap.size:=aP
 by_cases hn8:v8 < 0
 ·go_wp2
  go_ret
  exact ⟨bH (by rw [HS.out];have:=HV1.out;have:=HV2.out;have:=HV5.out;have:=HV6.out;have:=HV7.out;have:=HV8.out;unfold gM;rw [if_neg (by omega)];try omega),bO⟩
 have hp8:0≤v8∧v8≤9223372036854775807:=by have:=HV8.out;omega
 go_wp2_with fail
 refine (mV _ _ _ (v8) _ hm9 (by omega) (by omega)).mono ?_
 rintro e w99 ⟨rfl,b9⟩
 obtain ⟨v9,hv9⟩:∃ z:Int,z = gM (v8) (an9):=⟨_,rfl⟩
 rw [← hv9]
 have HV9:Hid ((((an9:Nat):Int)≤v8∧v9 = v8 - (an9:Nat))∨(¬ ((an9:Nat):Int)≤v8∧v9 = -1)):=Lib.hid (by rw [hv9];unfold gM;split <;> omega)
 clear hv9
 obtain ⟨u9,vv9⟩:=bR b9
 have y9:=b9.size
 try simp only [World.size_alloc,World.size_setCell] at u9 vv9 y9
 have yy90:w.heap.size < w99.heap.size:=aP
 by_cases hn9:v9 < 0
 ·go_wp2
  go_ret
  exact ⟨bH (by rw [HS.out];have:=HV1.out;have:=HV2.out;have:=HV5.out;have:=HV6.out;have:=HV7.out;have:=HV8.out;have:=HV9.out;unfold gM;rw [if_neg (by omega)];try omega),bO⟩
 have hp9:0≤v9∧v9≤9223372036854775807:=by have:=HV9.out;omega
 go_wp2_with fail
 refine (mV _ _ _ (v9) _ hm10 (by omega) (by omega)).mono ?_
 rintro e w910 ⟨rfl,b10⟩
 obtain ⟨v10,hv10⟩:∃ z:Int,z = gM (v9) (an10):=⟨_,rfl⟩
 rw [← hv10]
 have HV10:Hid ((((an10:Nat):Int)≤v9∧v10 = v9 - (an10:Nat))∨(¬ ((an10:Nat):Int)≤v9∧v10 = -1)):=Lib.hid (by rw [hv10];unfold gM;split <;> omega)
 clear hv10
 obtain ⟨u10,vv10⟩:=bR b10
 have y10:=b10.size
 try simp only [World.size_alloc,World.size_setCell] at u10 vv10 y10
 have yy100:w.heap.size < w910.heap.size:=aP
 by_cases hn10:v10 < 0
 ·go_wp2
  go_ret
  exact ⟨bH (by rw [HS.out];have:=HV1.out;have:=HV2.out;have:=HV5.out;have:=HV6.out;have:=HV7.out;have:=HV8.out;have:=HV9.out;have:=HV10.out;unfold gM;rw [if_neg (by omega)];try omega),bO⟩
 have hp10:0≤v10∧v10≤9223372036854775807:=by have:=HV10.out;omega
 go_wp2_with fail
 refine (aO7 _ (x11,(x12,x13)) (v10) _ (by exact ⟨[_],[_,_],rfl,⟨_,_,_,rfl,as11.below bO⟩,⟨[_],[_],rfl,⟨rfl,aw12⟩,rfl⟩⟩) (by omega) (by omega)).mono ?_
 rintro e w911 ⟨rfl,b11⟩
 obtain ⟨v11,hv11⟩:∃ z:Int,z = gM (v10) (aW aM (x11,(x12,x13))):=⟨_,rfl⟩
 rw [← hv11]
 have HV11:Hid ((((aW aM (x11,(x12,x13)):Nat):Int)≤v10∧v11 = v10 - (aW aM (x11,(x12,x13)):Nat))∨(¬ ((aW aM (x11,(x12,x13)):Nat):Int)≤v10∧v11 = -1)):=Lib.hid (by rw [hv11];unfold gM;split <;> omega)
 clear hv11
 obtain ⟨u11,vv11⟩:=bR b11
 have y11:=b11.size
 try simp only [World.size_alloc,World.size_setCell] at u11 vv11 y11
 have yy110:w.heap.size < w911.heap.size:=aP
 by_cases hn11:v11 < 0
 ·go_wp2
  go_ret
  exact ⟨bH (by rw [HS.out];have:=HV1.out;have:=HV2.out;have:=HV5.out;have:=HV6.out;have:=HV7.out;have:=HV8.out;have:=HV9.out;have:=HV10.out;have:=HV11.out;unfold gM;rw [if_neg (by omega)];try omega),bO⟩
 have hp11:0≤v11∧v11≤9223372036854775807:=by have:=HV11.out;omega
 go_wp2
 go_ret
 exact ⟨bH (by rw [HS.out];have:=HV1.out;have:=HV2.out;have:=HV5.out;have:=HV6.out;have:=HV7.out;have:=HV8.out;have:=HV9.out;have:=HV10.out;have:=HV11.out;unfold gM;rw [if_pos (by omega)];try omega),bO⟩
theorem aS9 (ca:Array Value) (d:aA.D) (left:Int) (w:World) (ha:rd aA w ca.toList d) (h0:0≤left) (h2:left≤9223372036854775807) (h:((aW aA d:Nat):Int)≤left) :
  Calls Tryz.prog 111 #[.agg ca,.int .i64 left] w (dO (.int .i64 (left - (aW aA d:Nat))) w):=by
 have:=aDU ca d left w ha h0 h2
 rwa [jL h] at this
theorem aTG (ca:Array Value) (d:aA.D) (left:Int) (w:World) (ha:rd aA w ca.toList d) (h0:0≤left) (h2:left≤9223372036854775807) (h:¬ ((aW aA d:Nat):Int)≤left) :
  Calls Tryz.prog 111 #[.agg ca,.int .i64 left] w (dO (.int .i64 (-1)) w):=by
 have:=aDU ca d left w ha h0 h2
 rwa [jN h] at this
set_option maxHeartbeats 1000000 in
set_option maxRecDepth 100000 in
theorem aC0 (p:Option Addr) (len cap:Nat) (l:List aA.D) (left:Int) (w:World) (h:cM aA.n (rd aA w) w p len cap l) (h0:0≤left) (h2:left≤9223372036854775807) :
  Calls Tryz.prog 59 #[.slice p len cap,.int .i64 left] w (dO (.int .i64 (gM left (aW (.slice 121 aA) l))) w):=by
 have hm:len≤maxLen:=Nat.le_trans h.2.1 h.2.2.1
 obtain rfl:=h.lens
 unfold maxLen at hm
 have HS:Hid (aW (.slice 121 aA) l = l.length + (l.map (aW aA)).sum):=bI _ _ _
 by_cases hc:(l.length:Int)≤left
 rotate_left
 ·have hc2:(left - l.length < 0):=by omega
  clear h
  go_enter Tryz.func59,Tryz.ntmps59
  go_wp2
  go_ret
  exact ⟨bH (by (first | rw [HS.out] | skip);unfold gM;rw [if_neg (by omega)]),Below.refl _ _⟩
 go_enter Tryz.func59,Tryz.ntmps59
 go_wp2
 go_loopw [1,5] (fun q i wr=>∃ k:Nat,k≤l.length∧i = .int .i64 k∧∃ m:Int,q = .int .i64 m∧m = left - l.length - (((l.take k).map (aW aA)).sum:Nat)∧0≤m∧Below w.heap.size w wr) (fun _ i _=>l.length - (intOf i).toNat)
 case atStart=>exact ⟨0,by omega,rfl,_,rfl,by simp,by omega,Below.refl _ _⟩
 case round =>
  obtain ⟨k,hk,rfl,m,rfl,hm1,hm2,hb⟩:=hrel
  have hmb:m≤left:=by omega
  by_cases hlt:k < l.length
  ·obtain ⟨b,off,rfl,hlb,cs,hcs,hc1,hR⟩:=h.2.2.2.2 k hlt
   have hsum:=cH (aW aA) l k hlt
   have hsle:=cX (aW aA) l (k + 1)
   obtain ⟨x,hx⟩:∃ x,l[k] = x:=⟨_,rfl⟩
   rw [hx] at hR hsum
   have hR0:rd aA wr cs x:=cO (fun q hq=>hb.block q hq) _ _ _ hR
   obtain ⟨z,hz⟩:∃ z,aW aA x = z:=⟨_,rfl⟩
   obtain ⟨s0,hs0⟩:∃ z,((l.take k).map (aW aA)).sum = z:=⟨_,rfl⟩
   obtain ⟨s1,hs1⟩:∃ z,((l.take (k + 1)).map (aW aA)).sum = z:=⟨_,rfl⟩
   obtain ⟨s2,hs2⟩:∃ z,(l.map (aW aA)).sum = z:=⟨_,rfl⟩
   rw [hs0] at hsum hm1
   rw [hs1,hz] at hsum
   rw [hs1] at hsle
   rw [hs2] at hsle
   have HZ:=Lib.hid hz;have HR:=Lib.hid hR0;have H1:=Lib.hid hs1;have H2:=Lib.hid hs2;have HM:=Lib.hid hm1;have HU:=Lib.hid hsum;have HX:=Lib.hid hz
   obtain ⟨x0,⟨x1,⟨x2,⟨x3,⟨x4,⟨x5,⟨x6,⟨x7,⟨x8,⟨x9,⟨x10,⟨x11,⟨x12,x13⟩⟩⟩⟩⟩⟩⟩⟩⟩⟩⟩⟩⟩:=x
   obtain ⟨ap1,an1,aq1,ap2,an2,aq2,ap5,an5,aq5,ap6,an6,aq6,ap7,an7,aq7,ap8,an8,aq8,ap9,an9,aq9,ap10,an10,aq10,ap11,an11,aq11,rfl,aw0,as1,as2,as5,as6,as7,as8,as9,as10,as11,aw12⟩:=oS hR
   have c0:wr.cell? ⟨b,off + k * 14,none⟩ = some (.int .i64 x0):=(hb.cell hlb).trans (by have hh:=hc1 0 (by simp);rw [show Ty.n aA = 14 from rfl] at hh;simpa using hh)
   have c1:wr.cell? ⟨b,off + k * 14 + 1,none⟩ = some (.slice ap1 an1 aq1):=(hb.cell hlb).trans (by have hh:=hc1 1 (by simp);rw [show Ty.n aA = 14 from rfl] at hh;simpa using hh)
   have c2:wr.cell? ⟨b,off + k * 14 + 2,none⟩ = some (.slice ap2 an2 aq2):=(hb.cell hlb).trans (by have hh:=hc1 2 (by simp);rw [show Ty.n aA = 14 from rfl] at hh;simpa using hh)
   have c3:wr.cell? ⟨b,off + k * 14 + 3,none⟩ = some (.bool x3):=(hb.cell hlb).trans (by have hh:=hc1 3 (by simp);rw [show Ty.n aA = 14 from rfl] at hh;simpa using hh)
   have c4:wr.cell? ⟨b,off + k * 14 + 4,none⟩ = some (.bool x4):=(hb.cell hlb).trans (by have hh:=hc1 4 (by simp);rw [show Ty.n aA = 14 from rfl] at hh;simpa using hh)
   have c5:wr.cell? ⟨b,off + k * 14 + 5,none⟩ = some (.slice ap5 an5 aq5):=(hb.cell hlb).trans (by have hh:=hc1 5 (by simp);rw [show Ty.n aA = 14 from rfl] at hh;simpa using hh)
   have c6:wr.cell? ⟨b,off + k * 14 + 6,none⟩ = some (.slice ap6 an6 aq6):=(hb.cell hlb).trans (by have hh:=hc1 6 (by simp);rw [show Ty.n aA = 14 from rfl] at hh;simpa using hh)
   have c7:wr.cell? ⟨b,off + k * 14 + 7,none⟩ = some (.slice ap7 an7 aq7):=(hb.cell hlb).trans (by have hh:=hc1 7 (by simp);rw [show Ty.n aA = 14 from rfl] at hh;simpa using hh)
   have c8:wr.cell? ⟨b,off + k * 14 + 8,none⟩ = some (.slice ap8 an8 aq8):=(hb.cell hlb).trans (by have hh:=hc1 8 (by simp);rw [show Ty.n aA = 14 from rfl] at hh;simpa using hh)
   have c9:wr.cell? ⟨b,off + k * 14 + 9,none⟩ = some (.slice ap9 an9 aq9):=(hb.cell hlb).trans (by have hh:=hc1 9 (by simp);rw [show Ty.n aA = 14 from rfl] at hh;simpa using hh)
   have c10:wr.cell? ⟨b,off + k * 14 + 10,none⟩ = some (.slice ap10 an10 aq10):=(hb.cell hlb).trans (by have hh:=hc1 10 (by simp);rw [show Ty.n aA = 14 from rfl] at hh;simpa using hh)
   have c11:wr.cell? ⟨b,off + k * 14 + 11,none⟩ = some (.slice ap11 an11 aq11):=(hb.cell hlb).trans (by have hh:=hc1 11 (by simp);rw [show Ty.n aA = 14 from rfl] at hh;simpa using hh)
   have c12:wr.cell? ⟨b,off + k * 14 + 12,none⟩ = some (.int .i64 x12):=(hb.cell hlb).trans (by have hh:=hc1 12 (by simp);rw [show Ty.n aA = 14 from rfl] at hh;simpa using hh)
   have c13:wr.cell? ⟨b,off + k * 14 + 13,none⟩ = some (.bool x13):=(hb.cell hlb).trans (by have hh:=hc1 13 (by simp);rw [show Ty.n aA = 14 from rfl] at hh;simpa using hh)
   clear h hc1 hcs hx hR0 hz hs0 hs1 hs2 hm1 hsum
   by_cases hfit:(z:Int)≤m
   ·go_wp2_with fail
    refine (aS9 _ (x0,(x1,(x2,(x3,(x4,(x5,(x6,(x7,(x8,(x9,(x10,(x11,(x12,x13))))))))))))) _ _ (by exact HR.out) (by omega) (by omega) (by rw [HZ.out];omega)).mono ?_
    rintro e w3 ⟨rfl,b3⟩
    rw [HZ.out]
    have hmz:¬ (m - z < 0):=by omega
    go_wp2
    go_roundw
    case rel=>exact ⟨k + 1,by omega,by go_num,_,rfl,by rw [H1.out];have:=HM.out;have:=HU.out;omega,by omega,hb.trans (b3.mono hb.size)⟩
    case measure=>simp [intOf];omega
   ·go_wp2_with fail
    refine (aTG _ (x0,(x1,(x2,(x3,(x4,(x5,(x6,(x7,(x8,(x9,(x10,(x11,(x12,x13))))))))))))) _ _ (by exact HR.out) (by omega) (by omega) (by rw [HZ.out];omega)).mono ?_
    rintro e w3 ⟨rfl,b3⟩
    go_wp2
    go_ret
    exact ⟨bH (by rw [HS.out,H2.out];unfold gM;rw [if_neg (by have:=HM.out;have:=HU.out;omega)]),hb.trans (b3.mono hb.size)⟩
  ·clear h
   have HM:=Lib.hid hm1;clear hm1
   go_wp2
   go_ret
   obtain rfl:k = l.length:=by omega
   have hm1:=HM.out
   rw [List.take_length] at hm1
   exact ⟨bH (by (first | rw [HS.out] | skip);unfold gM;rw [if_pos (by omega)];try omega),hb⟩
theorem wT (p:Option Addr) (len cap:Nat) (l:List aA.D) (left:Int) (w:World) (ha:cM aA.n (rd aA w) w p len cap l) (h0:0≤left) (h2:left≤9223372036854775807) (h:((aW (.slice 121 aA) l:Nat):Int)≤left) :
  Calls Tryz.prog 59 #[.slice p len cap,.int .i64 left] w (dO (.int .i64 (left - (aW (.slice 121 aA) l:Nat))) w):=by
 have:=aC0 p len cap l left w ha h0 h2
 rwa [jL h] at this
theorem aNR (p:Option Addr) (len cap:Nat) (l:List aA.D) (left:Int) (w:World) (ha:cM aA.n (rd aA w) w p len cap l) (h0:0≤left) (h2:left≤9223372036854775807) (h:¬ ((aW (.slice 121 aA) l:Nat):Int)≤left) :
  Calls Tryz.prog 59 #[.slice p len cap,.int .i64 left] w (dO (.int .i64 (-1)) w):=by
 have:=aC0 p len cap l left w ha h0 h2
 rwa [jN h] at this
set_option maxHeartbeats 1000000 in
set_option maxRecDepth 100000 in
theorem aON (ca cb:Array Value) (d:aA.D) (w:World) (ha:rd aA w ca.toList d) (hb:rd aA w cb.toList d) :
  Calls Tryz.prog 131 #[.agg ca,.agg cb] w (dO (.bool true) w):=by
 obtain ⟨x0,⟨x1,⟨x2,⟨x3,⟨x4,⟨x5,⟨x6,⟨x7,⟨x8,⟨x9,⟨x10,⟨x11,⟨x12,x13⟩⟩⟩⟩⟩⟩⟩⟩⟩⟩⟩⟩⟩:=d
 obtain ⟨ap1,an1,aq1,ap2,an2,aq2,ap5,an5,aq5,ap6,an6,aq6,ap7,an7,aq7,ap8,an8,aq8,ap9,an9,aq9,ap10,an10,aq10,ap11,an11,aq11,ahcs,aw0,as1,as2,as5,as6,as7,as8,as9,as10,as11,aw12⟩:=oS ha
 obtain ⟨bp1,bn1,bq1,bp2,bn2,bq2,bp5,bn5,bq5,bp6,bn6,bq6,bp7,bn7,bq7,bp8,bn8,bq8,bp9,bn9,bq9,bp10,bn10,bq10,bp11,bn11,bq11,bhcs,bw0,bs1,bs2,bs5,bs6,bs7,bs8,bs9,bs10,bs11,bw12⟩:=oS hb
 obtain rfl:ca = #[.int .i64 x0,.slice ap1 an1 aq1,.slice ap2 an2 aq2,.bool x3,.bool x4,.slice ap5 an5 aq5,.slice ap6 an6 aq6,.slice ap7 an7 aq7,.slice ap8 an8 aq8,.slice ap9 an9 aq9,.slice ap10 an10 aq10,.slice ap11 an11 aq11,.int .i64 x12,.bool x13]:=cA ahcs
 obtain rfl:cb = #[.int .i64 x0,.slice bp1 bn1 bq1,.slice bp2 bn2 bq2,.bool x3,.bool x4,.slice bp5 bn5 bq5,.slice bp6 bn6 bq6,.slice bp7 bn7 bq7,.slice bp8 bn8 bq8,.slice bp9 bn9 bq9,.slice bp10 bn10 bq10,.slice bp11 bn11 bq11,.int .i64 x12,.bool x13]:=cA bhcs
 clear ahcs bhcs
 go_enter Tryz.func131,Tryz.ntmps131
 go_wp2_with fail
 refine (aSC _ _ _ _ _ _ x1 _ (by exact as1.below bO) (by exact bs1.below bO)).mono ?_
 rintro e w91 ⟨rfl,b1⟩
 obtain ⟨u1,v1⟩:=bR b1
 have y1:=b1.size
 try simp only [World.size_alloc,World.size_setCell] at u1 v1 y1
 have yy10:w.heap.size < w91.heap.size:=aP
 have yy11:w.heap.size + 1 < w91.heap.size:=aP
 go_wp2_with fail
 refine (aXP _ _ _ _ _ _ x2 _ (by exact as2.below bO) (by exact bs2.below bO)).mono ?_
 rintro e w92 ⟨rfl,b2⟩
 obtain ⟨u2,v2⟩:=bR b2
 have y2:=b2.size
 try simp only [World.size_alloc,World.size_setCell] at u2 v2 y2
 have yy20:w.heap.size < w92.heap.size:=aP
 have yy21:w.heap.size + 1 < w92.heap.size:=aP
 go_wp2_with fail
 refine (aKX _ _ _ _ _ _ x5 _ (by exact as5.below bO) (by exact bs5.below bO)).mono ?_
 rintro e w95 ⟨rfl,b5⟩
 obtain ⟨u5,v5⟩:=bR b5
 have y5:=b5.size
 try simp only [World.size_alloc,World.size_setCell] at u5 v5 y5
 have yy50:w.heap.size < w95.heap.size:=aP
 have yy51:w.heap.size + 1 < w95.heap.size:=aP
 go_wp2_with fail
 refine (aA2 _ _ _ _ _ _ x6 _ (by exact as6.below bO) (by exact bs6.below bO)).mono ?_
 rintro e w96 ⟨rfl,b6⟩
 obtain ⟨u6,v6⟩:=bR b6
 have y6:=b6.size
 try simp only [World.size_alloc,World.size_setCell] at u6 v6 y6
 have yy60:w.heap.size < w96.heap.size:=aP
 have yy61:w.heap.size + 1 < w96.heap.size:=aP
 go_wp2_with fail
 refine (hN _ _ _ _ _ _ x7 _ (by exact as7.below bO) (by exact bs7.below bO)).mono ?_
 rintro e w97 ⟨rfl,b7⟩
 obtain ⟨u7,v7⟩:=bR b7
 have y7:=b7.size
 try simp only [World.size_alloc,World.size_setCell] at u7 v7 y7
 have yy70:w.heap.size < w97.heap.size:=aP
 have yy71:w.heap.size + 1 < w97.heap.size:=aP
 go_wp2_with fail
 refine (hN _ _ _ _ _ _ x8 _ (by exact as8.below bO) (by exact bs8.below bO)).mono ?_
 rintro e w98 ⟨rfl,b8⟩
 obtain ⟨u8,v8⟩:=bR b8
 have y8:=b8.size
 try simp only [World.size_alloc,World.size_setCell] at u8 v8 y8
 have yy80:w.heap.size < w98.heap.size:=aP
 have yy81:w.heap.size + 1 < w98.heap.size:=aP
 go_wp2_with fail
 refine (hN _ _ _ _ _ _ x9 _ (by exact as9.below bO) (by exact bs9.below bO)).mono ?_
 rintro e w99 ⟨rfl,b9⟩
 obtain ⟨u9,v9⟩:=bR b9
 have y9:=b9.size
 try simp only [World.size_alloc,World.size_setCell] at u9 v9 y9
 have yy90:w.heap.size < w99.heap.size:=aP
 have yy91:w.heap.size + 1 < w99.heap.size:=aP
 go_wp2_with fail
 refine (hN _ _ _ _ _ _ x10 _ (by exact as10.below bO) (by exact bs10.below bO)).mono ?_
 rintro e w910 ⟨rfl,b10⟩
 obtain ⟨u10,v10⟩:=bR b10
 have y10:=b10.size
 try simp only [World.size_alloc,World.size_setCell] at u10 v10 y10
 have yy100:w.heap.size < w910.heap.size:=aP
 have yy101:w.heap.size + 1 < w910.heap.size:=aP
 go_wp2_with fail
 refine (aO0 _ _ (x11,(x12,x13)) _ (by exact ⟨[_],[_,_],rfl,⟨_,_,_,rfl,as11.below bO⟩,⟨[_],[_],rfl,⟨rfl,aw12⟩,rfl⟩⟩) (by exact ⟨[_],[_,_],rfl,⟨_,_,_,rfl,bs11.below bO⟩,⟨[_],[_],rfl,⟨rfl,bw12⟩,rfl⟩⟩)).mono ?_
 rintro e w911 ⟨rfl,b11⟩
 obtain ⟨u11,v11⟩:=bR b11
 have y11:=b11.size
 try simp only [World.size_alloc,World.size_setCell] at u11 v11 y11
 have yy110:w.heap.size < w911.heap.size:=aP
 have yy111:w.heap.size + 1 < w911.heap.size:=aP
 go_wp2
 go_ret
 exact ⟨rfl,bO⟩
set_option maxHeartbeats 1000000 in
set_option maxRecDepth 100000 in
theorem aK8 (p q:Option Addr) (len cap len' cap':Nat) (l:List aA.D) (w:World) (h:cM aA.n (rd aA w) w p len cap l) (h':cM aA.n (rd aA w) w q len' cap' l) :
  Calls Tryz.prog 72 #[.slice p len cap,.slice q len' cap'] w (dO (.bool true) w):=by
 obtain rfl:=h.lens
 obtain rfl:=h'.lens
 have hmx:l.length≤maxLen:=by have:=h.2.1;have:=h.2.2.1;omega
 unfold maxLen at hmx
 go_enter Tryz.func72,Tryz.ntmps72
 go_wp2
 go_loopw [5] (fun i wr=>∃ k:Nat,k≤l.length∧i = .int .i64 k∧Below w.heap.size w wr) (fun i _=>l.length - (intOf i).toNat)
 case atStart=>exact ⟨0,by omega,rfl,Below.refl _ _⟩
 case round =>
  obtain ⟨k,hk,rfl,hb⟩:=hrel
  by_cases hlt:k < l.length
  ·obtain ⟨b,off,rfl,hlb,cs,hcs,hc,hR⟩:=h.2.2.2.2 k hlt
   obtain ⟨b2,off2,rfl,hlb2,cs2,hcs2,hc2,hR2⟩:=h'.2.2.2.2 k hlt
   obtain ⟨x,hx⟩:∃ x,l[k] = x:=⟨_,rfl⟩
   rw [hx] at hR hR2
   have hR0:rd aA wr.drew cs x:=cO (fun q hq=>hb.block q hq) _ _ _ hR
   have hR20:rd aA wr.drew cs2 x:=cO (fun q hq=>hb.block q hq) _ _ _ hR2
   obtain ⟨x0,⟨x1,⟨x2,⟨x3,⟨x4,⟨x5,⟨x6,⟨x7,⟨x8,⟨x9,⟨x10,⟨x11,⟨x12,x13⟩⟩⟩⟩⟩⟩⟩⟩⟩⟩⟩⟩⟩:=x
   obtain ⟨ap1,an1,aq1,ap2,an2,aq2,ap5,an5,aq5,ap6,an6,aq6,ap7,an7,aq7,ap8,an8,aq8,ap9,an9,aq9,ap10,an10,aq10,ap11,an11,aq11,rfl,aw0,as1,as2,as5,as6,as7,as8,as9,as10,as11,aw12⟩:=oS hR
   obtain ⟨bp1,bn1,bq1,bp2,bn2,bq2,bp5,bn5,bq5,bp6,bn6,bq6,bp7,bn7,bq7,bp8,bn8,bq8,bp9,bn9,bq9,bp10,bn10,bq10,bp11,bn11,bq11,rfl,bw0,bs1,bs2,bs5,bs6,bs7,bs8,bs9,bs10,bs11,bw12⟩:=oS hR2
   have c0:wr.cell? ⟨b,off + k * 14,none⟩ = some (.int .i64 x0):=(hb.cell hlb).trans (by have hh:=hc 0 (by simp);rw [show Ty.n aA = 14 from rfl] at hh;simpa using hh)
   have c1:wr.cell? ⟨b,off + k * 14 + 1,none⟩ = some (.slice ap1 an1 aq1):=(hb.cell hlb).trans (by have hh:=hc 1 (by simp);rw [show Ty.n aA = 14 from rfl] at hh;simpa using hh)
   have c2:wr.cell? ⟨b,off + k * 14 + 2,none⟩ = some (.slice ap2 an2 aq2):=(hb.cell hlb).trans (by have hh:=hc 2 (by simp);rw [show Ty.n aA = 14 from rfl] at hh;simpa using hh)
   have c3:wr.cell? ⟨b,off + k * 14 + 3,none⟩ = some (.bool x3):=(hb.cell hlb).trans (by have hh:=hc 3 (by simp);rw [show Ty.n aA = 14 from rfl] at hh;simpa using hh)
   have c4:wr.cell? ⟨b,off + k * 14 + 4,none⟩ = some (.bool x4):=(hb.cell hlb).trans (by have hh:=hc 4 (by simp);rw [show Ty.n aA = 14 from rfl] at hh;simpa using hh)
   have c5:wr.cell? ⟨b,off + k * 14 + 5,none⟩ = some (.slice ap5 an5 aq5):=(hb.cell hlb).trans (by have hh:=hc 5 (by simp);rw [show Ty.n aA = 14 from rfl] at hh;simpa using hh)
   have c6:wr.cell? ⟨b,off + k * 14 + 6,none⟩ = some (.slice ap6 an6 aq6):=(hb.cell hlb).trans (by have hh:=hc 6 (by simp);rw [show Ty.n aA = 14 from rfl] at hh;simpa using hh)
   have c7:wr.cell? ⟨b,off + k * 14 + 7,none⟩ = some (.slice ap7 an7 aq7):=(hb.cell hlb).trans (by have hh:=hc 7 (by simp);rw [show Ty.n aA = 14 from rfl] at hh;simpa using hh)
   have c8:wr.cell? ⟨b,off + k * 14 + 8,none⟩ = some (.slice ap8 an8 aq8):=(hb.cell hlb).trans (by have hh:=hc 8 (by simp);rw [show Ty.n aA = 14 from rfl] at hh;simpa using hh)
   have c9:wr.cell? ⟨b,off + k * 14 + 9,none⟩ = some (.slice ap9 an9 aq9):=(hb.cell hlb).trans (by have hh:=hc 9 (by simp);rw [show Ty.n aA = 14 from rfl] at hh;simpa using hh)
   have c10:wr.cell? ⟨b,off + k * 14 + 10,none⟩ = some (.slice ap10 an10 aq10):=(hb.cell hlb).trans (by have hh:=hc 10 (by simp);rw [show Ty.n aA = 14 from rfl] at hh;simpa using hh)
   have c11:wr.cell? ⟨b,off + k * 14 + 11,none⟩ = some (.slice ap11 an11 aq11):=(hb.cell hlb).trans (by have hh:=hc 11 (by simp);rw [show Ty.n aA = 14 from rfl] at hh;simpa using hh)
   have c12:wr.cell? ⟨b,off + k * 14 + 12,none⟩ = some (.int .i64 x12):=(hb.cell hlb).trans (by have hh:=hc 12 (by simp);rw [show Ty.n aA = 14 from rfl] at hh;simpa using hh)
   have c13:wr.cell? ⟨b,off + k * 14 + 13,none⟩ = some (.bool x13):=(hb.cell hlb).trans (by have hh:=hc 13 (by simp);rw [show Ty.n aA = 14 from rfl] at hh;simpa using hh)
   have d0:wr.cell? ⟨b2,off2 + k * 14,none⟩ = some (.int .i64 x0):=(hb.cell hlb2).trans (by have hh:=hc2 0 (by simp);rw [show Ty.n aA = 14 from rfl] at hh;simpa using hh)
   have d1:wr.cell? ⟨b2,off2 + k * 14 + 1,none⟩ = some (.slice bp1 bn1 bq1):=(hb.cell hlb2).trans (by have hh:=hc2 1 (by simp);rw [show Ty.n aA = 14 from rfl] at hh;simpa using hh)
   have d2:wr.cell? ⟨b2,off2 + k * 14 + 2,none⟩ = some (.slice bp2 bn2 bq2):=(hb.cell hlb2).trans (by have hh:=hc2 2 (by simp);rw [show Ty.n aA = 14 from rfl] at hh;simpa using hh)
   have d3:wr.cell? ⟨b2,off2 + k * 14 + 3,none⟩ = some (.bool x3):=(hb.cell hlb2).trans (by have hh:=hc2 3 (by simp);rw [show Ty.n aA = 14 from rfl] at hh;simpa using hh)
   have d4:wr.cell? ⟨b2,off2 + k * 14 + 4,none⟩ = some (.bool x4):=(hb.cell hlb2).trans (by have hh:=hc2 4 (by simp);rw [show Ty.n aA = 14 from rfl] at hh;simpa using hh)
   have d5:wr.cell? ⟨b2,off2 + k * 14 + 5,none⟩ = some (.slice bp5 bn5 bq5):=(hb.cell hlb2).trans (by have hh:=hc2 5 (by simp);rw [show Ty.n aA = 14 from rfl] at hh;simpa using hh)
   have d6:wr.cell? ⟨b2,off2 + k * 14 + 6,none⟩ = some (.slice bp6 bn6 bq6):=(hb.cell hlb2).trans (by have hh:=hc2 6 (by simp);rw [show Ty.n aA = 14 from rfl] at hh;simpa using hh)
   have d7:wr.cell? ⟨b2,off2 + k * 14 + 7,none⟩ = some (.slice bp7 bn7 bq7):=(hb.cell hlb2).trans (by have hh:=hc2 7 (by simp);rw [show Ty.n aA = 14 from rfl] at hh;simpa using hh)
   have d8:wr.cell? ⟨b2,off2 + k * 14 + 8,none⟩ = some (.slice bp8 bn8 bq8):=(hb.cell hlb2).trans (by have hh:=hc2 8 (by simp);rw [show Ty.n aA = 14 from rfl] at hh;simpa using hh)
   have d9:wr.cell? ⟨b2,off2 + k * 14 + 9,none⟩ = some (.slice bp9 bn9 bq9):=(hb.cell hlb2).trans (by have hh:=hc2 9 (by simp);rw [show Ty.n aA = 14 from rfl] at hh;simpa using hh)
   have d10:wr.cell? ⟨b2,off2 + k * 14 + 10,none⟩ = some (.slice bp10 bn10 bq10):=(hb.cell hlb2).trans (by have hh:=hc2 10 (by simp);rw [show Ty.n aA = 14 from rfl] at hh;simpa using hh)
   have d11:wr.cell? ⟨b2,off2 + k * 14 + 11,none⟩ = some (.slice bp11 bn11 bq11):=(hb.cell hlb2).trans (by have hh:=hc2 11 (by simp);rw [show Ty.n aA = 14 from rfl] at hh;simpa using hh)
   have d12:wr.cell? ⟨b2,off2 + k * 14 + 12,none⟩ = some (.int .i64 x12):=(hb.cell hlb2).trans (by have hh:=hc2 12 (by simp);rw [show Ty.n aA = 14 from rfl] at hh;simpa using hh)
   have d13:wr.cell? ⟨b2,off2 + k * 14 + 13,none⟩ = some (.bool x13):=(hb.cell hlb2).trans (by have hh:=hc2 13 (by simp);rw [show Ty.n aA = 14 from rfl] at hh;simpa using hh)
   have HR:=Lib.hid hR0;have HR2:=Lib.hid hR20
   clear h h' hc hc2 hx hcs hcs2 hR0 hR20
   go_wp2
   go_still_tail 8,(by kernel_rfl)
   change wpList _ _ _ _ _ wr.drew
   have hb2:Below w.heap.size w wr.drew:=hb.drew
   generalize wr.drew = w2 at hb2 HR HR2 ⊢
   go_wp2_with fail
   refine (aON _ _ (x0,(x1,(x2,(x3,(x4,(x5,(x6,(x7,(x8,(x9,(x10,(x11,(x12,x13))))))))))))) _ (by exact HR.out) (by exact HR2.out)).mono ?_
   rintro e w3 ⟨rfl,b3⟩
   go_wp2
   go_roundw
   case rel=>exact ⟨k + 1,by omega,by go_num,hb2.trans (b3.mono hb2.size)⟩
   case measure=>simp [intOf];omega
  ·clear h h'
   go_wp2
   go_ret
   exact ⟨rfl,hb⟩
end Go.Proofs.YtmfpkkbhnmkfdaaGreat
