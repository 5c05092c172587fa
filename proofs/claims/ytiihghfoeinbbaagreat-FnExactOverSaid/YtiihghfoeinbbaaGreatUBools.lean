/- UBools: lemmas. No conditions. -/
import Derived.Test.YtiihghfoeinbbaaGreatCe
import Derived.Test.YtiihghfoeinbbaaGreatBools
namespace Go.Proofs.YtiihghfoeinbbaaGreat
open Go.ChangeShapes Go.WideShapes Go.ChangeAt Go.RowKit
set_option linter.unusedVariables false
set_option linter.unusedSimpArgs false
theorem aPP (p:Option Addr) (len cap:Nat) (k0:Int) (l:List Bool) (bl:List Nat) (w:World) (h:Un bX w [.slice p len cap] l bl) (hnd:bl.Nodup) (h0:0≤k0) (h1:k0+l.length≤1000000000000) :
  Calls Tryz.prog 95 #[.slice p len cap,.int .i64 k0] w (aU6 bX w [.slice p len cap] (mk bX l k0) bl (k0+(iP bX l:Int))):=by
 obtain ⟨rfl,hmx⟩:=aJO h
 have HL:=Lib.hid (aHT l k0)
 unfold maxLen at hmx
 go_enter Tryz.func95,Tryz.ntmps95
 go_wp2
 go_loopw [1,5] (fun q i wr=>∃ k:Nat,k≤l.length∧i = .int .i64 k∧q = .int .i64 (k0+k)∧Only bl w wr∧Un bX wr [.slice p l.length cap] ((mk bX l k0:List Bool).take k++l.drop k) bl) (fun _ i _=>l.length - (intOf i).toNat)
 case atStart=>exact ⟨0,by omega,rfl,by simp,Only.refl _ _,by simpa using h⟩
 case round =>
  obtain ⟨k,hk,rfl,rfl,hb,hf⟩:=hrel
  clear h
  by_cases hlt:k<l.length
  ·have hkk:k<((mk bX l k0:List Bool).take k++l.drop k).length:=by simp only[List.length_append,List.length_take,List.length_drop,HL.out];omega
   obtain ⟨b,cap',c,bk,hv,hbm,-,hfz,hcl,hc,hR,-,-,-,-,hU⟩:=aR5 hf hnd k hkk
   simp only[Value.slice.injEq] at hv
   obtain ⟨rfl,-,-⟩:=hv
   obtain ⟨rfl,rfl⟩:=hR
   have c1:wr.cell? ⟨b,k,none⟩=some (.bool l[k]):=by
    have:=hc 0 (by simp)
    simp only[Ty.n,Nat.mul_one,Nat.add_zero,List.getElem_cons_zero] at this
    rw[this,aFC _ _ _ hlt HL.out]
   have c2:=hfz k
   have HU:=Lib.hid (hU 0 (.bool ((k0+k) % 3==0)) ((k0+k) % 3==0) (by simp) ⟨rfl,rfl⟩)
   have HM:=Lib.hid ((bGC l k0 k hlt).trans (show decide ((k0+(k:Int)) % 3=0)=((k0+(k:Int)) % 3==0) from rfl))
   clear hU hc hfz hf
   go_wp2
   go_roundw
   case rel =>
    refine ⟨k+1,by omega,by go_num,by go_num,hb.setCell hbm _,?_⟩
    have h2:=HU.out
    rw[aEV _ _ _ hlt HL.out _ HM.out] at h2
    simp only[Ty.n,Nat.mul_one,Nat.add_zero] at h2
    exact h2
   case measure=>simp[intOf];omega
  ·go_wp2
   go_ret
   obtain rfl:k=l.length:=by omega
   refine ⟨dC (by rw[aNC]),?_,hb⟩
   have e1:(mk bX l k0:List Bool).take l.length++l.drop l.length=mk bX l k0:=by
    rw[List.drop_length,List.append_nil,List.take_of_length_le (by rw[HL.out];exact Nat.le_refl _)]
   rw[e1] at hf
   exact hf
end Go.Proofs.YtiihghfoeinbbaaGreat
