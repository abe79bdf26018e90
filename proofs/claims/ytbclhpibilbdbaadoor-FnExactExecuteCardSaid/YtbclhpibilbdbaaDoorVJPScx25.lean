import Derived.Test.YtbclhpibilbdbaaDoorVJPScx0
import Derived.Test.YtbclhpibilbdbaaDoorVJPScx17
import Derived.Test.YtbclhpibilbdbaaDoorVJPScx24
namespace Go.Proofs.YtbclhpibilbdbaaDoor.PSc
open Go.RowKit Go.Proofs.YtbclhpibilbdbaaDoorW.PrintWords Go.Proofs.YtbclhpibilbdbaaDoorW.PrintLast Go.Proofs.YtbclhpibilbdbaaDoorW.PrintMore
attribute [local go_sem] max2_int min2_int max_two min_two max_three min_three max_four min_four
set_option linter.unusedVariables false
set_option linter.unusedSimpArgs false

def laws_FnExactExecute.f (k : Nat) (a0 : ByteArray) : Option (Bool) := if (a0.size : Int) > 1048576 then (some true) else ((spec_Execute.f k a0).bind fun t469 => ((impl_Execute.f k a0).bind fun t470 => (if t470.toList = t469.toList then (some true) else (some false))))
set_option maxHeartbeats 8000000 in
set_option maxRecDepth 100000 in
theorem laws_FnExactExecute.calls (k : Nat) (a0 : ByteArray) (r : Bool) (w : World) (h : laws_FnExactExecute.f k a0 = some r) (hG : Sh.GW w) :
    Calls Tryd.prog 6 #[.string a0] w fun e w' => e = .returned (.bool r) ∧ Below w.heap.size w w' := by
 have HG := Ae_q hG
 clear hG
 have HB := Ae_q (bR_q w.heap.size w)
 have H : (if (a0.size : Int) > 1048576 then (some true) else ((spec_Execute.f k a0).bind fun t469 => ((impl_Execute.f k a0).bind fun t470 => (if t470.toList = t469.toList then (some true) else (some false))))) = some r := h
 clear h
 by_cases c2 : (a0.size : Int) > 1048576
 ·rw [if_pos c2] at H
  have c2b0 : decide (1048576 < (a0.size : Int)) = true := dT_q c2
  have c2b1 : decide (1048576 < a0.size) = true := dT_q (by omega)
  clear c2
  obtain rfl := oI_q H
  go_enter Tryd.func6, Tryd.ntmps6
  go_wp2
  go_ret
  exact ⟨m3_q, bel HB.out⟩
 rw [if_neg c2] at H
 have c2b0 : decide (1048576 < (a0.size : Int)) = false := dF_q c2
 have c2b1 : decide (1048576 < a0.size) = false := dF_q (by omega)
 clear c2
 replace H := oB_q.mp H
 obtain ⟨t469, A30, H⟩ := H
 replace H : ((impl_Execute.f k a0).bind fun t470 => (if t470.toList = t469.toList then (some true) else (some false))) = some r := H
 have A3 := Ae_q A30
 clear A30
 replace H := oB_q.mp H
 obtain ⟨t470, A40, H⟩ := H
 replace H : (if t470.toList = t469.toList then (some true) else (some false)) = some r := H
 have A4 := Ae_q A40
 clear A40
 by_cases c5 : t470.toList = t469.toList
 ·rw [if_pos c5] at H
  have c5b0 : (t470.toList == t469.toList) = true := beq_iff_eq.mpr c5
  have c5b1 : (t470.toList != t469.toList) = false := nE_q.mpr c5
  clear c5
  obtain rfl := oI_q H
  go_enter Tryd.func6, Tryd.ntmps6
  go_wp2_with (first | ((first | ((with_reducible refine gC_q (f := 14) rfl ?_); refine gL_q (some 9) rfl rfl Tryd.func14 m6_q rfl #[.string a0] rfl m0_q ?_; (with_reducible refine (spec_Execute.calls k a0 t469 _ A3.out).mono ?_)) | ((with_reducible refine gC_q (f := 13) rfl ?_); refine gL_q (some 11) rfl rfl Tryd.func13 m6_q rfl #[.string a0] rfl m0_q ?_; (with_reducible refine (impl_Execute.calls k a0 t470 _ A4.out m29_q).mono ?_))); rintro e w' ⟨rfl, hb⟩; refine ⟨_, rfl, ?_⟩; replace HB := Ae_q (bT_q (bel HB.out) hb); (try clear hb); (try clear hb2); (try clear hk); (try clear hi)))
  go_ret
  exact ⟨m3_q, bel HB.out⟩
 rw [if_neg c5] at H
 have c5b0 : (t470.toList == t469.toList) = false := fN_q.mpr c5
 have c5b1 : (t470.toList != t469.toList) = true := nI_q.mpr c5
 obtain rfl := oI_q H
 go_enter Tryd.func6, Tryd.ntmps6
 go_wp2_with (first | ((first | ((with_reducible refine gC_q (f := 14) rfl ?_); refine gL_q (some 9) rfl rfl Tryd.func14 m6_q rfl #[.string a0] rfl m0_q ?_; (with_reducible refine (spec_Execute.calls k a0 t469 _ A3.out).mono ?_)) | ((with_reducible refine gC_q (f := 13) rfl ?_); refine gL_q (some 11) rfl rfl Tryd.func13 m6_q rfl #[.string a0] rfl m0_q ?_; (with_reducible refine (impl_Execute.calls k a0 t470 _ A4.out m29_q).mono ?_))); rintro e w' ⟨rfl, hb⟩; refine ⟨_, rfl, ?_⟩; replace HB := Ae_q (bT_q (bel HB.out) hb); (try clear hb); (try clear hb2); (try clear hk); (try clear hi)))
 go_ret
 exact ⟨m3_q, bel HB.out⟩

def laws_FnExactExecute.Pure : Prop := ∀ (a0 : ByteArray), a0.size ≤ 140737488351232 → ∃ k, laws_FnExactExecute.f k a0 = some true
theorem laws_FnExactExecute.walk (P : laws_FnExactExecute.Pure) (a0 : ByteArray) (w : World) (hG : Sh.GW w) (w0 : a0.size ≤ 140737488351232) :
    Calls Tryd.prog 6 #[.string a0] w fun e w' => e = .returned (.bool true) ∧ Below w.heap.size w w' := by
 obtain ⟨k, h⟩ := P a0 w0
 refine (laws_FnExactExecute.calls k a0 true w h hG).mono ?_
 rintro e w' ⟨rfl, hd⟩
 exact ⟨rfl, hd⟩

end Go.Proofs.YtbclhpibilbdbaaDoor.PSc
