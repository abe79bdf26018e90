import Derived.Test.YtbclhpibilbdbaaDoorVBPScx0
import Derived.Test.YtbclhpibilbdbaaDoorVBPScx17
import Derived.Test.YtbclhpibilbdbaaDoorVBPScx24
import Derived.Test.YtbclhpibilbdbaaDoorVBPScx27
namespace Go.Proofs.YtbclhpibilbdbaaDoor.PSc
open Go.RowKit Go.Proofs.YtbclhpibilbdbaaDoorW.PrintWords Go.Proofs.YtbclhpibilbdbaaDoorW.PrintLast Go.Proofs.YtbclhpibilbdbaaDoorW.PrintMore
attribute [local go_sem] max2_int min2_int max_two min_two max_three min_three max_four min_four
set_option linter.unusedVariables false
set_option linter.unusedSimpArgs false

def laws_FnScript.f (k : Nat) (l0 : List Int) : Option (Bool) := if (l0.length : Int) > 1048576 then (some true) else ((spec_DrawExecute.f k l0).bind fun t539 => ((impl_Execute.f k t539).bind fun t540 => ((spec_Execute.f k t539).bind fun t541 => (if t540.toList = t541.toList then (if (t539.size : Int) > 600 then (some (t540.toList == ([116, 111, 111, 32, 108, 111, 110, 103, 10] : List UInt8))) else ((impl_Execute.f k (⟨#[]⟩ : ByteArray)).bind fun t542 => (if t542.toList = ([101, 110, 100, 10] : List UInt8) then (some (decide ((t540.size : Int) > 0))) else (some false)))) else (some (t540.toList == t541.toList))))))
set_option maxHeartbeats 8000000 in
set_option maxRecDepth 100000 in
theorem laws_FnScript.calls (k : Nat) (A0 : Option Addr) (c0 : Nat) (l0 : List Int) (r : Bool) (w : World) (hr0 : Kd.C (Kd.int .u8) w A0 l0.length l0) (hc0 : l0.length ≤ c0) (h : laws_FnScript.f k l0 = some r) (hG : Sh.GW w) :
    Calls Tryd.prog 7 #[.slice A0 l0.length c0] w fun e w' => e = .returned (.bool r) ∧ Below w.heap.size w w' := by
 have HG := Ae_q hG
 clear hG
 have HR0 := Ae_q hr0
 have HC0 := Ae_q hc0
 clear hr0 hc0
 have HB := Ae_q (bR_q w.heap.size w)
 have H : (if (l0.length : Int) > 1048576 then (some true) else ((spec_DrawExecute.f k l0).bind fun t539 => ((impl_Execute.f k t539).bind fun t540 => ((spec_Execute.f k t539).bind fun t541 => (if t540.toList = t541.toList then (if (t539.size : Int) > 600 then (some (t540.toList == ([116, 111, 111, 32, 108, 111, 110, 103, 10] : List UInt8))) else ((impl_Execute.f k (⟨#[]⟩ : ByteArray)).bind fun t542 => (if t542.toList = ([101, 110, 100, 10] : List UInt8) then (some (decide ((t540.size : Int) > 0))) else (some false)))) else (some (t540.toList == t541.toList))))))) = some r := h
 clear h
 by_cases c2 : (l0.length : Int) > 1048576
 ·rw [if_pos c2] at H
  have c2b0 : decide (1048576 < (l0.length : Int)) = true := dT_q c2
  have c2b1 : decide (1048576 < l0.length) = true := dT_q (by omega)
  clear c2
  obtain rfl := oI_q H
  go_enter Tryd.func7, Tryd.ntmps7
  go_wp2
  go_ret
  exact ⟨m3_q, bel HB.out⟩
 rw [if_neg c2] at H
 have c2b0 : decide (1048576 < (l0.length : Int)) = false := dF_q c2
 have c2b1 : decide (1048576 < l0.length) = false := dF_q (by omega)
 clear c2
 replace H := oB_q.mp H
 obtain ⟨t539, A30, H⟩ := H
 replace H : ((impl_Execute.f k t539).bind fun t540 => ((spec_Execute.f k t539).bind fun t541 => (if t540.toList = t541.toList then (if (t539.size : Int) > 600 then (some (t540.toList == ([116, 111, 111, 32, 108, 111, 110, 103, 10] : List UInt8))) else ((impl_Execute.f k (⟨#[]⟩ : ByteArray)).bind fun t542 => (if t542.toList = ([101, 110, 100, 10] : List UInt8) then (some (decide ((t540.size : Int) > 0))) else (some false)))) else (some (t540.toList == t541.toList))))) = some r := H
 have A3 := Ae_q A30
 clear A30
 replace H := oB_q.mp H
 obtain ⟨t540, A40, H⟩ := H
 replace H : ((spec_Execute.f k t539).bind fun t541 => (if t540.toList = t541.toList then (if (t539.size : Int) > 600 then (some (t540.toList == ([116, 111, 111, 32, 108, 111, 110, 103, 10] : List UInt8))) else ((impl_Execute.f k (⟨#[]⟩ : ByteArray)).bind fun t542 => (if t542.toList = ([101, 110, 100, 10] : List UInt8) then (some (decide ((t540.size : Int) > 0))) else (some false)))) else (some (t540.toList == t541.toList)))) = some r := H
 have A4 := Ae_q A40
 clear A40
 replace H := oB_q.mp H
 obtain ⟨t541, A50, H⟩ := H
 replace H : (if t540.toList = t541.toList then (if (t539.size : Int) > 600 then (some (t540.toList == ([116, 111, 111, 32, 108, 111, 110, 103, 10] : List UInt8))) else ((impl_Execute.f k (⟨#[]⟩ : ByteArray)).bind fun t542 => (if t542.toList = ([101, 110, 100, 10] : List UInt8) then (some (decide ((t540.size : Int) > 0))) else (some false)))) else (some (t540.toList == t541.toList))) = some r := H
 have A5 := Ae_q A50
 clear A50
 by_cases c6 : t540.toList = t541.toList
 rotate_left
 ·rw [if_neg c6] at H
  have c6b0 : (t540.toList == t541.toList) = false := fN_q.mpr c6
  have c6b1 : (t540.toList != t541.toList) = true := nI_q.mpr c6
  obtain rfl := oI_q H
  go_enter Tryd.func7, Tryd.ntmps7
  go_wp2_with (first | ((first | ((with_reducible refine gC_q (f := 12) rfl ?_); refine gL_q (some 10) rfl rfl Tryd.func12 m7_q rfl #[.slice A0 l0.length c0] rfl m0_q ?_; (with_reducible refine (spec_DrawExecute.calls k _ _ l0 t539 _ ?side1 ?side2 A3.out).mono ?_); (case side1 => exact m29_q); (case side2 => exact m53_q)) | ((with_reducible refine gC_q (f := 13) rfl ?_); refine gL_q (some 12) rfl rfl Tryd.func13 m7_q rfl #[.string t539] rfl m0_q ?_; (with_reducible refine (impl_Execute.calls k t539 t540 _ A4.out m32_q).mono ?_)) | ((with_reducible refine gC_q (f := 14) rfl ?_); refine gL_q (some 14) rfl rfl Tryd.func14 m7_q rfl #[.string t539] rfl m0_q ?_; (with_reducible refine (spec_Execute.calls k t539 t541 _ A5.out).mono ?_))); rintro e w' ⟨rfl, hb⟩; refine ⟨_, rfl, ?_⟩; replace HB := Ae_q (bT_q (bel HB.out) hb); (try clear hb); (try clear hb2); (try clear hk); (try clear hi)))
  go_ret
  exact ⟨m3_q, bel HB.out⟩
 rw [if_pos c6] at H
 have c6b0 : (t540.toList == t541.toList) = true := beq_iff_eq.mpr c6
 have c6b1 : (t540.toList != t541.toList) = false := nE_q.mpr c6
 clear c6
 by_cases c7 : (t539.size : Int) > 600
 ·rw [if_pos c7] at H
  have c7b0 : decide (600 < (t539.size : Int)) = true := dT_q c7
  have c7b1 : decide (600 < t539.size) = true := dT_q (by omega)
  clear c7
  obtain rfl := oI_q H
  go_enter Tryd.func7, Tryd.ntmps7
  go_wp2_with (first | ((first | ((with_reducible refine gC_q (f := 12) rfl ?_); refine gL_q (some 10) rfl rfl Tryd.func12 m7_q rfl #[.slice A0 l0.length c0] rfl m0_q ?_; (with_reducible refine (spec_DrawExecute.calls k _ _ l0 t539 _ ?side1 ?side2 A3.out).mono ?_); (case side1 => exact m29_q); (case side2 => exact m53_q)) | ((with_reducible refine gC_q (f := 13) rfl ?_); refine gL_q (some 12) rfl rfl Tryd.func13 m7_q rfl #[.string t539] rfl m0_q ?_; (with_reducible refine (impl_Execute.calls k t539 t540 _ A4.out m32_q).mono ?_)) | ((with_reducible refine gC_q (f := 14) rfl ?_); refine gL_q (some 14) rfl rfl Tryd.func14 m7_q rfl #[.string t539] rfl m0_q ?_; (with_reducible refine (spec_Execute.calls k t539 t541 _ A5.out).mono ?_))); rintro e w' ⟨rfl, hb⟩; refine ⟨_, rfl, ?_⟩; replace HB := Ae_q (bT_q (bel HB.out) hb); (try clear hb); (try clear hb2); (try clear hk); (try clear hi)))
  go_ret
  exact ⟨m3_q, bel HB.out⟩
 rw [if_neg c7] at H
 have c7b0 : decide (600 < (t539.size : Int)) = false := dF_q c7
 have c7b1 : decide (600 < t539.size) = false := dF_q (by omega)
 clear c7
 replace H := oB_q.mp H
 obtain ⟨t542, A110, H⟩ := H
 replace H : (if t542.toList = ([101, 110, 100, 10] : List UInt8) then (some (decide ((t540.size : Int) > 0))) else (some false)) = some r := H
 have A11 := Ae_q A110
 clear A110
 by_cases c12 : t542.toList = ([101, 110, 100, 10] : List UInt8)
 ·rw [if_pos c12] at H
  have c12b0 : (t542.toList == ([101, 110, 100, 10] : List UInt8)) = true := beq_iff_eq.mpr c12
  have c12b1 : (t542.toList != ([101, 110, 100, 10] : List UInt8)) = false := nE_q.mpr c12
  clear c12
  obtain rfl := oI_q H
  go_enter Tryd.func7, Tryd.ntmps7
  go_wp2_with (first | ((first | ((with_reducible refine gC_q (f := 12) rfl ?_); refine gL_q (some 10) rfl rfl Tryd.func12 m7_q rfl #[.slice A0 l0.length c0] rfl m0_q ?_; (with_reducible refine (spec_DrawExecute.calls k _ _ l0 t539 _ ?side1 ?side2 A3.out).mono ?_); (case side1 => exact m29_q); (case side2 => exact m53_q)) | ((with_reducible refine gC_q (f := 13) rfl ?_); (first | (refine gL_q (some 12) rfl rfl Tryd.func13 m7_q rfl #[.string t539] rfl m0_q ?_; (with_reducible refine (impl_Execute.calls k t539 t540 _ A4.out m32_q).mono ?_)) | (refine gL_q (some 26) rfl rfl Tryd.func13 m7_q rfl #[.string (⟨#[]⟩ : ByteArray)] rfl m0_q ?_; (with_reducible refine (impl_Execute.calls k (⟨#[]⟩ : ByteArray) t542 _ A11.out m32_q).mono ?_)))) | ((with_reducible refine gC_q (f := 14) rfl ?_); refine gL_q (some 14) rfl rfl Tryd.func14 m7_q rfl #[.string t539] rfl m0_q ?_; (with_reducible refine (spec_Execute.calls k t539 t541 _ A5.out).mono ?_))); rintro e w' ⟨rfl, hb⟩; refine ⟨_, rfl, ?_⟩; replace HB := Ae_q (bT_q (bel HB.out) hb); (try clear hb); (try clear hb2); (try clear hk); (try clear hi)))
  go_ret
  exact ⟨m3_q, bel HB.out⟩
 rw [if_neg c12] at H
 have c12b0 : (t542.toList == ([101, 110, 100, 10] : List UInt8)) = false := fN_q.mpr c12
 have c12b1 : (t542.toList != ([101, 110, 100, 10] : List UInt8)) = true := nI_q.mpr c12
 obtain rfl := oI_q H
 go_enter Tryd.func7, Tryd.ntmps7
 go_wp2_with (first | ((first | ((with_reducible refine gC_q (f := 12) rfl ?_); refine gL_q (some 10) rfl rfl Tryd.func12 m7_q rfl #[.slice A0 l0.length c0] rfl m0_q ?_; (with_reducible refine (spec_DrawExecute.calls k _ _ l0 t539 _ ?side1 ?side2 A3.out).mono ?_); (case side1 => exact m29_q); (case side2 => exact m53_q)) | ((with_reducible refine gC_q (f := 13) rfl ?_); (first | (refine gL_q (some 12) rfl rfl Tryd.func13 m7_q rfl #[.string t539] rfl m0_q ?_; (with_reducible refine (impl_Execute.calls k t539 t540 _ A4.out m32_q).mono ?_)) | (refine gL_q (some 26) rfl rfl Tryd.func13 m7_q rfl #[.string (⟨#[]⟩ : ByteArray)] rfl m0_q ?_; (with_reducible refine (impl_Execute.calls k (⟨#[]⟩ : ByteArray) t542 _ A11.out m32_q).mono ?_)))) | ((with_reducible refine gC_q (f := 14) rfl ?_); refine gL_q (some 14) rfl rfl Tryd.func14 m7_q rfl #[.string t539] rfl m0_q ?_; (with_reducible refine (spec_Execute.calls k t539 t541 _ A5.out).mono ?_))); rintro e w' ⟨rfl, hb⟩; refine ⟨_, rfl, ?_⟩; replace HB := Ae_q (bT_q (bel HB.out) hb); (try clear hb); (try clear hb2); (try clear hk); (try clear hi)))
 go_ret
 exact ⟨m3_q, bel HB.out⟩

def laws_FnScript.Pure : Prop := ∀ (l0 : List Int), l0.length ≤ maxLen → l0.length * 1 ≤ 140737488351232 → (∀ x ∈ l0, (Lit.int .u8 x).wf = true) → ∃ k, laws_FnScript.f k l0 = some true
theorem laws_FnScript.walk (P : laws_FnScript.Pure) (a0 : Option Addr) (len0 cap0 : Nat) (z0 : List Int) (w : World) (hG : Sh.GW w) (w0 : (a0 = none ∧ len0 = 0 ∧ cap0 = 0 ∧ z0 = []) ∨ ∃ x, a0 = some x ∧ len0 ≤ cap0 ∧ cap0 ≤ maxLen ∧ z0.length = cap0 ∧ (∀ i, i < z0.length → w.cell? (x.add i) = some (.int .u8 (z0.getD i 0))) ∧ ∀ n ∈ z0, (Lit.int .u8 n).wf = true) (y0 : len0 * 1 ≤ 140737488351232) :
    Calls Tryd.prog 7 #[.slice a0 len0 cap0] w fun e w' => e = .returned (.bool true) ∧ Below w.heap.size w w' := by
 obtain ⟨l0, rfl, hr0, hm0, hw0, hc0⟩ := ReadsInt.ofRowC w0
 obtain ⟨k, h⟩ := P l0 hm0 y0 hw0
 refine (laws_FnScript.calls k _ _ l0 true w (Kd.C_of_reads (d := (0 : Int)) (h1 := fun _ => rfl) hr0) hc0 h hG).mono ?_
 rintro e w' ⟨rfl, hd⟩
 exact ⟨rfl, hd⟩

end Go.Proofs.YtbclhpibilbdbaaDoor.PSc
