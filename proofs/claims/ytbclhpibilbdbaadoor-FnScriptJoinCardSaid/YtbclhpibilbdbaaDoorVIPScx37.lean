import Derived.Test.YtbclhpibilbdbaaDoorVIPScx0
import Derived.Test.YtbclhpibilbdbaaDoorVIPScx17
import Derived.Test.YtbclhpibilbdbaaDoorVIPScx24
import Derived.Test.YtbclhpibilbdbaaDoorVIPScx27
namespace Go.Proofs.YtbclhpibilbdbaaDoor.PSc
open Go.RowKit Go.Proofs.YtbclhpibilbdbaaDoorW.PrintWords Go.Proofs.YtbclhpibilbdbaaDoorW.PrintLast Go.Proofs.YtbclhpibilbdbaaDoorW.PrintMore
attribute [local go_sem] max2_int min2_int max_two min_two max_three min_three max_four min_four
set_option linter.unusedVariables false
set_option linter.unusedSimpArgs false

def laws_FnScriptJoin.f (k : Nat) (l0 : List Int) : Option (Bool) := if (l0.length : Int) > 1048576 then (some true) else ((spec_DrawExecute.f k l0).bind fun t571 => ((impl_Execute.f k t571).bind fun t572 => ((spec_Execute.f k t571).bind fun t573 => (if t572.toList = t573.toList then ((impl_Execute.f k (⟨#[112, 117, 116, 32, 50, 32, 55, 32, 53, 10, 112, 117, 116, 32, 50, 32, 55, 32, 54, 10, 112, 117, 116, 32, 49, 32, 57, 32, 49, 10]⟩ : ByteArray)).bind fun t574 => (some (t574.toList == ([111, 107, 10, 111, 107, 10, 111, 107, 10, 101, 110, 100, 32, 49, 58, 57, 58, 49, 32, 50, 58, 55, 58, 49, 49, 10] : List UInt8)))) else (some (t572.toList == t573.toList))))))
set_option maxHeartbeats 8000000 in
set_option maxRecDepth 100000 in
theorem laws_FnScriptJoin.calls (k : Nat) (A0 : Option Addr) (c0 : Nat) (l0 : List Int) (r : Bool) (w : World) (hr0 : Kd.C (Kd.int .u8) w A0 l0.length l0) (hc0 : l0.length ≤ c0) (h : laws_FnScriptJoin.f k l0 = some r) (hG : Sh.GW w) :
    Calls Tryd.prog 10 #[.slice A0 l0.length c0] w fun e w' => e = .returned (.bool r) ∧ Below w.heap.size w w' := by
 have HG := Ae_q hG
 clear hG
 have HR0 := Ae_q hr0
 have HC0 := Ae_q hc0
 clear hr0 hc0
 have HB := Ae_q (bR_q w.heap.size w)
 have H : (if (l0.length : Int) > 1048576 then (some true) else ((spec_DrawExecute.f k l0).bind fun t571 => ((impl_Execute.f k t571).bind fun t572 => ((spec_Execute.f k t571).bind fun t573 => (if t572.toList = t573.toList then ((impl_Execute.f k (⟨#[112, 117, 116, 32, 50, 32, 55, 32, 53, 10, 112, 117, 116, 32, 50, 32, 55, 32, 54, 10, 112, 117, 116, 32, 49, 32, 57, 32, 49, 10]⟩ : ByteArray)).bind fun t574 => (some (t574.toList == ([111, 107, 10, 111, 107, 10, 111, 107, 10, 101, 110, 100, 32, 49, 58, 57, 58, 49, 32, 50, 58, 55, 58, 49, 49, 10] : List UInt8)))) else (some (t572.toList == t573.toList))))))) = some r := h
 clear h
 by_cases c2 : (l0.length : Int) > 1048576
 ·rw [if_pos c2] at H
  have c2b0 : decide (1048576 < (l0.length : Int)) = true := dT_q c2
  have c2b1 : decide (1048576 < l0.length) = true := dT_q (by omega)
  clear c2
  obtain rfl := oI_q H
  go_enter Tryd.func10, Tryd.ntmps10
  go_wp2
  go_ret
  exact ⟨m3_q, bel HB.out⟩
 rw [if_neg c2] at H
 have c2b0 : decide (1048576 < (l0.length : Int)) = false := dF_q c2
 have c2b1 : decide (1048576 < l0.length) = false := dF_q (by omega)
 clear c2
 replace H := oB_q.mp H
 obtain ⟨t571, A30, H⟩ := H
 replace H : ((impl_Execute.f k t571).bind fun t572 => ((spec_Execute.f k t571).bind fun t573 => (if t572.toList = t573.toList then ((impl_Execute.f k (⟨#[112, 117, 116, 32, 50, 32, 55, 32, 53, 10, 112, 117, 116, 32, 50, 32, 55, 32, 54, 10, 112, 117, 116, 32, 49, 32, 57, 32, 49, 10]⟩ : ByteArray)).bind fun t574 => (some (t574.toList == ([111, 107, 10, 111, 107, 10, 111, 107, 10, 101, 110, 100, 32, 49, 58, 57, 58, 49, 32, 50, 58, 55, 58, 49, 49, 10] : List UInt8)))) else (some (t572.toList == t573.toList))))) = some r := H
 have A3 := Ae_q A30
 clear A30
 replace H := oB_q.mp H
 obtain ⟨t572, A40, H⟩ := H
 replace H : ((spec_Execute.f k t571).bind fun t573 => (if t572.toList = t573.toList then ((impl_Execute.f k (⟨#[112, 117, 116, 32, 50, 32, 55, 32, 53, 10, 112, 117, 116, 32, 50, 32, 55, 32, 54, 10, 112, 117, 116, 32, 49, 32, 57, 32, 49, 10]⟩ : ByteArray)).bind fun t574 => (some (t574.toList == ([111, 107, 10, 111, 107, 10, 111, 107, 10, 101, 110, 100, 32, 49, 58, 57, 58, 49, 32, 50, 58, 55, 58, 49, 49, 10] : List UInt8)))) else (some (t572.toList == t573.toList)))) = some r := H
 have A4 := Ae_q A40
 clear A40
 replace H := oB_q.mp H
 obtain ⟨t573, A50, H⟩ := H
 replace H : (if t572.toList = t573.toList then ((impl_Execute.f k (⟨#[112, 117, 116, 32, 50, 32, 55, 32, 53, 10, 112, 117, 116, 32, 50, 32, 55, 32, 54, 10, 112, 117, 116, 32, 49, 32, 57, 32, 49, 10]⟩ : ByteArray)).bind fun t574 => (some (t574.toList == ([111, 107, 10, 111, 107, 10, 111, 107, 10, 101, 110, 100, 32, 49, 58, 57, 58, 49, 32, 50, 58, 55, 58, 49, 49, 10] : List UInt8)))) else (some (t572.toList == t573.toList))) = some r := H
 have A5 := Ae_q A50
 clear A50
 by_cases c6 : t572.toList = t573.toList
 rotate_left
 ·rw [if_neg c6] at H
  have c6b0 : (t572.toList == t573.toList) = false := fN_q.mpr c6
  have c6b1 : (t572.toList != t573.toList) = true := nI_q.mpr c6
  obtain rfl := oI_q H
  go_enter Tryd.func10, Tryd.ntmps10
  go_wp2_with (first | ((first | ((with_reducible refine gC_q (f := 12) rfl ?_); refine gL_q (some 10) rfl rfl Tryd.func12 m7_q rfl #[.slice A0 l0.length c0] rfl m0_q ?_; (with_reducible refine (spec_DrawExecute.calls k _ _ l0 t571 _ ?side1 ?side2 A3.out).mono ?_); (case side1 => exact m35_q); (case side2 => exact m62_q)) | ((with_reducible refine gC_q (f := 13) rfl ?_); refine gL_q (some 12) rfl rfl Tryd.func13 m7_q rfl #[.string t571] rfl m0_q ?_; (with_reducible refine (impl_Execute.calls k t571 t572 _ A4.out m34_q).mono ?_)) | ((with_reducible refine gC_q (f := 14) rfl ?_); refine gL_q (some 14) rfl rfl Tryd.func14 m7_q rfl #[.string t571] rfl m0_q ?_; (with_reducible refine (spec_Execute.calls k t571 t573 _ A5.out).mono ?_))); rintro e w' ⟨rfl, hb⟩; refine ⟨_, rfl, ?_⟩; replace HB := Ae_q (bT_q (bel HB.out) hb); (try clear hb); (try clear hb2); (try clear hk); (try clear hi)))
  go_ret
  exact ⟨m3_q, bel HB.out⟩
 rw [if_pos c6] at H
 have c6b0 : (t572.toList == t573.toList) = true := beq_iff_eq.mpr c6
 have c6b1 : (t572.toList != t573.toList) = false := nE_q.mpr c6
 clear c6
 replace H := oB_q.mp H
 obtain ⟨t574, A70, H⟩ := H
 replace H : (some (t574.toList == ([111, 107, 10, 111, 107, 10, 111, 107, 10, 101, 110, 100, 32, 49, 58, 57, 58, 49, 32, 50, 58, 55, 58, 49, 49, 10] : List UInt8))) = some r := H
 have A7 := Ae_q A70
 clear A70
 obtain rfl := oI_q H
 go_enter Tryd.func10, Tryd.ntmps10
 go_wp2_with (first | ((first | ((with_reducible refine gC_q (f := 12) rfl ?_); refine gL_q (some 10) rfl rfl Tryd.func12 m7_q rfl #[.slice A0 l0.length c0] rfl m0_q ?_; (with_reducible refine (spec_DrawExecute.calls k _ _ l0 t571 _ ?side1 ?side2 A3.out).mono ?_); (case side1 => exact m35_q); (case side2 => exact m62_q)) | ((with_reducible refine gC_q (f := 13) rfl ?_); (first | (refine gL_q (some 12) rfl rfl Tryd.func13 m7_q rfl #[.string t571] rfl m0_q ?_; (with_reducible refine (impl_Execute.calls k t571 t572 _ A4.out m34_q).mono ?_)) | (refine gL_q (some 21) rfl rfl Tryd.func13 m7_q rfl #[.string (⟨#[112, 117, 116, 32, 50, 32, 55, 32, 53, 10, 112, 117, 116, 32, 50, 32, 55, 32, 54, 10, 112, 117, 116, 32, 49, 32, 57, 32, 49, 10]⟩ : ByteArray)] rfl m0_q ?_; (with_reducible refine (impl_Execute.calls k (⟨#[112, 117, 116, 32, 50, 32, 55, 32, 53, 10, 112, 117, 116, 32, 50, 32, 55, 32, 54, 10, 112, 117, 116, 32, 49, 32, 57, 32, 49, 10]⟩ : ByteArray) t574 _ A7.out m34_q).mono ?_)))) | ((with_reducible refine gC_q (f := 14) rfl ?_); refine gL_q (some 14) rfl rfl Tryd.func14 m7_q rfl #[.string t571] rfl m0_q ?_; (with_reducible refine (spec_Execute.calls k t571 t573 _ A5.out).mono ?_))); rintro e w' ⟨rfl, hb⟩; refine ⟨_, rfl, ?_⟩; replace HB := Ae_q (bT_q (bel HB.out) hb); (try clear hb); (try clear hb2); (try clear hk); (try clear hi)))
 go_ret
 exact ⟨m3_q, bel HB.out⟩

def laws_FnScriptJoin.Pure : Prop := ∀ (l0 : List Int), l0.length ≤ maxLen → l0.length * 1 ≤ 140737488351232 → (∀ x ∈ l0, (Lit.int .u8 x).wf = true) → ∃ k, laws_FnScriptJoin.f k l0 = some true
theorem laws_FnScriptJoin.walk (P : laws_FnScriptJoin.Pure) (a0 : Option Addr) (len0 cap0 : Nat) (z0 : List Int) (w : World) (hG : Sh.GW w) (w0 : (a0 = none ∧ len0 = 0 ∧ cap0 = 0 ∧ z0 = []) ∨ ∃ x, a0 = some x ∧ len0 ≤ cap0 ∧ cap0 ≤ maxLen ∧ z0.length = cap0 ∧ (∀ i, i < z0.length → w.cell? (x.add i) = some (.int .u8 (z0.getD i 0))) ∧ ∀ n ∈ z0, (Lit.int .u8 n).wf = true) (y0 : len0 * 1 ≤ 140737488351232) :
    Calls Tryd.prog 10 #[.slice a0 len0 cap0] w fun e w' => e = .returned (.bool true) ∧ Below w.heap.size w w' := by
 obtain ⟨l0, rfl, hr0, hm0, hw0, hc0⟩ := ReadsInt.ofRowC w0
 obtain ⟨k, h⟩ := P l0 hm0 y0 hw0
 refine (laws_FnScriptJoin.calls k _ _ l0 true w (Kd.C_of_reads (d := (0 : Int)) (h1 := fun _ => rfl) hr0) hc0 h hG).mono ?_
 rintro e w' ⟨rfl, hd⟩
 exact ⟨rfl, hd⟩

end Go.Proofs.YtbclhpibilbdbaaDoor.PSc
