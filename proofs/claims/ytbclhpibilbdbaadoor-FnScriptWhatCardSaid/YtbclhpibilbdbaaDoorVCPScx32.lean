import Derived.Test.YtbclhpibilbdbaaDoorVCPScx0
import Derived.Test.YtbclhpibilbdbaaDoorVCPScx17
import Derived.Test.YtbclhpibilbdbaaDoorVCPScx24
import Derived.Test.YtbclhpibilbdbaaDoorVCPScx27
import Derived.Test.YtbclhpibilbdbaaDoorVCPScx29
import Derived.Test.YtbclhpibilbdbaaDoorVCPScx31
namespace Go.Proofs.YtbclhpibilbdbaaDoor.PSc
open Go.RowKit Go.Proofs.YtbclhpibilbdbaaDoorW.PrintWords Go.Proofs.YtbclhpibilbdbaaDoorW.PrintLast Go.Proofs.YtbclhpibilbdbaaDoorW.PrintMore
attribute [local go_sem] max2_int min2_int max_two min_two max_three min_three max_four min_four
set_option linter.unusedVariables false
set_option linter.unusedSimpArgs false

def laws_FnScriptWhat.j0 : Nat → ByteArray → ByteArray → ByteArray → Bool → Option (Bool)
 | 0, _, _, _, _ => none
 | k + 1, x3, x4, x5, x26 => if x26 = true then (some (x4.toList == x5.toList)) else ((laws_completeLines.f k x3).bind fun t551 => ((impl_Execute.f k t551).bind fun t552 => ((laws_lastLine.f k t552).bind fun t553 => (if t551.size + 4 ≤ 9223372036854775807 then ((impl_Execute.f k (t551 ++ (⟨#[122, 122, 122, 10]⟩ : ByteArray))).bind fun t554 => (if 0 ≤ (wrap64 ((t552.size : Int) - (t553.size : Int))) then (if (wrap64 ((t552.size : Int) - (t553.size : Int))) ≤ (t552.size : Int) then (if (t552.extract 0 ((wrap64 ((t552.size : Int) - (t553.size : Int))) : Int).toNat).size + 5 ≤ 9223372036854775807 then (if ((t552.extract 0 ((wrap64 ((t552.size : Int) - (t553.size : Int))) : Int).toNat) ++ (⟨#[119, 104, 97, 116, 10]⟩ : ByteArray)).size + t553.size ≤ 9223372036854775807 then (some (t554.toList == (((t552.extract 0 ((wrap64 ((t552.size : Int) - (t553.size : Int))) : Int).toNat) ++ (⟨#[119, 104, 97, 116, 10]⟩ : ByteArray)) ++ t553).toList)) else (none)) else (none)) else (none)) else (none))) else (none)))))
def laws_FnScriptWhat.f (k : Nat) (l0 : List Int) : Option (Bool) := if (l0.length : Int) > 1048576 then (some true) else ((spec_DrawExecute.f k l0).bind fun t548 => ((impl_Execute.f k t548).bind fun t549 => ((spec_Execute.f k t548).bind fun t550 => (if t549.toList = t550.toList then (laws_FnScriptWhat.j0 k t548 t549 t550 (decide ((wrap64 ((t548.size : Int) + 4)) > 600))) else (laws_FnScriptWhat.j0 k t548 t549 t550 true)))))
def laws_FnScriptWhat.T11 : Bool × List (List Nat × List Nat) := (true, [([], []), ([0], [0]), ([1], [1]), ([], []), ([], []), ([4], [4]), ([], []), ([6], [6]), ([5, 7], [5, 7]), ([3, 8], [3, 8]), ([9], [9]), ([], []), ([10, 11], [10, 11]), ([2, 12], [2, 12]), ([13, 2, 0, 1, 2, 3, 4, 5, 6, 7, 8, 9, 10, 11, 12, 13], [13])])
def laws_FnScriptWhat.B11 : List Nat := [0, 1, 3, 0, 0, 16, 0, 64, 240, 504, 1016, 0, 4088, 8191, 16383]
theorem laws_FnScriptWhat.tab11 : rtab .any (opsOf Tryd.f5 11) = laws_FnScriptWhat.T11 := by kernel_rfl
theorem laws_FnScriptWhat.bits11 : waitsOk laws_FnScriptWhat.T11.2 laws_FnScriptWhat.B11 = true := by kernel_rfl
set_option maxHeartbeats 8000000 in
set_option maxRecDepth 100000 in
theorem laws_FnScriptWhat.calls (k : Nat) (A0 : Option Addr) (c0 : Nat) (l0 : List Int) (r : Bool) (w : World) (hr0 : Kd.C (Kd.int .u8) w A0 l0.length l0) (hc0 : l0.length ≤ c0) (h : laws_FnScriptWhat.f k l0 = some r) (hG : Sh.GW w) :
    Calls Tryd.prog 5 #[.slice A0 l0.length c0] w fun e w' => e = .returned (.bool r) ∧ Below w.heap.size w w' := by
 have HG := Ae_q hG
 clear hG
 have HR0 := Ae_q hr0
 have HC0 := Ae_q hc0
 clear hr0 hc0
 have HB := Ae_q (bR_q w.heap.size w)
 have H : (if (l0.length : Int) > 1048576 then (some true) else ((spec_DrawExecute.f k l0).bind fun t548 => ((impl_Execute.f k t548).bind fun t549 => ((spec_Execute.f k t548).bind fun t550 => (if t549.toList = t550.toList then (laws_FnScriptWhat.j0 k t548 t549 t550 (decide ((wrap64 ((t548.size : Int) + 4)) > 600))) else (laws_FnScriptWhat.j0 k t548 t549 t550 true)))))) = some r := h
 clear h
 by_cases c2 : (l0.length : Int) > 1048576
 ·rw [if_pos c2] at H
  have c2b0 : decide (1048576 < (l0.length : Int)) = true := dT_q c2
  have c2b1 : decide (1048576 < l0.length) = true := dT_q (by omega)
  clear c2
  obtain rfl := oI_q H
  go_enter Tryd.func5, Tryd.ntmps5
  go_wp2
  go_ret
  exact ⟨m3_q, bel HB.out⟩
 rw [if_neg c2] at H
 have c2b0 : decide (1048576 < (l0.length : Int)) = false := dF_q c2
 have c2b1 : decide (1048576 < l0.length) = false := dF_q (by omega)
 clear c2
 replace H := oB_q.mp H
 obtain ⟨t548, A30, H⟩ := H
 replace H : ((impl_Execute.f k t548).bind fun t549 => ((spec_Execute.f k t548).bind fun t550 => (if t549.toList = t550.toList then (laws_FnScriptWhat.j0 k t548 t549 t550 (decide ((wrap64 ((t548.size : Int) + 4)) > 600))) else (laws_FnScriptWhat.j0 k t548 t549 t550 true)))) = some r := H
 have A3 := Ae_q A30
 clear A30
 replace H := oB_q.mp H
 obtain ⟨t549, A40, H⟩ := H
 replace H : ((spec_Execute.f k t548).bind fun t550 => (if t549.toList = t550.toList then (laws_FnScriptWhat.j0 k t548 t549 t550 (decide ((wrap64 ((t548.size : Int) + 4)) > 600))) else (laws_FnScriptWhat.j0 k t548 t549 t550 true))) = some r := H
 have A4 := Ae_q A40
 clear A40
 replace H := oB_q.mp H
 obtain ⟨t550, A50, H⟩ := H
 replace H : (if t549.toList = t550.toList then (laws_FnScriptWhat.j0 k t548 t549 t550 (decide ((wrap64 ((t548.size : Int) + 4)) > 600))) else (laws_FnScriptWhat.j0 k t548 t549 t550 true)) = some r := H
 have A5 := Ae_q A50
 clear A50
 have HC6 := Ae_q H
 clear H
 go_enter Tryd.func5, Tryd.ntmps5
 go_upto_region 6 with (first | ((first | ((with_reducible refine gC_q (f := 12) rfl ?_); refine gL_q (some 13) rfl rfl Tryd.func12 m7_q rfl #[.slice A0 l0.length c0] rfl m0_q ?_; (with_reducible refine (spec_DrawExecute.calls k _ _ l0 t548 _ ?side1 ?side2 A3.out).mono ?_); (case side1 => exact m36_q); (case side2 => exact m62_q)) | ((with_reducible refine gC_q (f := 13) rfl ?_); refine gL_q (some 15) rfl rfl Tryd.func13 m7_q rfl #[.string t548] rfl m0_q ?_; (with_reducible refine (impl_Execute.calls k t548 t549 _ A4.out m34_q).mono ?_)) | ((with_reducible refine gC_q (f := 14) rfl ?_); refine gL_q (some 17) rfl rfl Tryd.func14 m7_q rfl #[.string t548] rfl m0_q ?_; (with_reducible refine (spec_Execute.calls k t548 t550 _ A5.out).mono ?_))); rintro e w' ⟨rfl, hb⟩; refine ⟨_, rfl, ?_⟩; replace HB := Ae_q (bT_q (bel HB.out) hb); (try clear hb); (try clear hb2); (try clear hk); (try clear hi)))
 (try simp only [Act.put, sA_q, sZ_q, sS_q])
 go_cut [26] (fun v26 wc => ∃ (kq : Nat) (x26_5 : Bool), v26 = .bool x26_5 ∧ Aside0 (laws_FnScriptWhat.j0 kq t548 t549 t550 x26_5 = some r) ∧ Aside0 (kq ≤ k) ∧ Aside0 (Below w.heap.size w wc))
 case first =>
  have H := HC6.out
  clear HC6
  by_cases c10 : t549.toList = t550.toList
  rotate_left
  ·rw [if_neg c10] at H
   have c10b0 : (t549.toList == t550.toList) = false := fN_q.mpr c10
   have c10b1 : (t549.toList != t550.toList) = true := nI_q.mpr c10
   (first | rw [c10b0] | (simp only [i64_w, i32_w]; rw [c10b0]) | skip)
   have H' := Ae_q H
   clear H
   go_wp2
   go_meet
   case rel => exact ⟨_, (true), m1_q, H', ⟨m44_q⟩, ⟨bel HB.out⟩⟩
  rw [if_pos c10] at H
  have c10b0 : (t549.toList == t550.toList) = true := beq_iff_eq.mpr c10
  have c10b1 : (t549.toList != t550.toList) = false := nE_q.mpr c10
  clear c10
  (first | rw [c10b0] | (simp only [i64_w, i32_w]; rw [c10b0]) | skip)
  have H' := Ae_q H
  clear H
  go_wp2
  go_meet
  case rel => exact ⟨_, (decide ((wrap64 ((t548.size : Int) + 4)) > 600)), m1_q, H', ⟨m44_q⟩, ⟨bel HB.out⟩⟩
 case rest =>
  clear HC6
  try clear c1
  try clear c2
  try clear c2b0
  try clear c2b1
  try clear p2
  try clear c5
  try clear p6
  try clear c10
  try clear c10b0
  try clear c10b1
  obtain ⟨kq, x26_5, rfl, HA, HJ5, HB⟩ := hcut
  cases kq with
  | zero => exact absurd HA.out (by simp [laws_FnScriptWhat.j0])
  | succ kj5 =>
   have H := HA.out
   clear HA
   simp only [laws_FnScriptWhat.j0] at H
   by_cases c11 : x26_5 = true
   ·subst c11
    have H1 : (some (t549.toList == t550.toList)) = some r := by rw [if_pos rfl] at H; exact H
    clear H
    have H := H1
    clear H1
    obtain rfl := oI_q H
    go_wp2
    go_ret
    exact ⟨m3_q, bel HB.out⟩
   replace c11 := fM_q.mpr c11
   subst c11
   have H1 : ((laws_completeLines.f kj5 t548).bind fun t551 => ((impl_Execute.f kj5 t551).bind fun t552 => ((laws_lastLine.f kj5 t552).bind fun t553 => (if t551.size + 4 ≤ 9223372036854775807 then ((impl_Execute.f kj5 (t551 ++ (⟨#[122, 122, 122, 10]⟩ : ByteArray))).bind fun t554 => (if 0 ≤ (wrap64 ((t552.size : Int) - (t553.size : Int))) then (if (wrap64 ((t552.size : Int) - (t553.size : Int))) ≤ (t552.size : Int) then (if (t552.extract 0 ((wrap64 ((t552.size : Int) - (t553.size : Int))) : Int).toNat).size + 5 ≤ 9223372036854775807 then (if ((t552.extract 0 ((wrap64 ((t552.size : Int) - (t553.size : Int))) : Int).toNat) ++ (⟨#[119, 104, 97, 116, 10]⟩ : ByteArray)).size + t553.size ≤ 9223372036854775807 then (some (t554.toList == (((t552.extract 0 ((wrap64 ((t552.size : Int) - (t553.size : Int))) : Int).toNat) ++ (⟨#[119, 104, 97, 116, 10]⟩ : ByteArray)) ++ t553).toList)) else (none)) else (none)) else (none)) else (none))) else (none))))) = some r := by rw [if_neg (show ¬ (false = true) by decide)] at H; exact H
   clear H
   have H := H1
   clear H1
   replace H := oB_q.mp H
   obtain ⟨t551, A120, H⟩ := H
   replace H : ((impl_Execute.f kj5 t551).bind fun t552 => ((laws_lastLine.f kj5 t552).bind fun t553 => (if t551.size + 4 ≤ 9223372036854775807 then ((impl_Execute.f kj5 (t551 ++ (⟨#[122, 122, 122, 10]⟩ : ByteArray))).bind fun t554 => (if 0 ≤ (wrap64 ((t552.size : Int) - (t553.size : Int))) then (if (wrap64 ((t552.size : Int) - (t553.size : Int))) ≤ (t552.size : Int) then (if (t552.extract 0 ((wrap64 ((t552.size : Int) - (t553.size : Int))) : Int).toNat).size + 5 ≤ 9223372036854775807 then (if ((t552.extract 0 ((wrap64 ((t552.size : Int) - (t553.size : Int))) : Int).toNat) ++ (⟨#[119, 104, 97, 116, 10]⟩ : ByteArray)).size + t553.size ≤ 9223372036854775807 then (some (t554.toList == (((t552.extract 0 ((wrap64 ((t552.size : Int) - (t553.size : Int))) : Int).toNat) ++ (⟨#[119, 104, 97, 116, 10]⟩ : ByteArray)) ++ t553).toList)) else (none)) else (none)) else (none)) else (none))) else (none)))) = some r := H
   have A12 := Ae_q A120
   clear A120
   replace H := oB_q.mp H
   obtain ⟨t552, A130, H⟩ := H
   replace H : ((laws_lastLine.f kj5 t552).bind fun t553 => (if t551.size + 4 ≤ 9223372036854775807 then ((impl_Execute.f kj5 (t551 ++ (⟨#[122, 122, 122, 10]⟩ : ByteArray))).bind fun t554 => (if 0 ≤ (wrap64 ((t552.size : Int) - (t553.size : Int))) then (if (wrap64 ((t552.size : Int) - (t553.size : Int))) ≤ (t552.size : Int) then (if (t552.extract 0 ((wrap64 ((t552.size : Int) - (t553.size : Int))) : Int).toNat).size + 5 ≤ 9223372036854775807 then (if ((t552.extract 0 ((wrap64 ((t552.size : Int) - (t553.size : Int))) : Int).toNat) ++ (⟨#[119, 104, 97, 116, 10]⟩ : ByteArray)).size + t553.size ≤ 9223372036854775807 then (some (t554.toList == (((t552.extract 0 ((wrap64 ((t552.size : Int) - (t553.size : Int))) : Int).toNat) ++ (⟨#[119, 104, 97, 116, 10]⟩ : ByteArray)) ++ t553).toList)) else (none)) else (none)) else (none)) else (none))) else (none))) = some r := H
   have A13 := Ae_q A130
   clear A130
   replace H := oB_q.mp H
   obtain ⟨t553, A140, H⟩ := H
   replace H : (if t551.size + 4 ≤ 9223372036854775807 then ((impl_Execute.f kj5 (t551 ++ (⟨#[122, 122, 122, 10]⟩ : ByteArray))).bind fun t554 => (if 0 ≤ (wrap64 ((t552.size : Int) - (t553.size : Int))) then (if (wrap64 ((t552.size : Int) - (t553.size : Int))) ≤ (t552.size : Int) then (if (t552.extract 0 ((wrap64 ((t552.size : Int) - (t553.size : Int))) : Int).toNat).size + 5 ≤ 9223372036854775807 then (if ((t552.extract 0 ((wrap64 ((t552.size : Int) - (t553.size : Int))) : Int).toNat) ++ (⟨#[119, 104, 97, 116, 10]⟩ : ByteArray)).size + t553.size ≤ 9223372036854775807 then (some (t554.toList == (((t552.extract 0 ((wrap64 ((t552.size : Int) - (t553.size : Int))) : Int).toNat) ++ (⟨#[119, 104, 97, 116, 10]⟩ : ByteArray)) ++ t553).toList)) else (none)) else (none)) else (none)) else (none))) else (none)) = some r := H
   have A14 := Ae_q A140
   clear A140
   by_cases c15 : t551.size + 4 ≤ 9223372036854775807
   rotate_left
   ·rw [if_neg c15] at H
    exact absurd H (by simp)
   rw [if_pos c15] at H
   have c15b0 := eq_true c15
   have c15b1 : decide (t551.size + 4 ≤ 9223372036854775807) = true := dT_q c15
   try have c15b2 : (9223372036854775807 < t551.size + 4) = False := eq_false (Nat.not_lt.2 c15)
   replace H := oB_q.mp H
   obtain ⟨t554, A160, H⟩ := H
   replace H : (if 0 ≤ (wrap64 ((t552.size : Int) - (t553.size : Int))) then (if (wrap64 ((t552.size : Int) - (t553.size : Int))) ≤ (t552.size : Int) then (if (t552.extract 0 ((wrap64 ((t552.size : Int) - (t553.size : Int))) : Int).toNat).size + 5 ≤ 9223372036854775807 then (if ((t552.extract 0 ((wrap64 ((t552.size : Int) - (t553.size : Int))) : Int).toNat) ++ (⟨#[119, 104, 97, 116, 10]⟩ : ByteArray)).size + t553.size ≤ 9223372036854775807 then (some (t554.toList == (((t552.extract 0 ((wrap64 ((t552.size : Int) - (t553.size : Int))) : Int).toNat) ++ (⟨#[119, 104, 97, 116, 10]⟩ : ByteArray)) ++ t553).toList)) else (none)) else (none)) else (none)) else (none)) = some r := H
   have A16 := Ae_q A160
   clear A160
   obtain ⟨ji17, hji17⟩ : ∃ j_ : Int, (wrap64 ((t552.size : Int) - (t553.size : Int))) = j_ := ⟨_, rfl⟩
   replace H : (if 0 ≤ (ji17) then (if (ji17) ≤ (t552.size : Int) then (if (t552.extract 0 ((ji17) : Int).toNat).size + 5 ≤ 9223372036854775807 then (if ((t552.extract 0 ((ji17) : Int).toNat) ++ (⟨#[119, 104, 97, 116, 10]⟩ : ByteArray)).size + t553.size ≤ 9223372036854775807 then (some (t554.toList == (((t552.extract 0 ((ji17) : Int).toNat) ++ (⟨#[119, 104, 97, 116, 10]⟩ : ByteArray)) ++ t553).toList)) else (none)) else (none)) else (none)) else (none)) = some r := by first | (rw [hji17] at H; exact H) | (simp only [hji17] at H ⊢; exact H)
   (try rw [hji17] at A12)
   (try rw [hji17] at A13)
   (try rw [hji17] at A14)
   (try rw [hji17] at A16)
   have hji17w : (IntKind.i64.wrap ((t552.size : Int) - (t553.size : Int))) = ji17 := (i64_w _).trans hji17
   by_cases c18 : 0 ≤ (ji17)
   rotate_left
   ·rw [if_neg c18] at H
    exact absurd H (by simp)
   rw [if_pos c18] at H
   have c18b0 := eq_true c18
   have c18b1 : decide (0 ≤ (ji17)) = true := dT_q c18
   clear c18
   by_cases c19 : (ji17) ≤ (t552.size : Int)
   rotate_left
   ·rw [if_neg c19] at H
    exact absurd H (by simp)
   rw [if_pos c19] at H
   have c19b0 := eq_true c19
   have c19b1 : decide ((ji17) ≤ (t552.size : Int)) = true := dT_q c19
   clear c19
   by_cases c20 : (t552.extract 0 ((ji17) : Int).toNat).size + 5 ≤ 9223372036854775807
   rotate_left
   ·rw [if_neg c20] at H
    exact absurd H (by simp)
   rw [if_pos c20] at H
   have c20b0 := eq_true c20
   have c20b1 : decide ((t552.extract 0 ((ji17) : Int).toNat).size + 5 ≤ 9223372036854775807) = true := dT_q c20
   try have c20b2 : (9223372036854775807 < (t552.extract 0 ((ji17) : Int).toNat).size + 5) = False := eq_false (Nat.not_lt.2 c20)
   have c20b3 : (9223372036854775807 < ji17.toNat + 5) = False := eq_false (by have h_ := c20; have x0_ : (t552.extract 0 ((ji17) : Int).toNat).size = ji17.toNat := (by rw [ByteArray.size_extract]; have q_ : ji17 ≤ (t552.size : Int) := oD_q (by assumption); omega); simp only [ByteArray.size_append, x0_] at h_; omega)
   by_cases c21 : ((t552.extract 0 ((ji17) : Int).toNat) ++ (⟨#[119, 104, 97, 116, 10]⟩ : ByteArray)).size + t553.size ≤ 9223372036854775807
   rotate_left
   ·rw [if_neg c21] at H
    exact absurd H (by simp)
   rw [if_pos c21] at H
   have c21b0 := eq_true c21
   have c21b1 : decide (((t552.extract 0 ((ji17) : Int).toNat) ++ (⟨#[119, 104, 97, 116, 10]⟩ : ByteArray)).size + t553.size ≤ 9223372036854775807) = true := dT_q c21
   try have c21b2 : (9223372036854775807 < ((t552.extract 0 ((ji17) : Int).toNat) ++ (⟨#[119, 104, 97, 116, 10]⟩ : ByteArray)).size + t553.size) = False := eq_false (Nat.not_lt.2 c21)
   have c21b3 : (9223372036854775807 < ji17.toNat + 5 + t553.size) = False := eq_false (by have h_ := c21; have x0_ : (t552.extract 0 ((ji17) : Int).toNat).size = ji17.toNat := (by rw [ByteArray.size_extract]; have q_ : ji17 ≤ (t552.size : Int) := oD_q (by assumption); omega); have e0_ : (⟨#[119, 104, 97, 116, 10]⟩ : ByteArray).size = 5 := rfl; simp only [ByteArray.size_append, x0_, e0_] at h_; omega)
   obtain rfl := oI_q H
   try go_wp2_with (first | ((with_reducible refine gC_q (f := 15) rfl ?_); refine gL_q (some 31) rfl rfl Tryd.func15 m7_q rfl #[.string t548] rfl m0_q ?_; (with_reducible refine (laws_completeLines.calls kj5 t548 t551 _ A12.out).mono ?_); rintro e w' ⟨rfl, ⟨nd, rfl⟩⟩; refine ⟨_, rfl, ?_⟩) | ((with_reducible refine gC_q (f := 13) rfl ?_); refine gL_q (some 33) rfl rfl Tryd.func13 m7_q rfl #[.string t551] rfl m0_q ?_; (with_reducible refine (impl_Execute.calls kj5 t551 t552 _ A13.out m34_q).mono ?_); rintro e w22 ⟨rfl, hb⟩; refine ⟨_, rfl, ?_⟩; replace HB := Ae_q (bT_q (bel HB.out) hb); (try clear hb); (try clear hb2); (try clear hk); (try clear hi)) | ((with_reducible refine gC_q (f := 16) rfl ?_); refine gL_q (some 35) rfl rfl Tryd.func16 m7_q rfl #[.string t552] rfl m0_q ?_; (with_reducible refine (laws_lastLine.calls kj5 t552 t553 _ A14.out).mono ?_); rintro e w' ⟨rfl, ⟨nd, rfl⟩⟩; refine ⟨_, rfl, ?_⟩))
   (try (rw [drewN_self w22]; generalize hq_ : World.drewN w22 _ = w22; have n0_ : Aside0 (Below w.heap.size w w22) := ⟨by rw [← hq_]; exact (bel HB.out)⟩; clear HB hq_; have HB := n0_; clear n0_))
   replace HB := Ae_q (bD_q HB.out)
   refine start_ (n := 15) (S := fun w' => True) (ds := []) #[false, false, false, false, false, false, false, false, false, false, false, false, false, false, false] m7_q rfl rfl trivial (fun hHeld => ?_); refine with_tabW laws_FnScriptWhat.tab11 laws_FnScriptWhat.bits11 (fun HT_ HW_ => ?_)
   generalize w22.drew = w23 at HB hHeld ⊢
   refine pJ HT_ 0 36 rfl rfl ?_
   refine pJ HT_ 1 37 rfl rfl ?_
   refine pJ HT_ 3 39 rfl rfl ?_
   refine pJ HT_ 4 40 rfl rfl ?_
   refine pJ HT_ 5 41 rfl rfl ?_
   refine pJ HT_ 6 42 rfl rfl ?_
   refine pJ HT_ 7 43 rfl rfl ?_
   refine pJ HT_ 8 44 rfl rfl ?_
   refine pJ HT_ 9 45 rfl rfl ?_
   refine pJ HT_ 10 46 rfl rfl ?_
   refine pJ HT_ 11 47 rfl rfl ?_
   refine pJ HT_ 12 48 rfl rfl ?_
   refine one_ (i := 2) (N := some 38) #[true, true, true, true, true, true, true, true, true, true, true, true, true, false, false] rfl rfl (one_of HT_.out m7_q) (by decide) (fun K hK => ?_)
   refine goes_ Tryd.func13 m7_q rfl #[.string (t551 ++ (⟨#[122, 122, 122, 10]⟩ : ByteArray))] (by rfl) rfl rfl m0_q ?_
   with_reducible refine (impl_Execute.calls kj5 (t551 ++ (⟨#[122, 122, 122, 10]⟩ : ByteArray)) t554 _ A16.out m34_q).mono ?_
   rintro e w' ⟨rfl, hb⟩
   refine ⟨_, rfl, ?_⟩
   replace HB := Ae_q (bT_q (bel HB.out) hb)
   (try clear hb)
   (try clear hb2)
   (try clear hk)
   (try clear hi)
   refine hK.out _ _ trivial (fun hHeld => ?_)
   clear hK K
   refine nJ_q ?_
   refine pJ HT_ 13 49 rfl rfl ?_
   refine pJ HT_ 14 2 rfl rfl ?_
   refine done_ (done_of HT_.out m7_q) ?_
   try go_wp2
   go_ret
   exact ⟨by first | rfl | (simp [eN_q, eS_q] <;> rfl) | (simp only [← hji17]; first | rfl | (simp [eN_q, eS_q] <;> rfl)) | (simp [*, eN_q, eS_q] <;> rfl), bel HB.out⟩

def laws_FnScriptWhat.Pure : Prop := ∀ (l0 : List Int), l0.length ≤ maxLen → l0.length * 1 ≤ 140737488351232 → (∀ x ∈ l0, (Lit.int .u8 x).wf = true) → ∃ k, laws_FnScriptWhat.f k l0 = some true
theorem laws_FnScriptWhat.walk (P : laws_FnScriptWhat.Pure) (a0 : Option Addr) (len0 cap0 : Nat) (z0 : List Int) (w : World) (hG : Sh.GW w) (w0 : (a0 = none ∧ len0 = 0 ∧ cap0 = 0 ∧ z0 = []) ∨ ∃ x, a0 = some x ∧ len0 ≤ cap0 ∧ cap0 ≤ maxLen ∧ z0.length = cap0 ∧ (∀ i, i < z0.length → w.cell? (x.add i) = some (.int .u8 (z0.getD i 0))) ∧ ∀ n ∈ z0, (Lit.int .u8 n).wf = true) (y0 : len0 * 1 ≤ 140737488351232) :
    Calls Tryd.prog 5 #[.slice a0 len0 cap0] w fun e w' => e = .returned (.bool true) ∧ Below w.heap.size w w' := by
 obtain ⟨l0, rfl, hr0, hm0, hw0, hc0⟩ := ReadsInt.ofRowC w0
 obtain ⟨k, h⟩ := P l0 hm0 y0 hw0
 refine (laws_FnScriptWhat.calls k _ _ l0 true w (Kd.C_of_reads (d := (0 : Int)) (h1 := fun _ => rfl) hr0) hc0 h hG).mono ?_
 rintro e w' ⟨rfl, hd⟩
 exact ⟨rfl, hd⟩

end Go.Proofs.YtbclhpibilbdbaaDoor.PSc
