import Derived.Test.YtbclhpibilbdbaaDoorVDPScx0
namespace Go.Proofs.YtbclhpibilbdbaaDoor.PSc
open Go.RowKit Go.Proofs.YtbclhpibilbdbaaDoorW.PrintWords Go.Proofs.YtbclhpibilbdbaaDoorW.PrintLast Go.Proofs.YtbclhpibilbdbaaDoorW.PrintMore
attribute [local go_sem] max2_int min2_int max_two min_two max_three min_three max_four min_four
set_option linter.unusedVariables false
set_option linter.unusedSimpArgs false

def laws_completeLines.l0 : Nat → ByteArray → Int → Option (ByteArray)
 | 0, _, _ => none
 | k + 1, x0, x3 => if x3 > 0 then (if 0 ≤ (wrap64 (x3 - 1)) then (if (wrap64 (x3 - 1)) < (x0.size : Int) then (if (bt x0 (wrap64 (x3 - 1))) = 10 then (if 0 ≤ x3 then (if x3 ≤ (x0.size : Int) then (some (x0.extract 0 (x3 : Int).toNat)) else (none)) else (none)) else (laws_completeLines.l0 k x0 (wrap64 (x3 - 1)))) else (none)) else (none)) else (some (⟨#[]⟩ : ByteArray))
def laws_completeLines.f (k : Nat) (a0 : ByteArray) : Option (ByteArray) := laws_completeLines.l0 k a0 (a0.size : Int)
set_option maxHeartbeats 8000000 in
set_option maxRecDepth 100000 in
theorem laws_completeLines.calls (k : Nat) (a0 : ByteArray) (r : ByteArray) (w : World) (h : laws_completeLines.f k a0 = some r) :
    Calls Tryd.prog 15 #[.string a0] w fun e w' => e = .returned (.string r) ∧ Drawn0 w w' := by
 have H : (laws_completeLines.l0 k a0 (a0.size : Int)) = some r := h
 clear h
 have H' := Ae_q H
 clear H
 go_enter Tryd.func15, Tryd.ntmps15
 go_wp2
 go_loopg [3] k (fun kq v3 w' => ∃ (x3_1 : Int), v3 = .int .i64 x3_1 ∧ Aside0 (laws_completeLines.l0 kq a0 x3_1 = some r) ∧ Aside0 (kq ≤ k) ∧ Drawn0 w w')
 case atStart => exact ⟨((a0.size : Int)), m1_q, H', ⟨nR_q _⟩, m17_q⟩
 case round =>
  clear H'
  try clear c1
  obtain ⟨x3_1, rfl, HA, HK1, ⟨m1, rfl⟩⟩ := hrel
  cases gk with
  | zero => exact absurd HA.out (by simp [laws_completeLines.l0])
  | succ k1 =>
   have H := HA.out
   clear HA
   simp only [laws_completeLines.l0] at H
   by_cases c2 : x3_1 > 0
   rotate_left
   ·rw [if_neg c2] at H
    have c2b0 : decide (0 < x3_1) = false := dF_q c2
    clear c2
    obtain rfl := oI_q H
    go_wp2
    go_ret
    exact ⟨m1_q, m17_q⟩
   rw [if_pos c2] at H
   have c2b0 : decide (0 < x3_1) = true := dT_q c2
   clear c2
   obtain ⟨ji3, hji3⟩ : ∃ j_ : Int, (wrap64 (x3_1 - 1)) = j_ := ⟨_, rfl⟩
   replace H : (if 0 ≤ (ji3) then (if (ji3) < (a0.size : Int) then (if (bt a0 (ji3)) = 10 then (if 0 ≤ x3_1 then (if x3_1 ≤ (a0.size : Int) then (some (a0.extract 0 (x3_1 : Int).toNat)) else (none)) else (none)) else (laws_completeLines.l0 k1 a0 ji3)) else (none)) else (none)) = some r := by first | (rw [hji3] at H; exact H) | (simp only [hji3] at H ⊢; exact H)
   have hji3w : (IntKind.i64.wrap (x3_1 - 1)) = ji3 := (i64_w _).trans hji3
   by_cases c4 : 0 ≤ (ji3)
   rotate_left
   ·rw [if_neg c4] at H
    exact absurd H (by simp)
   rw [if_pos c4] at H
   have c4b0 : decide (0 ≤ (ji3)) = true := dT_q c4
   clear c4
   by_cases c5 : (ji3) < (a0.size : Int)
   rotate_left
   ·rw [if_neg c5] at H
    exact absurd H (by simp)
   rw [if_pos c5] at H
   have c5b0 : decide ((ji3) < (a0.size : Int)) = true := dT_q c5
   clear c5
   by_cases c7 : (bt a0 (ji3)) = 10
   rotate_left
   ·rw [if_neg c7] at H
    have c7b0 : ((bt a0 (ji3)) == 10) = false := fN_q.mpr c7
    have c7b1 : ((bt a0 (ji3)) != 10) = true := nI_q.mpr c7
    have H' := Ae_q H
    clear H
    have p6 : 0 ≤ ((ji3) : Int) := oD_q (by assumption)
    have q6 : (ji3) < (a0.size : Int) := oD_q (by assumption)
    have hx6 := bt_at a0 (ji3)
    replace p6 := eq_true p6
    replace q6 := eq_true q6
    go_wp2
    go_roundg k1
    case measure => have := HK1.out; omega
    case rel => exact ⟨(ji3), m92_q, H', ⟨m41_q⟩, m17_q⟩
   rw [if_pos c7] at H
   have c7b0 : ((bt a0 (ji3)) == 10) = true := beq_iff_eq.mpr c7
   have c7b1 : ((bt a0 (ji3)) != 10) = false := nE_q.mpr c7
   clear c7
   by_cases c8 : 0 ≤ x3_1
   rotate_left
   ·rw [if_neg c8] at H
    exact absurd H (by simp)
   rw [if_pos c8] at H
   have c8b0 := eq_true c8
   have c8b1 : decide (0 ≤ x3_1) = true := dT_q c8
   clear c8
   by_cases c9 : x3_1 ≤ (a0.size : Int)
   rotate_left
   ·rw [if_neg c9] at H
    exact absurd H (by simp)
   rw [if_pos c9] at H
   have c9b0 := eq_true c9
   have c9b1 : decide (x3_1 ≤ (a0.size : Int)) = true := dT_q c9
   clear c9
   obtain rfl := oI_q H
   have p6 : 0 ≤ ((ji3) : Int) := oD_q (by assumption)
   have q6 : (ji3) < (a0.size : Int) := oD_q (by assumption)
   have hx6 := bt_at a0 (ji3)
   replace p6 := eq_true p6
   replace q6 := eq_true q6
   go_wp2
   go_ret
   exact ⟨m92_q, m17_q⟩

end Go.Proofs.YtbclhpibilbdbaaDoor.PSc
