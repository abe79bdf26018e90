import Derived.Test.YtnhenfmegpjigaaVJPEvx0
import Derived.Test.YtnhenfmegpjigaaVJPEvx3
import Derived.Test.YtnhenfmegpjigaaVJPEvx5
import Derived.Test.YtnhenfmegpjigaaVJPEvx15
namespace Go.Proofs.Ytnhenfmegpjigaa.PEv
open Go.RowKit Go.Proofs.YtnhenfmegpjigaaW.PrintWords Go.Proofs.YtnhenfmegpjigaaW.PrintLast Go.Proofs.YtnhenfmegpjigaaW.PrintMore
attribute [local go_sem] max2_int min2_int max_two min_two max_three min_three max_four min_four
set_option linter.unusedVariables false
set_option linter.unusedSimpArgs false

def spec_l43Made.l0 : Nat → List (S27) → Int → Int → Int → Int → Option (Int)
 | 0, _, _, _, _, _ => none
 | k + 1, x0, x1, x2, x7, x8 => if x8 < x1 then (if 0 ≤ x8 then (if x8 < (x0.length : Int) then (if ((rd_T27 x0 x8).f2) = x2 then (if ((rd_T27 x0 x8).f0) = 1 then (spec_l43Made.l0 k x0 x1 x2 x8 (wrap64 (x8 + 1))) else (if ((rd_T27 x0 x8).f0) = 3 then (spec_l43Made.l0 k x0 x1 x2 (-1) (wrap64 (x8 + 1))) else (spec_l43Made.l0 k x0 x1 x2 x7 (wrap64 (x8 + 1))))) else (spec_l43Made.l0 k x0 x1 x2 x7 (wrap64 (x8 + 1)))) else (none)) else (none)) else (some x7)
def spec_l43Made.f (k : Nat) (l0 : List (S27)) (a1 : Int) (a2 : Int) : Option (Int) := spec_l43Made.l0 k l0 a1 a2 (-1) 0
set_option maxHeartbeats 8000000 in
set_option maxRecDepth 100000 in
theorem spec_l43Made.calls (k : Nat) (A0 : Option Addr) (c0 : Nat) (l0 : List (S27)) (a1 : Int) (a2 : Int) (r : Int) (w : World) (hr0 : Kd.C k27 w A0 l0.length l0) (hc0 : l0.length ≤ c0) (h : spec_l43Made.f k l0 a1 a2 = some r) :
    Calls Try.prog 52 #[.slice A0 l0.length c0, .int .i64 a1, .int .i64 a2] w fun e w' => e = .returned (.int .i64 r) ∧ Drawn0 w w' := by
 have HR0 := Ae_q hr0
 have HC0 := Ae_q hc0
 clear hr0 hc0
 have H : (spec_l43Made.l0 k l0 a1 a2 (-1) 0) = some r := h
 clear h
 have H' := Ae_q H
 clear H
 go_enter Try.func52, Try.ntmps52
 go_wp2
 go_loopg [7, 8] k (fun kq v7 v8 w' => ∃ (x7_1 : Int) (x8_1 : Int), v7 = .int .i64 x7_1 ∧ v8 = .int .i64 x8_1 ∧ Aside0 (spec_l43Made.l0 kq l0 a1 a2 x7_1 x8_1 = some r) ∧ Aside0 (kq ≤ k) ∧ Drawn0 w w')
 case atStart => exact ⟨((-1)), (0), (by first | rfl | (simp; done) | (simp [*]; done)), (by first | rfl | (simp; done) | (simp [*]; done)), H', ⟨nR_q _⟩, by repeat (first | exact Drawn0.refl _ | apply Drawn0.step)⟩
 case round =>
  clear H'
  try clear p2
  obtain ⟨x7_1, x8_1, rfl, rfl, HA, HK1, ⟨m1, rfl⟩⟩ := hrel
  cases gk with
  | zero => exact absurd HA.out (by simp [spec_l43Made.l0])
  | succ k1 =>
   have H := HA.out
   clear HA
   simp only [spec_l43Made.l0] at H
   by_cases c4 : x8_1 < a1
   rotate_left
   ·rw [if_neg c4] at H
    have c4b0 : decide (x8_1 < a1) = false := dF_q c4
    clear c4
    obtain rfl := oI_q H
    go_wp2
    go_ret
    exact ⟨by first | rfl | (simp; done) | (simp [*]; done), by repeat (first | exact Drawn0.refl _ | apply Drawn0.step)⟩
   rw [if_pos c4] at H
   have c4b0 : decide (x8_1 < a1) = true := dT_q c4
   clear c4
   by_cases c5 : 0 ≤ x8_1
   rotate_left
   ·rw [if_neg c5] at H
    exact absurd H (by simp)
   rw [if_pos c5] at H
   have c5b0 : decide (0 ≤ x8_1) = true := dT_q c5
   clear c5
   by_cases c6 : x8_1 < (l0.length : Int)
   rotate_left
   ·rw [if_neg c6] at H
    exact absurd H (by simp)
   rw [if_pos c6] at H
   have c6b0 : decide (x8_1 < (l0.length : Int)) = true := dT_q c6
   clear c6
   by_cases c7 : ((rd_T27 l0 x8_1).f2) = a2
   rotate_left
   ·rw [if_neg c7] at H
    have c7b0 : (((rd_T27 l0 x8_1).f2) == a2) = false := fN_q.mpr c7
    have c7b1 : (((rd_T27 l0 x8_1).f2) != a2) = true := nI_q.mpr c7
    have H' := Ae_q H
    clear H
    have p387 : 0 ≤ (x8_1 : Int) := oD_q (by assumption)
    have q387 : x8_1 < (l0.length : Int) := oD_q (by assumption)
    obtain ⟨ad387, e387, hx387_0, hx387_1, hx387_2, hx387_3, hx387_4, hx387_5⟩ := at_T27 HR0.out x8_1 p387 q387
    cases e387
    replace p387 := eq_true p387
    replace q387 := eq_true q387
    go_wp2
    go_roundg k1
    case measure => have := HK1.out; omega
    case rel => exact ⟨(x7_1), (wrap64 (x8_1 + 1)), (by first | rfl | (simp; done) | (simp [*]; done)), (by first | rfl | (simp; done) | (simp [*]; done)), H', ⟨by have := HK1.out; omega⟩, by repeat (first | exact Drawn0.refl _ | apply Drawn0.step)⟩
   rw [if_pos c7] at H
   have c7b0 : (((rd_T27 l0 x8_1).f2) == a2) = true := beq_iff_eq.mpr c7
   have c7b1 : (((rd_T27 l0 x8_1).f2) != a2) = false := nE_q.mpr c7
   clear c7
   by_cases c8 : ((rd_T27 l0 x8_1).f0) = 1
   ·rw [if_pos c8] at H
    have c8b0 : (((rd_T27 l0 x8_1).f0) == 1) = true := beq_iff_eq.mpr c8
    have c8b1 : (((rd_T27 l0 x8_1).f0) != 1) = false := nE_q.mpr c8
    clear c8
    have H' := Ae_q H
    clear H
    have p387 : 0 ≤ (x8_1 : Int) := oD_q (by assumption)
    have q387 : x8_1 < (l0.length : Int) := oD_q (by assumption)
    obtain ⟨ad387, e387, hx387_0, hx387_1, hx387_2, hx387_3, hx387_4, hx387_5⟩ := at_T27 HR0.out x8_1 p387 q387
    cases e387
    replace p387 := eq_true p387
    replace q387 := eq_true q387
    have p388 : 0 ≤ (x8_1 : Int) := oD_q (by assumption)
    have q388 : x8_1 < (l0.length : Int) := oD_q (by assumption)
    obtain ⟨ad388, e388, hx388_0, hx388_1, hx388_2, hx388_3, hx388_4, hx388_5⟩ := at_T27 HR0.out x8_1 p388 q388
    obtain rfl : ad387 = ad388 := (by injection e388)
    replace p388 := eq_true p388
    replace q388 := eq_true q388
    go_wp2
    go_roundg k1
    case measure => have := HK1.out; omega
    case rel => exact ⟨(x8_1), (wrap64 (x8_1 + 1)), (by first | rfl | (simp; done) | (simp [*]; done)), (by first | rfl | (simp; done) | (simp [*]; done)), H', ⟨by have := HK1.out; omega⟩, by repeat (first | exact Drawn0.refl _ | apply Drawn0.step)⟩
   rw [if_neg c8] at H
   have c8b0 : (((rd_T27 l0 x8_1).f0) == 1) = false := fN_q.mpr c8
   have c8b1 : (((rd_T27 l0 x8_1).f0) != 1) = true := nI_q.mpr c8
   by_cases c9 : ((rd_T27 l0 x8_1).f0) = 3
   ·rw [if_pos c9] at H
    have c9b0 : (((rd_T27 l0 x8_1).f0) == 3) = true := beq_iff_eq.mpr c9
    have c9b1 : (((rd_T27 l0 x8_1).f0) != 3) = false := nE_q.mpr c9
    clear c9
    have H' := Ae_q H
    clear H
    have p387 : 0 ≤ (x8_1 : Int) := oD_q (by assumption)
    have q387 : x8_1 < (l0.length : Int) := oD_q (by assumption)
    obtain ⟨ad387, e387, hx387_0, hx387_1, hx387_2, hx387_3, hx387_4, hx387_5⟩ := at_T27 HR0.out x8_1 p387 q387
    cases e387
    replace p387 := eq_true p387
    replace q387 := eq_true q387
    have p388 : 0 ≤ (x8_1 : Int) := oD_q (by assumption)
    have q388 : x8_1 < (l0.length : Int) := oD_q (by assumption)
    obtain ⟨ad388, e388, hx388_0, hx388_1, hx388_2, hx388_3, hx388_4, hx388_5⟩ := at_T27 HR0.out x8_1 p388 q388
    obtain rfl : ad387 = ad388 := (by injection e388)
    replace p388 := eq_true p388
    replace q388 := eq_true q388
    go_wp2
    go_roundg k1
    case measure => have := HK1.out; omega
    case rel => exact ⟨((-1)), (wrap64 (x8_1 + 1)), (by first | rfl | (simp; done) | (simp [*]; done)), (by first | rfl | (simp; done) | (simp [*]; done)), H', ⟨by have := HK1.out; omega⟩, by repeat (first | exact Drawn0.refl _ | apply Drawn0.step)⟩
   rw [if_neg c9] at H
   have c9b0 : (((rd_T27 l0 x8_1).f0) == 3) = false := fN_q.mpr c9
   have c9b1 : (((rd_T27 l0 x8_1).f0) != 3) = true := nI_q.mpr c9
   have H' := Ae_q H
   clear H
   have p387 : 0 ≤ (x8_1 : Int) := oD_q (by assumption)
   have q387 : x8_1 < (l0.length : Int) := oD_q (by assumption)
   obtain ⟨ad387, e387, hx387_0, hx387_1, hx387_2, hx387_3, hx387_4, hx387_5⟩ := at_T27 HR0.out x8_1 p387 q387
   cases e387
   replace p387 := eq_true p387
   replace q387 := eq_true q387
   have p388 : 0 ≤ (x8_1 : Int) := oD_q (by assumption)
   have q388 : x8_1 < (l0.length : Int) := oD_q (by assumption)
   obtain ⟨ad388, e388, hx388_0, hx388_1, hx388_2, hx388_3, hx388_4, hx388_5⟩ := at_T27 HR0.out x8_1 p388 q388
   obtain rfl : ad387 = ad388 := (by injection e388)
   replace p388 := eq_true p388
   replace q388 := eq_true q388
   go_wp2
   go_roundg k1
   case measure => have := HK1.out; omega
   case rel => exact ⟨(x7_1), (wrap64 (x8_1 + 1)), (by first | rfl | (simp; done) | (simp [*]; done)), (by first | rfl | (simp; done) | (simp [*]; done)), H', ⟨by have := HK1.out; omega⟩, by repeat (first | exact Drawn0.refl _ | apply Drawn0.step)⟩

end Go.Proofs.Ytnhenfmegpjigaa.PEv
