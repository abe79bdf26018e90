import Derived.Test.YtfnpiacmlahegaaVDPRpx0
import Derived.Test.YtfnpiacmlahegaaVDPRpx19
namespace Go.Proofs.Ytfnpiacmlahegaa.PRp
open Go.RowKit Go.Proofs.YtfnpiacmlahegaaW.PrintWords Go.Proofs.YtfnpiacmlahegaaW.PrintLast Go.Proofs.YtfnpiacmlahegaaW.PrintMore
attribute [local go_sem] max2_int min2_int max_two min_two max_three min_three max_four min_four
set_option linter.unusedVariables false
set_option linter.unusedSimpArgs false

def spec_l92Kitchen.f (k : Nat) (s0_0 : List Int) (s0_1 : Int) : Option (Int × List Int × Int) := (spec_l6Rd_pick.f k s0_0 s0_1 4).bind fun bt500 => ((spec_l6Rd_pick.f k s0_0 bt500.2 3).bind fun bt502 => ((spec_l6Rd_pick.f k s0_0 bt502.2 2).bind fun bt504 => ((spec_l6Rd_pick.f k s0_0 bt504.2 2).bind fun bt506 => ((spec_l6Rd_pick.f k s0_0 bt506.2 3).bind fun bt508 => ((some (([wrap64 (1 + bt502.1), wrap64 (1 + bt504.1), wrap64 (1 + bt506.1), bt508.1] : List Int) : List Int)).bind fun y510 => ((spec_l6Rd_pick.f k s0_0 bt508.2 30).bind fun bt514 => (if bt514.1 = 0 then ((some (([(-1), 0, 10] : List Int) : List Int)).bind fun y516 => ((spec_l6Rd_pick.f k s0_0 bt514.2 3).bind fun bt519 => (if 0 ≤ bt519.1 then (if bt519.1 < (y516.length : Int) then (some (rd y516 bt519.1, y510, bt519.2)) else (none)) else (none)))) else (if bt514.1 = 1 then ((spec_l6Rd_pick.f k s0_0 bt514.2 4).bind fun bt522 => ((some (([(-1), 0, 4] : List Int) : List Int)).bind fun y524 => ((spec_l6Rd_pick.f k s0_0 bt522.2 3).bind fun bt527 => (if 0 ≤ bt527.1 then (if bt527.1 < (y524.length : Int) then (if 0 ≤ bt522.1 then (if bt522.1 < (y510.length : Int) then (some (wrap64 (3 + bt500.1), (y510.set (bt522.1 : Int).toNat (rd y524 bt527.1)), bt527.2)) else (none)) else (none)) else (none)) else (none))))) else (if bt514.1 = 2 then ((spec_l6Rd_pick.f k s0_0 bt514.2 4).bind fun bt531 => (if 0 ≤ bt531.1 then (if bt531.1 ≤ (y510.length : Int) then (some (wrap64 (3 + bt500.1), (y510.take (bt531.1 : Int).toNat), bt531.2)) else (none)) else (none))) else (some (wrap64 (3 + bt500.1), y510, bt514.2)))))))))))
def spec_l92Kitchen.T6 : Bool × List (List Nat × List Nat) := (true, [([], []), ([0], [0]), ([], []), ([2], [2]), ([], []), ([], []), ([5, 3], [5]), ([4, 6], [4, 6]), ([7], [7]), ([1, 3, 0, 1, 2, 3, 4, 5, 6, 7, 8], [1, 3]), ([9, 8, 6, 0, 1, 2, 3, 4, 5, 6, 7, 8], [8, 9])])
def spec_l92Kitchen.B6 : List Nat := [0, 1, 0, 4, 0, 0, 44, 124, 252, 511, 1023]
theorem spec_l92Kitchen.tab6 : rtab .any (opsOf Try.f68 6) = spec_l92Kitchen.T6 := by kernel_rfl
theorem spec_l92Kitchen.bits6 : waitsOk spec_l92Kitchen.T6.2 spec_l92Kitchen.B6 = true := by kernel_rfl
set_option maxHeartbeats 8000000 in
set_option maxRecDepth 100000 in
theorem spec_l92Kitchen.calls (k : Nat) (g : Nat) (s0_0 : List Int) (s0_1 : Int) (r1 : Int) (r2 : List Int) (r3 : Int) (w0 w : World) (hI : IsS83 w0 w g s0_0 s0_1) (hB : Below w0.heap.size w0 w) (h : spec_l92Kitchen.f k s0_0 s0_1 = some (r1, r2, r3)) :
    Calls Try.prog 68 #[.pointer (some ⟨g, 0, none⟩)] w fun e w' => ∃ v1_ : Value, e = .returned (.agg #[.int .i64 r1, v1_]) ∧ Kd.R kI_q 3 w' w.heap.size (fun _ => True) v1_ r2 ∧ IsS83 w0 w' g s0_0 r3 ∧ Below w0.heap.size w0 w' ∧ KeepBut w w' g none := by
 have hu43 := Try.underlying43
 have HI0 := Ae_q hI
 have HK := Ae_q (KeepBut.refl w g none)
 have HL := Ae_q hB.size
 clear hI
 have HW0 := Ae_q hB.size
 have HB := Ae_q hB
 clear hB
 have H : ((spec_l6Rd_pick.f k s0_0 s0_1 4).bind fun bt500 => ((spec_l6Rd_pick.f k s0_0 bt500.2 3).bind fun bt502 => ((spec_l6Rd_pick.f k s0_0 bt502.2 2).bind fun bt504 => ((spec_l6Rd_pick.f k s0_0 bt504.2 2).bind fun bt506 => ((spec_l6Rd_pick.f k s0_0 bt506.2 3).bind fun bt508 => ((some (([wrap64 (1 + bt502.1), wrap64 (1 + bt504.1), wrap64 (1 + bt506.1), bt508.1] : List Int) : List Int)).bind fun y510 => ((spec_l6Rd_pick.f k s0_0 bt508.2 30).bind fun bt514 => (if bt514.1 = 0 then ((some (([(-1), 0, 10] : List Int) : List Int)).bind fun y516 => ((spec_l6Rd_pick.f k s0_0 bt514.2 3).bind fun bt519 => (if 0 ≤ bt519.1 then (if bt519.1 < (y516.length : Int) then (some (rd y516 bt519.1, y510, bt519.2)) else (none)) else (none)))) else (if bt514.1 = 1 then ((spec_l6Rd_pick.f k s0_0 bt514.2 4).bind fun bt522 => ((some (([(-1), 0, 4] : List Int) : List Int)).bind fun y524 => ((spec_l6Rd_pick.f k s0_0 bt522.2 3).bind fun bt527 => (if 0 ≤ bt527.1 then (if bt527.1 < (y524.length : Int) then (if 0 ≤ bt522.1 then (if bt522.1 < (y510.length : Int) then (some (wrap64 (3 + bt500.1), (y510.set (bt522.1 : Int).toNat (rd y524 bt527.1)), bt527.2)) else (none)) else (none)) else (none)) else (none))))) else (if bt514.1 = 2 then ((spec_l6Rd_pick.f k s0_0 bt514.2 4).bind fun bt531 => (if 0 ≤ bt531.1 then (if bt531.1 ≤ (y510.length : Int) then (some (wrap64 (3 + bt500.1), (y510.take (bt531.1 : Int).toNat), bt531.2)) else (none)) else (none))) else (some (wrap64 (3 + bt500.1), y510, bt514.2)))))))))))) = some (r1, r2, r3) := h
 clear h
 replace H := oB_q.mp H
 obtain ⟨⟨t500, t501⟩, A20, H⟩ := H
 replace H : ((spec_l6Rd_pick.f k s0_0 t501 3).bind fun bt502 => ((spec_l6Rd_pick.f k s0_0 bt502.2 2).bind fun bt504 => ((spec_l6Rd_pick.f k s0_0 bt504.2 2).bind fun bt506 => ((spec_l6Rd_pick.f k s0_0 bt506.2 3).bind fun bt508 => ((some (([wrap64 (1 + bt502.1), wrap64 (1 + bt504.1), wrap64 (1 + bt506.1), bt508.1] : List Int) : List Int)).bind fun y510 => ((spec_l6Rd_pick.f k s0_0 bt508.2 30).bind fun bt514 => (if bt514.1 = 0 then ((some (([(-1), 0, 10] : List Int) : List Int)).bind fun y516 => ((spec_l6Rd_pick.f k s0_0 bt514.2 3).bind fun bt519 => (if 0 ≤ bt519.1 then (if bt519.1 < (y516.length : Int) then (some (rd y516 bt519.1, y510, bt519.2)) else (none)) else (none)))) else (if bt514.1 = 1 then ((spec_l6Rd_pick.f k s0_0 bt514.2 4).bind fun bt522 => ((some (([(-1), 0, 4] : List Int) : List Int)).bind fun y524 => ((spec_l6Rd_pick.f k s0_0 bt522.2 3).bind fun bt527 => (if 0 ≤ bt527.1 then (if bt527.1 < (y524.length : Int) then (if 0 ≤ bt522.1 then (if bt522.1 < (y510.length : Int) then (some (wrap64 (3 + t500), (y510.set (bt522.1 : Int).toNat (rd y524 bt527.1)), bt527.2)) else (none)) else (none)) else (none)) else (none))))) else (if bt514.1 = 2 then ((spec_l6Rd_pick.f k s0_0 bt514.2 4).bind fun bt531 => (if 0 ≤ bt531.1 then (if bt531.1 ≤ (y510.length : Int) then (some (wrap64 (3 + t500), (y510.take (bt531.1 : Int).toNat), bt531.2)) else (none)) else (none))) else (some (wrap64 (3 + t500), y510, bt514.2))))))))))) = some (r1, r2, r3) := H
 have A2 := Ae_q A20
 clear A20
 replace H := oB_q.mp H
 obtain ⟨⟨t502, t503⟩, A30, H⟩ := H
 replace H : ((spec_l6Rd_pick.f k s0_0 t503 2).bind fun bt504 => ((spec_l6Rd_pick.f k s0_0 bt504.2 2).bind fun bt506 => ((spec_l6Rd_pick.f k s0_0 bt506.2 3).bind fun bt508 => ((some (([wrap64 (1 + t502), wrap64 (1 + bt504.1), wrap64 (1 + bt506.1), bt508.1] : List Int) : List Int)).bind fun y510 => ((spec_l6Rd_pick.f k s0_0 bt508.2 30).bind fun bt514 => (if bt514.1 = 0 then ((some (([(-1), 0, 10] : List Int) : List Int)).bind fun y516 => ((spec_l6Rd_pick.f k s0_0 bt514.2 3).bind fun bt519 => (if 0 ≤ bt519.1 then (if bt519.1 < (y516.length : Int) then (some (rd y516 bt519.1, y510, bt519.2)) else (none)) else (none)))) else (if bt514.1 = 1 then ((spec_l6Rd_pick.f k s0_0 bt514.2 4).bind fun bt522 => ((some (([(-1), 0, 4] : List Int) : List Int)).bind fun y524 => ((spec_l6Rd_pick.f k s0_0 bt522.2 3).bind fun bt527 => (if 0 ≤ bt527.1 then (if bt527.1 < (y524.length : Int) then (if 0 ≤ bt522.1 then (if bt522.1 < (y510.length : Int) then (some (wrap64 (3 + t500), (y510.set (bt522.1 : Int).toNat (rd y524 bt527.1)), bt527.2)) else (none)) else (none)) else (none)) else (none))))) else (if bt514.1 = 2 then ((spec_l6Rd_pick.f k s0_0 bt514.2 4).bind fun bt531 => (if 0 ≤ bt531.1 then (if bt531.1 ≤ (y510.length : Int) then (some (wrap64 (3 + t500), (y510.take (bt531.1 : Int).toNat), bt531.2)) else (none)) else (none))) else (some (wrap64 (3 + t500), y510, bt514.2)))))))))) = some (r1, r2, r3) := H
 have A3 := Ae_q A30
 clear A30
 replace H := oB_q.mp H
 obtain ⟨⟨t504, t505⟩, A40, H⟩ := H
 replace H : ((spec_l6Rd_pick.f k s0_0 t505 2).bind fun bt506 => ((spec_l6Rd_pick.f k s0_0 bt506.2 3).bind fun bt508 => ((some (([wrap64 (1 + t502), wrap64 (1 + t504), wrap64 (1 + bt506.1), bt508.1] : List Int) : List Int)).bind fun y510 => ((spec_l6Rd_pick.f k s0_0 bt508.2 30).bind fun bt514 => (if bt514.1 = 0 then ((some (([(-1), 0, 10] : List Int) : List Int)).bind fun y516 => ((spec_l6Rd_pick.f k s0_0 bt514.2 3).bind fun bt519 => (if 0 ≤ bt519.1 then (if bt519.1 < (y516.length : Int) then (some (rd y516 bt519.1, y510, bt519.2)) else (none)) else (none)))) else (if bt514.1 = 1 then ((spec_l6Rd_pick.f k s0_0 bt514.2 4).bind fun bt522 => ((some (([(-1), 0, 4] : List Int) : List Int)).bind fun y524 => ((spec_l6Rd_pick.f k s0_0 bt522.2 3).bind fun bt527 => (if 0 ≤ bt527.1 then (if bt527.1 < (y524.length : Int) then (if 0 ≤ bt522.1 then (if bt522.1 < (y510.length : Int) then (some (wrap64 (3 + t500), (y510.set (bt522.1 : Int).toNat (rd y524 bt527.1)), bt527.2)) else (none)) else (none)) else (none)) else (none))))) else (if bt514.1 = 2 then ((spec_l6Rd_pick.f k s0_0 bt514.2 4).bind fun bt531 => (if 0 ≤ bt531.1 then (if bt531.1 ≤ (y510.length : Int) then (some (wrap64 (3 + t500), (y510.take (bt531.1 : Int).toNat), bt531.2)) else (none)) else (none))) else (some (wrap64 (3 + t500), y510, bt514.2))))))))) = some (r1, r2, r3) := H
 have A4 := Ae_q A40
 clear A40
 replace H := oB_q.mp H
 obtain ⟨⟨t506, t507⟩, A50, H⟩ := H
 replace H : ((spec_l6Rd_pick.f k s0_0 t507 3).bind fun bt508 => ((some (([wrap64 (1 + t502), wrap64 (1 + t504), wrap64 (1 + t506), bt508.1] : List Int) : List Int)).bind fun y510 => ((spec_l6Rd_pick.f k s0_0 bt508.2 30).bind fun bt514 => (if bt514.1 = 0 then ((some (([(-1), 0, 10] : List Int) : List Int)).bind fun y516 => ((spec_l6Rd_pick.f k s0_0 bt514.2 3).bind fun bt519 => (if 0 ≤ bt519.1 then (if bt519.1 < (y516.length : Int) then (some (rd y516 bt519.1, y510, bt519.2)) else (none)) else (none)))) else (if bt514.1 = 1 then ((spec_l6Rd_pick.f k s0_0 bt514.2 4).bind fun bt522 => ((some (([(-1), 0, 4] : List Int) : List Int)).bind fun y524 => ((spec_l6Rd_pick.f k s0_0 bt522.2 3).bind fun bt527 => (if 0 ≤ bt527.1 then (if bt527.1 < (y524.length : Int) then (if 0 ≤ bt522.1 then (if bt522.1 < (y510.length : Int) then (some (wrap64 (3 + t500), (y510.set (bt522.1 : Int).toNat (rd y524 bt527.1)), bt527.2)) else (none)) else (none)) else (none)) else (none))))) else (if bt514.1 = 2 then ((spec_l6Rd_pick.f k s0_0 bt514.2 4).bind fun bt531 => (if 0 ≤ bt531.1 then (if bt531.1 ≤ (y510.length : Int) then (some (wrap64 (3 + t500), (y510.take (bt531.1 : Int).toNat), bt531.2)) else (none)) else (none))) else (some (wrap64 (3 + t500), y510, bt514.2)))))))) = some (r1, r2, r3) := H
 have A5 := Ae_q A50
 clear A50
 replace H := oB_q.mp H
 obtain ⟨⟨t508, t509⟩, A60, H⟩ := H
 replace H : ((some (([wrap64 (1 + t502), wrap64 (1 + t504), wrap64 (1 + t506), t508] : List Int) : List Int)).bind fun y510 => ((spec_l6Rd_pick.f k s0_0 t509 30).bind fun bt514 => (if bt514.1 = 0 then ((some (([(-1), 0, 10] : List Int) : List Int)).bind fun y516 => ((spec_l6Rd_pick.f k s0_0 bt514.2 3).bind fun bt519 => (if 0 ≤ bt519.1 then (if bt519.1 < (y516.length : Int) then (some (rd y516 bt519.1, y510, bt519.2)) else (none)) else (none)))) else (if bt514.1 = 1 then ((spec_l6Rd_pick.f k s0_0 bt514.2 4).bind fun bt522 => ((some (([(-1), 0, 4] : List Int) : List Int)).bind fun y524 => ((spec_l6Rd_pick.f k s0_0 bt522.2 3).bind fun bt527 => (if 0 ≤ bt527.1 then (if bt527.1 < (y524.length : Int) then (if 0 ≤ bt522.1 then (if bt522.1 < (y510.length : Int) then (some (wrap64 (3 + t500), (y510.set (bt522.1 : Int).toNat (rd y524 bt527.1)), bt527.2)) else (none)) else (none)) else (none)) else (none))))) else (if bt514.1 = 2 then ((spec_l6Rd_pick.f k s0_0 bt514.2 4).bind fun bt531 => (if 0 ≤ bt531.1 then (if bt531.1 ≤ (y510.length : Int) then (some (wrap64 (3 + t500), (y510.take (bt531.1 : Int).toNat), bt531.2)) else (none)) else (none))) else (some (wrap64 (3 + t500), y510, bt514.2))))))) = some (r1, r2, r3) := H
 have A6 := Ae_q A60
 clear A60
 obtain ⟨y510, hy510⟩ : ∃ y_ : List Int, y_ = (([wrap64 (1 + t502), wrap64 (1 + t504), wrap64 (1 + t506), t508] : List Int)) := ⟨_, rfl⟩
 replace H : ((spec_l6Rd_pick.f k s0_0 t509 30).bind fun bt514 => (if bt514.1 = 0 then ((some (([(-1), 0, 10] : List Int) : List Int)).bind fun y516 => ((spec_l6Rd_pick.f k s0_0 bt514.2 3).bind fun bt519 => (if 0 ≤ bt519.1 then (if bt519.1 < (y516.length : Int) then (some (rd y516 bt519.1, y510, bt519.2)) else (none)) else (none)))) else (if bt514.1 = 1 then ((spec_l6Rd_pick.f k s0_0 bt514.2 4).bind fun bt522 => ((some (([(-1), 0, 4] : List Int) : List Int)).bind fun y524 => ((spec_l6Rd_pick.f k s0_0 bt522.2 3).bind fun bt527 => (if 0 ≤ bt527.1 then (if bt527.1 < (y524.length : Int) then (if 0 ≤ bt522.1 then (if bt522.1 < (y510.length : Int) then (some (wrap64 (3 + t500), (y510.set (bt522.1 : Int).toNat (rd y524 bt527.1)), bt527.2)) else (none)) else (none)) else (none)) else (none))))) else (if bt514.1 = 2 then ((spec_l6Rd_pick.f k s0_0 bt514.2 4).bind fun bt531 => (if 0 ≤ bt531.1 then (if bt531.1 ≤ (y510.length : Int) then (some (wrap64 (3 + t500), (y510.take (bt531.1 : Int).toNat), bt531.2)) else (none)) else (none))) else (some (wrap64 (3 + t500), y510, bt514.2)))))) = some (r1, r2, r3) := by first | (rw [hy510]; with_reducible exact H) | (have H2_ := (oS_q _ _).symm.trans H; rw [hy510]; with_reducible exact H2_) | (have H2_ := (oS_q _ _).symm.trans H; with_reducible exact H2_) | with_reducible exact H | (rw [hy510]; exact H) | exact H
 have Ny510 := Ae_q hy510
 clear hy510
 replace H := oB_q.mp H
 obtain ⟨⟨t514, t515⟩, A70, H⟩ := H
 replace H : (if t514 = 0 then ((some (([(-1), 0, 10] : List Int) : List Int)).bind fun y516 => ((spec_l6Rd_pick.f k s0_0 t515 3).bind fun bt519 => (if 0 ≤ bt519.1 then (if bt519.1 < (y516.length : Int) then (some (rd y516 bt519.1, y510, bt519.2)) else (none)) else (none)))) else (if t514 = 1 then ((spec_l6Rd_pick.f k s0_0 t515 4).bind fun bt522 => ((some (([(-1), 0, 4] : List Int) : List Int)).bind fun y524 => ((spec_l6Rd_pick.f k s0_0 bt522.2 3).bind fun bt527 => (if 0 ≤ bt527.1 then (if bt527.1 < (y524.length : Int) then (if 0 ≤ bt522.1 then (if bt522.1 < (y510.length : Int) then (some (wrap64 (3 + t500), (y510.set (bt522.1 : Int).toNat (rd y524 bt527.1)), bt527.2)) else (none)) else (none)) else (none)) else (none))))) else (if t514 = 2 then ((spec_l6Rd_pick.f k s0_0 t515 4).bind fun bt531 => (if 0 ≤ bt531.1 then (if bt531.1 ≤ (y510.length : Int) then (some (wrap64 (3 + t500), (y510.take (bt531.1 : Int).toNat), bt531.2)) else (none)) else (none))) else (some (wrap64 (3 + t500), y510, t515))))) = some (r1, r2, r3) := H
 have A7 := Ae_q A70
 clear A70
 by_cases c8 : t514 = 0
 ·rw [if_pos c8] at H
  have c8b0 : (t514 == 0) = true := beq_iff_eq.mpr c8
  have c8b1 : (t514 != 0) = false := nE_q.mpr c8
  clear c8
  obtain ⟨y516, hy516⟩ : ∃ y_ : List Int, y_ = (([(-1), 0, 10] : List Int)) := ⟨_, rfl⟩
  replace H : ((spec_l6Rd_pick.f k s0_0 t515 3).bind fun bt519 => (if 0 ≤ bt519.1 then (if bt519.1 < (y516.length : Int) then (some (rd y516 bt519.1, y510, bt519.2)) else (none)) else (none))) = some (r1, r2, r3) := by first | (rw [hy516]; with_reducible exact H) | (have H2_ := (oS_q _ _).symm.trans H; rw [hy516]; with_reducible exact H2_) | (have H2_ := (oS_q _ _).symm.trans H; with_reducible exact H2_) | with_reducible exact H | (rw [hy516]; exact H) | exact H
  have Ny516 := Ae_q hy516
  clear hy516
  replace H := oB_q.mp H
  obtain ⟨⟨t519, t520⟩, A90, H⟩ := H
  replace H : (if 0 ≤ t519 then (if t519 < (y516.length : Int) then (some (rd y516 t519, y510, t520)) else (none)) else (none)) = some (r1, r2, r3) := H
  have A9 := Ae_q A90
  clear A90
  by_cases c10 : 0 ≤ t519
  rotate_left
  ·rw [if_neg c10] at H
   exact absurd H (by simp)
  rw [if_pos c10] at H
  have c10b0 : decide (0 ≤ t519) = true := dT_q c10
  clear c10
  by_cases c11 : t519 < (y516.length : Int)
  rotate_left
  ·rw [if_neg c11] at H
   exact absurd H (by simp)
  rw [if_pos c11] at H
  have c11b0 : decide (t519 < (y516.length : Int)) = true := dT_q c11
  clear c11
  simp only [oE_q, pE_q] at H
  obtain ⟨rfl, rfl, rfl⟩ := H
  go_enter Try.func68, Try.ntmps68
  go_wp2_with (first | ((with_reducible refine gD_q (N := 2) rfl ?_); refine bE_q ?hg (N := 2) ?hd (cs := #[.int .i64 0, .slice none 0 0]) (t := 43) ?hr ?_; (case hd => rfl); (case hg => rfl); (case hr => exact m5_q); intro gb499 hg w' hbox hb; replace HB := Ae_q (bT_q m9_q hb); have BK499 := Ae_q (hbox); have GW499 := Ae_q ((by rw [hg]; exact (keep_size (w := w) (g := g) (row := none) m4_q) : w.heap.size ≤ gb499)); have GE499 := Ae_q ((nT_q HW0.out (by rw [hg]; exact (keep_size (w := w) (g := g) (row := none) m4_q) : w.heap.size ≤ gb499) : w0.heap.size ≤ gb499)); replace HK := Ae_q (kT_q m4_q (kO_q hb g none) (.inl rfl)); have NB0_499 := Ae_q ((by rw [hg]; exact nL_q (i6_q (show IsS83 w0 _ g s0_0 s0_1 from by repeat (with_reducible first | exact HI0.out | apply i2_q | apply i1_q | apply i0_q | apply i3_q))) : g ≠ gb499)); have NB499_0 := Ae_q ((by rw [hg]; exact nG_q (i6_q (show IsS83 w0 _ g s0_0 s0_1 from by repeat (with_reducible first | exact HI0.out | apply i2_q | apply i1_q | apply i0_q | apply i3_q))) : gb499 ≠ g)); replace HI0 := Ae_q (i7_q m11_q hb); clear hb hbox hg) | ((with_reducible refine gC_q (f := 70) rfl ?_); (first | (refine gL_q (some 5) rfl rfl Try.func70 m8_q rfl #[.pointer (some ⟨g, 0, none⟩), .int .i64 4] rfl m0_q ?_; (with_reducible refine (spec_l6Rd_pick.calls k g s0_0 s0_1 4 t500 t501 w0 _ ?side1 ?side2 A2.out).mono ?_)) | (refine gL_q (some 8) rfl rfl Try.func70 m8_q rfl #[.pointer (some ⟨g, 0, none⟩), .int .i64 3] rfl m0_q ?_; (with_reducible refine (spec_l6Rd_pick.calls k g s0_0 t501 3 t502 t503 w0 _ ?side1 ?side2 A3.out).mono ?_)) | (refine gL_q (some 11) rfl rfl Try.func70 m8_q rfl #[.pointer (some ⟨g, 0, none⟩), .int .i64 2] rfl m0_q ?_; (with_reducible refine (spec_l6Rd_pick.calls k g s0_0 t503 2 t504 t505 w0 _ ?side1 ?side2 A4.out).mono ?_)) | (refine gL_q (some 14) rfl rfl Try.func70 m8_q rfl #[.pointer (some ⟨g, 0, none⟩), .int .i64 2] rfl m0_q ?_; (with_reducible refine (spec_l6Rd_pick.calls k g s0_0 t505 2 t506 t507 w0 _ ?side1 ?side2 A5.out).mono ?_)) | (refine gL_q (some 17) rfl rfl Try.func70 m8_q rfl #[.pointer (some ⟨g, 0, none⟩), .int .i64 3] rfl m0_q ?_; (with_reducible refine (spec_l6Rd_pick.calls k g s0_0 t507 3 t508 t509 w0 _ ?side1 ?side2 A6.out).mono ?_))); (case side1 => exact m36_q); (case side2 => exact m34_q); rintro e w' ⟨rfl, hi, hb, hk⟩; refine ⟨_, rfl, ?_⟩; replace BK499 := Ae_q (kB_q hk (g' := gb499) (o := .cells #[.int .i64 0, .slice none 0 0] 43 (0, 0)) (bup BK499.out) NB499_0.out (by simp)); replace HK := Ae_q (kT_q m15_q hk (.inl rfl)); replace HB := Ae_q (hb); replace HI0 := Ae_q (hi); (try clear hb); (try clear hb2); (try clear hk); (try clear hi)) | ((with_reducible refine gC_q (f := 70) rfl ?_); (first | (refine gL_q (some 21) rfl rfl Try.func70 m8_q rfl #[.pointer (some ⟨g, 0, none⟩), .int .i64 30] rfl m0_q ?_; (with_reducible refine (spec_l6Rd_pick.calls k g s0_0 t509 30 t514 t515 w0 _ ?side1 ?side2 A7.out).mono ?_); (case side1 => exact m13_q); (case side2 => exact m12_q); rintro e w' ⟨rfl, hi, hb, hk⟩; refine ⟨_, rfl, ?_⟩; replace BK499 := Ae_q (kB_q hk (g' := gb499) (o := .cells #[.int .i64 0, .slice none 0 0] 43 (0, 0)) m41_q NB499_0.out (by simp)); replace HO512 := Ae_q (rM_q (rK_q (IsS83.apart (show IsS83 w0 _ g s0_0 t509 from by repeat (with_reducible first | exact HI0.out | apply i2_q | apply i1_q | apply i0_q | apply i3_q | refine i4_q ?_ NB0_499.out _ | refine i4_q ?_ NB0_513.out _)) (by (with_reducible repeat (first | apply rA_q | apply rN_q | apply rD_q)); exact (rM_q (Kd.R_far (p := ⟨gb513, 1, none⟩) (Kd.R_far (p := ⟨gb513, 0, none⟩) (Kd.R_types HO512.out BK513.out (by decide)) (fun _ hk => hk.2) (.int .i64 (wrap64 (3 + t500)))) (fun _ hk => hk.2) (.slice Ao20 y510.length co20)) (fun _ h_ => h_.1))) (by decide)) hk (fun _ h => h.2)) (fun _ h => h.1)); replace BK513 := Ae_q (kB_q hk (g' := gb513) (o := .cells #[.int .i64 (wrap64 (3 + t500)), .slice Ao20 y510.length co20] 43 (0, 0)) m33_q NB513_0.out (by simp)); replace HK := Ae_q (kT_q m10_q hk (.inl rfl)); replace HB := Ae_q (hb); replace HI0 := Ae_q (hi); (try clear hb); (try clear hb2); (try clear hk); (try clear hi)) | (refine gL_q (some 26) rfl rfl Try.func70 m8_q rfl #[.pointer (some ⟨g, 0, none⟩), .int .i64 3] rfl m0_q ?_; (with_reducible refine (spec_l6Rd_pick.calls k g s0_0 t515 3 t519 t520 w0 _ ?side1 ?side2 A9.out).mono ?_); (case side1 => exact m13_q); (case side2 => exact m12_q); rintro e w28 ⟨rfl, hi, hb, hk⟩; refine ⟨_, rfl, ?_⟩; replace BK499 := Ae_q (kB_q hk (g' := gb499) (o := .cells #[.int .i64 0, .slice none 0 0] 43 (0, 0)) (bup BK499.out) NB499_0.out (by simp)); replace HO512 := Ae_q (rM_q (rK_q (IsS83.apart (show IsS83 w0 _ g s0_0 t515 from by repeat (with_reducible first | exact HI0.out | apply i2_q | apply i1_q | apply i0_q | apply i3_q | refine i4_q ?_ NB0_499.out _ | refine i4_q ?_ NB0_513.out _)) (rup HO512.out) (by decide)) hk (fun _ h => h.2)) (fun _ h => h.1)); replace BK513 := Ae_q (kB_q hk (g' := gb513) (o := .cells #[.int .i64 (wrap64 (3 + t500)), .slice Ao20 y510.length co20] 43 (0, 0)) (bup BK513.out) NB513_0.out (by simp)); replace HO518 := Ae_q (rM_q (rK_q (IsS83.apart (show IsS83 w0 _ g s0_0 t515 from by repeat (with_reducible first | exact HI0.out | apply i2_q | apply i1_q | apply i0_q | apply i3_q | refine i4_q ?_ NB0_499.out _ | refine i4_q ?_ NB0_513.out _)) (rup HO518.out) (by decide)) hk (fun _ h => h.2)) (fun _ h => h.1)); replace HK := Ae_q (kT_q m10_q hk (.inl rfl)); replace HB := Ae_q (hb); replace HI0 := Ae_q (hi); (try clear hb); (try clear hb2); (try clear hk); (try clear hi); obtain ⟨Ao29, co29, eo29⟩ := rS_q HO518.out; subst eo29; have p521 : 0 ≤ (t519 : Int) := oD_q (by assumption); have q521 : t519 < (y516.length : Int) := oD_q (by assumption); obtain ⟨ad521, e521, hx521_0⟩ := aI_q (rR_q HO518.out).2.2 t519 p521 q521; cases e521; replace p521 := eq_true p521; replace q521 := eq_true q521; have hcz30_0 : cI w28 gb513 0 (wrap64 (3 + t500)) := cZ BK513 0 rfl; have hcz30_1 : w28.cell? ⟨gb513, 1, none⟩ = some (.slice Ao20 y510.length co20) := (bC_q BK513.out 1).trans rfl; have hfz30_0 := bF_q BK513.out 0; have hfz30_1 := bF_q BK513.out 1; have hnb31 := NB499_0.out; have hnc31 := NB0_499.out; have hcz32_0 : cI w28 gb499 0 0 := cZ BK499 0 rfl; have hcz32_1 : w28.cell? ⟨gb499, 1, none⟩ = some (.slice none 0 0) := (bC_q BK499.out 1).trans rfl; have hfz32_0 := bF_q BK499.out 0; have hfz32_1 := bF_q BK499.out 1))) | ((with_reducible refine gD_q (N := 18) rfl ?_); refine Kd.R_lit kI_q _ 3 ?hg (N := 18) ?hd (xs := ([wrap64 (1 + t502), wrap64 (1 + t504), wrap64 (1 + t506), t508] : List Int)) (inner := [.int .i64 (wrap64 (1 + t502)), .int .i64 (wrap64 (1 + t504)), .int .i64 (wrap64 (1 + t506)), .int .i64 t508]) (ok := fun _ => True) (okp := fun _ => True) ?hr ?hp (fun _ hk => hk) trivial (bR_q _ _) (nR_q _) (by simp) ?_; (case hd => rfl); (case hg => rfl); (case hr => exact m5_q); (case hp => exact m38_q); intro v511 w18 ho19 hb hg_ hnew_; clear hg_ hnew_; (first | rw [← Ny510.out] at ho19 | (simp only [Int.reduceToNat] at ho19; rw [← Ny510.out] at ho19)); have HO512 := Ae_q (rL_q ho19 (keep_size (w := w) (g := g) (row := none) m15_q)); replace BK499 := Ae_q (bB_q (g := gb499) (o := .cells #[.int .i64 0, .slice none 0 0] 43 (0, 0)) (bup BK499.out) hb); replace HK := Ae_q (kT_q m15_q (kO_q hb g none) (.inl rfl)); replace HB := Ae_q (bT_q m34_q hb); replace HI0 := Ae_q (i7_q m36_q hb); clear hb ho19; obtain ⟨Ao20, co20, eo20⟩ := rS_q HO512.out; subst eo20) | ((with_reducible refine gD_q (N := 3) rfl ?_); refine bE_q ?hg (N := 3) ?hd (cs := #[.int .i64 0, .slice none 0 0]) (t := 43) ?hr ?_; (case hd => rfl); (case hg => rfl); (case hr => exact m5_q); intro gb513 hg w21 hbox hb; replace HO512 := Ae_q (rO_q (rup HO512.out) hb); replace HB := Ae_q (bT_q m34_q hb); have BK513 := Ae_q (hbox); have GW513 := Ae_q ((by rw [hg]; exact (keep_size (w := w) (g := g) (row := none) m15_q) : w.heap.size ≤ gb513)); have GE513 := Ae_q ((nT_q HW0.out (by rw [hg]; exact (keep_size (w := w) (g := g) (row := none) m15_q) : w.heap.size ≤ gb513) : w0.heap.size ≤ gb513)); replace HK := Ae_q (kT_q m15_q (kO_q hb g none) (.inl rfl)); have NB499_513 := Ae_q ((by rw [hg]; exact nL_q (blk_lt (g := gb499) (o := .cells #[.int .i64 0, .slice none 0 0] 43 (0, 0)) (bup BK499.out)) : gb499 ≠ gb513)); have NB513_499 := Ae_q ((by rw [hg]; exact nG_q (blk_lt (g := gb499) (o := .cells #[.int .i64 0, .slice none 0 0] 43 (0, 0)) (bup BK499.out)) : gb513 ≠ gb499)); replace BK499 := Ae_q (bB_q (g := gb499) (o := .cells #[.int .i64 0, .slice none 0 0] 43 (0, 0)) (bup BK499.out) hb); have NB0_513 := Ae_q ((by rw [hg]; exact nL_q (i6_q (show IsS83 w0 _ g s0_0 t509 from by repeat (with_reducible first | exact HI0.out | apply i2_q | apply i1_q | apply i0_q | apply i3_q | refine i4_q ?_ NB0_499.out _))) : g ≠ gb513)); have NB513_0 := Ae_q ((by rw [hg]; exact nG_q (i6_q (show IsS83 w0 _ g s0_0 t509 from by repeat (with_reducible first | exact HI0.out | apply i2_q | apply i1_q | apply i0_q | apply i3_q | refine i4_q ?_ NB0_499.out _))) : gb513 ≠ g)); replace HI0 := Ae_q (i7_q m36_q hb); clear hb hbox hg; have hnb22 := NB513_499.out; have hnc22 := NB499_513.out; have hnb23 := NB513_0.out; have hnc23 := NB0_513.out; have hcz24_0 : cI w21 gb513 0 0 := cZ BK513 0 rfl; have hcz24_1 : w21.cell? ⟨gb513, 1, none⟩ = some (.slice none 0 0) := (bC_q BK513.out 1).trans rfl; have hfz24_0 := bF_q BK513.out 0; have hfz24_1 := bF_q BK513.out 1) | ((with_reducible refine gD_q (N := 24) rfl ?_); refine Kd.R_lit kI_q _ 3 ?hg (N := 24) ?hd (xs := ([(-1), 0, 10] : List Int)) (inner := [.int .i64 (-1), .int .i64 0, .int .i64 10]) (ok := fun _ => True) (okp := fun _ => True) ?hr ?hp (fun _ hk => hk) trivial (bR_q _ _) (nR_q _) (by simp) ?_; (case hd => rfl); (case hg => rfl); (case hr => exact m5_q); (case hp => exact (Reps.one (show Kd.M kI_q _ _ _ (-1) [.int .i64 (-1)] from rfl) (Reps.one (show Kd.M kI_q _ _ _ 0 [.int .i64 0] from rfl) (Reps.one (show Kd.M kI_q _ _ _ 10 [.int .i64 10] from rfl) (Reps.none _ _))))); intro v517 w26 ho27 hb hg_ hnew_; clear hg_ hnew_; (first | rw [← Ny516.out] at ho27 | (simp only [Int.reduceToNat] at ho27; rw [← Ny516.out] at ho27)); have HO518 := Ae_q (rL_q (rW_q ho27 (rT_q (rup HO512.out))) (keep_size (w := w) (g := g) (row := none) m10_q)); replace HO512 := Ae_q (rE_q (rup HO512.out) (rB_q ho27) hb); replace BK499 := Ae_q (bB_q (g := gb499) (o := .cells #[.int .i64 0, .slice none 0 0] 43 (0, 0)) (bup BK499.out) hb); replace BK513 := Ae_q (bB_q (g := gb513) (o := .cells #[.int .i64 (wrap64 (3 + t500)), .slice Ao20 y510.length co20] 43 (0, 0)) (bup BK513.out) hb); replace HK := Ae_q (kT_q m10_q (kO_q hb g none) (.inl rfl)); replace HB := Ae_q (bT_q m12_q hb); replace HI0 := Ae_q (i7_q m13_q hb); clear hb ho27))
  refine bodyPost_ret (results_cell_row rfl _ _ gb499 43 #[.int .i64 (rd y516 t519), .slice Ao20 y510.length co20] (0, 0) _ rfl (by (with_reducible repeat (first | refine bN_q ?_ _ | refine bW_q ?_ | refine bL_q ?_ _)); refine blk_put (cs := #[.int .i64 (rd y516 t519), .slice none 0 0]) ?_ 1 _ rfl; (with_reducible repeat (first | refine bN_q ?_ _ | refine bW_q ?_ | refine bL_q ?_ _)); refine blk_put (cs := #[.int .i64 0, .slice none 0 0]) ?_ 0 _ rfl; (with_reducible repeat (first | refine bN_q ?_ _ | refine bW_q ?_ | refine bL_q ?_ _)); refine blk_far ?_ NB499_513.out _; (with_reducible repeat (first | refine bN_q ?_ _ | refine bW_q ?_ | refine bL_q ?_ _)); exact BK499.out) Try.underlying43 rfl m8_q) rfl ?_
  exact ⟨_, m6_q, by (with_reducible repeat (first | apply rA_q | apply rN_q | apply rD_q)); exact rM_q (Kd.R_far (p := ⟨gb499, 1, none⟩) (Kd.R_far (p := ⟨gb499, 0, none⟩) (Kd.R_far (p := ⟨gb513, 0, none⟩) (Kd.R_types (Kd.R_types HO512.out BK513.out (by decide)) BK499.out (by decide)) (fun _ hk => hk.1.2) (.int .i64 (rd y516 t519))) (fun _ hk => hk.2) (.int .i64 (rd y516 t519))) (fun _ hk => hk.2) (.slice Ao20 y510.length co20)) (fun _ hk => trivial), m13_q, m12_q, m10_q⟩
 rw [if_neg c8] at H
 have c8b0 : (t514 == 0) = false := fN_q.mpr c8
 have c8b1 : (t514 != 0) = true := nI_q.mpr c8
 by_cases c33 : t514 = 1
 rotate_left
 ·rw [if_neg c33] at H
  have c33b0 : (t514 == 1) = false := fN_q.mpr c33
  have c33b1 : (t514 != 1) = true := nI_q.mpr c33
  by_cases c68 : t514 = 2
  rotate_left
  ·rw [if_neg c68] at H
   have c68b0 : (t514 == 2) = false := fN_q.mpr c68
   have c68b1 : (t514 != 2) = true := nI_q.mpr c68
   simp only [oE_q, pE_q] at H
   obtain ⟨rfl, rfl, rfl⟩ := H
   go_enter Try.func68, Try.ntmps68
   go_wp2_with (first | ((with_reducible refine gD_q (N := 2) rfl ?_); refine bE_q ?hg (N := 2) ?hd (cs := #[.int .i64 0, .slice none 0 0]) (t := 43) ?hr ?_; (case hd => rfl); (case hg => rfl); (case hr => exact m5_q); intro gb499 hg w' hbox hb; replace HB := Ae_q (bT_q m9_q hb); have BK499 := Ae_q (hbox); have GW499 := Ae_q ((by rw [hg]; exact (keep_size (w := w) (g := g) (row := none) m4_q) : w.heap.size ≤ gb499)); have GE499 := Ae_q ((nT_q HW0.out (by rw [hg]; exact (keep_size (w := w) (g := g) (row := none) m4_q) : w.heap.size ≤ gb499) : w0.heap.size ≤ gb499)); replace HK := Ae_q (kT_q m4_q (kO_q hb g none) (.inl rfl)); have NB0_499 := Ae_q ((by rw [hg]; exact nL_q (i6_q (show IsS83 w0 _ g s0_0 s0_1 from by repeat (with_reducible first | exact HI0.out | apply i2_q | apply i1_q | apply i0_q | apply i3_q))) : g ≠ gb499)); have NB499_0 := Ae_q ((by rw [hg]; exact nG_q (i6_q (show IsS83 w0 _ g s0_0 s0_1 from by repeat (with_reducible first | exact HI0.out | apply i2_q | apply i1_q | apply i0_q | apply i3_q))) : gb499 ≠ g)); replace HI0 := Ae_q (i7_q m11_q hb); clear hb hbox hg) | ((with_reducible refine gC_q (f := 70) rfl ?_); (first | (refine gL_q (some 5) rfl rfl Try.func70 m8_q rfl #[.pointer (some ⟨g, 0, none⟩), .int .i64 4] rfl m0_q ?_; (with_reducible refine (spec_l6Rd_pick.calls k g s0_0 s0_1 4 t500 t501 w0 _ ?side1 ?side2 A2.out).mono ?_)) | (refine gL_q (some 8) rfl rfl Try.func70 m8_q rfl #[.pointer (some ⟨g, 0, none⟩), .int .i64 3] rfl m0_q ?_; (with_reducible refine (spec_l6Rd_pick.calls k g s0_0 t501 3 t502 t503 w0 _ ?side1 ?side2 A3.out).mono ?_)) | (refine gL_q (some 11) rfl rfl Try.func70 m8_q rfl #[.pointer (some ⟨g, 0, none⟩), .int .i64 2] rfl m0_q ?_; (with_reducible refine (spec_l6Rd_pick.calls k g s0_0 t503 2 t504 t505 w0 _ ?side1 ?side2 A4.out).mono ?_)) | (refine gL_q (some 14) rfl rfl Try.func70 m8_q rfl #[.pointer (some ⟨g, 0, none⟩), .int .i64 2] rfl m0_q ?_; (with_reducible refine (spec_l6Rd_pick.calls k g s0_0 t505 2 t506 t507 w0 _ ?side1 ?side2 A5.out).mono ?_)) | (refine gL_q (some 17) rfl rfl Try.func70 m8_q rfl #[.pointer (some ⟨g, 0, none⟩), .int .i64 3] rfl m0_q ?_; (with_reducible refine (spec_l6Rd_pick.calls k g s0_0 t507 3 t508 t509 w0 _ ?side1 ?side2 A6.out).mono ?_))); (case side1 => exact m36_q); (case side2 => exact m34_q); rintro e w' ⟨rfl, hi, hb, hk⟩; refine ⟨_, rfl, ?_⟩; replace BK499 := Ae_q (kB_q hk (g' := gb499) (o := .cells #[.int .i64 0, .slice none 0 0] 43 (0, 0)) (bup BK499.out) NB499_0.out (by simp)); replace HK := Ae_q (kT_q m15_q hk (.inl rfl)); replace HB := Ae_q (hb); replace HI0 := Ae_q (hi); (try clear hb); (try clear hb2); (try clear hk); (try clear hi)) | ((with_reducible refine gC_q (f := 70) rfl ?_); refine gL_q (some 21) rfl rfl Try.func70 m8_q rfl #[.pointer (some ⟨g, 0, none⟩), .int .i64 30] rfl m0_q ?_; (with_reducible refine (spec_l6Rd_pick.calls k g s0_0 t509 30 t514 t515 w0 _ ?side1 ?side2 A7.out).mono ?_); (case side1 => exact m13_q); (case side2 => exact m12_q); rintro e w106 ⟨rfl, hi, hb, hk⟩; refine ⟨_, rfl, ?_⟩; replace BK499 := Ae_q (kB_q hk (g' := gb499) (o := .cells #[.int .i64 0, .slice none 0 0] 43 (0, 0)) m41_q NB499_0.out (by simp)); replace HO512 := Ae_q (rM_q (rK_q (IsS83.apart (show IsS83 w0 _ g s0_0 t509 from by repeat (with_reducible first | exact HI0.out | apply i2_q | apply i1_q | apply i0_q | apply i3_q | refine i4_q ?_ NB0_499.out _ | refine i4_q ?_ NB0_513.out _)) (by (with_reducible repeat (first | apply rA_q | apply rN_q | apply rD_q)); exact (rM_q (Kd.R_far (p := ⟨gb513, 1, none⟩) (Kd.R_far (p := ⟨gb513, 0, none⟩) (Kd.R_types HO512.out BK513.out (by decide)) (fun _ hk => hk.2) (.int .i64 (wrap64 (3 + t500)))) (fun _ hk => hk.2) (.slice Ao101 y510.length co101)) (fun _ h_ => h_.1))) (by decide)) hk (fun _ h => h.2)) (fun _ h => h.1)); replace BK513 := Ae_q (kB_q hk (g' := gb513) (o := .cells #[.int .i64 (wrap64 (3 + t500)), .slice Ao101 y510.length co101] 43 (0, 0)) m33_q NB513_0.out (by simp)); replace HK := Ae_q (kT_q m10_q hk (.inl rfl)); replace HB := Ae_q (hb); replace HI0 := Ae_q (hi); (try clear hb); (try clear hb2); (try clear hk); (try clear hi); have hcz107_0 : cI w106 gb513 0 (wrap64 (3 + t500)) := cZ BK513 0 rfl; have hcz107_1 : w106.cell? ⟨gb513, 1, none⟩ = some (.slice Ao101 y510.length co101) := (bC_q BK513.out 1).trans rfl; have hfz107_0 := bF_q BK513.out 0; have hfz107_1 := bF_q BK513.out 1; have hnb108 := NB499_0.out; have hnc108 := NB0_499.out; have hcz109_0 : cI w106 gb499 0 0 := cZ BK499 0 rfl; have hcz109_1 : w106.cell? ⟨gb499, 1, none⟩ = some (.slice none 0 0) := (bC_q BK499.out 1).trans rfl; have hfz109_0 := bF_q BK499.out 0; have hfz109_1 := bF_q BK499.out 1) | ((with_reducible refine gD_q (N := 18) rfl ?_); refine Kd.R_lit kI_q _ 3 ?hg (N := 18) ?hd (xs := ([wrap64 (1 + t502), wrap64 (1 + t504), wrap64 (1 + t506), t508] : List Int)) (inner := [.int .i64 (wrap64 (1 + t502)), .int .i64 (wrap64 (1 + t504)), .int .i64 (wrap64 (1 + t506)), .int .i64 t508]) (ok := fun _ => True) (okp := fun _ => True) ?hr ?hp (fun _ hk => hk) trivial (bR_q _ _) (nR_q _) (by simp) ?_; (case hd => rfl); (case hg => rfl); (case hr => exact m5_q); (case hp => exact m38_q); intro v511 w99 ho100 hb hg_ hnew_; clear hg_ hnew_; (first | rw [← Ny510.out] at ho100 | (simp only [Int.reduceToNat] at ho100; rw [← Ny510.out] at ho100)); have HO512 := Ae_q (rL_q ho100 (keep_size (w := w) (g := g) (row := none) m15_q)); replace BK499 := Ae_q (bB_q (g := gb499) (o := .cells #[.int .i64 0, .slice none 0 0] 43 (0, 0)) (bup BK499.out) hb); replace HK := Ae_q (kT_q m15_q (kO_q hb g none) (.inl rfl)); replace HB := Ae_q (bT_q m34_q hb); replace HI0 := Ae_q (i7_q m36_q hb); clear hb ho100; obtain ⟨Ao101, co101, eo101⟩ := rS_q HO512.out; subst eo101) | ((with_reducible refine gD_q (N := 3) rfl ?_); refine bE_q ?hg (N := 3) ?hd (cs := #[.int .i64 0, .slice none 0 0]) (t := 43) ?hr ?_; (case hd => rfl); (case hg => rfl); (case hr => exact m5_q); intro gb513 hg w102 hbox hb; replace HO512 := Ae_q (rO_q (rup HO512.out) hb); replace HB := Ae_q (bT_q m34_q hb); have BK513 := Ae_q (hbox); have GW513 := Ae_q ((by rw [hg]; exact (keep_size (w := w) (g := g) (row := none) m15_q) : w.heap.size ≤ gb513)); have GE513 := Ae_q ((nT_q HW0.out (by rw [hg]; exact (keep_size (w := w) (g := g) (row := none) m15_q) : w.heap.size ≤ gb513) : w0.heap.size ≤ gb513)); replace HK := Ae_q (kT_q m15_q (kO_q hb g none) (.inl rfl)); have NB499_513 := Ae_q ((by rw [hg]; exact nL_q (blk_lt (g := gb499) (o := .cells #[.int .i64 0, .slice none 0 0] 43 (0, 0)) (bup BK499.out)) : gb499 ≠ gb513)); have NB513_499 := Ae_q ((by rw [hg]; exact nG_q (blk_lt (g := gb499) (o := .cells #[.int .i64 0, .slice none 0 0] 43 (0, 0)) (bup BK499.out)) : gb513 ≠ gb499)); replace BK499 := Ae_q (bB_q (g := gb499) (o := .cells #[.int .i64 0, .slice none 0 0] 43 (0, 0)) (bup BK499.out) hb); have NB0_513 := Ae_q ((by rw [hg]; exact nL_q (i6_q (show IsS83 w0 _ g s0_0 t509 from by repeat (with_reducible first | exact HI0.out | apply i2_q | apply i1_q | apply i0_q | apply i3_q | refine i4_q ?_ NB0_499.out _))) : g ≠ gb513)); have NB513_0 := Ae_q ((by rw [hg]; exact nG_q (i6_q (show IsS83 w0 _ g s0_0 t509 from by repeat (with_reducible first | exact HI0.out | apply i2_q | apply i1_q | apply i0_q | apply i3_q | refine i4_q ?_ NB0_499.out _))) : gb513 ≠ g)); replace HI0 := Ae_q (i7_q m36_q hb); clear hb hbox hg; have hnb103 := NB513_499.out; have hnc103 := NB499_513.out; have hnb104 := NB513_0.out; have hnc104 := NB0_513.out; have hcz105_0 : cI w102 gb513 0 0 := cZ BK513 0 rfl; have hcz105_1 : w102.cell? ⟨gb513, 1, none⟩ = some (.slice none 0 0) := (bC_q BK513.out 1).trans rfl; have hfz105_0 := bF_q BK513.out 0; have hfz105_1 := bF_q BK513.out 1))
   refine bodyPost_ret (results_cell_row rfl _ _ gb499 43 #[.int .i64 (wrap64 (3 + t500)), .slice Ao101 y510.length co101] (0, 0) _ rfl m74_q Try.underlying43 rfl m8_q) rfl ?_
   exact ⟨_, m6_q, by (with_reducible repeat (first | apply rA_q | apply rN_q | apply rD_q)); exact rM_q (Kd.R_far (p := ⟨gb499, 1, none⟩) (Kd.R_far (p := ⟨gb499, 0, none⟩) (Kd.R_types HO512.out BK499.out (by decide)) (fun _ hk => hk.2) (.int .i64 (wrap64 (3 + t500)))) (fun _ hk => hk.2) (.slice Ao101 y510.length co101)) (fun _ hk => trivial), m13_q, m12_q, m10_q⟩
  rw [if_pos c68] at H
  have c68b0 : (t514 == 2) = true := beq_iff_eq.mpr c68
  have c68b1 : (t514 != 2) = false := nE_q.mpr c68
  clear c68
  replace H := oB_q.mp H
  obtain ⟨⟨t531, t532⟩, A690, H⟩ := H
  replace H : (if 0 ≤ t531 then (if t531 ≤ (y510.length : Int) then (some (wrap64 (3 + t500), (y510.take (t531 : Int).toNat), t532)) else (none)) else (none)) = some (r1, r2, r3) := H
  have A69 := Ae_q A690
  clear A690
  by_cases c70 : 0 ≤ t531
  rotate_left
  ·rw [if_neg c70] at H
   exact absurd H (by simp)
  rw [if_pos c70] at H
  have c70b0 := eq_true c70
  have c70b1 : decide (0 ≤ t531) = true := dT_q c70
  clear c70
  by_cases c71 : t531 ≤ (y510.length : Int)
  rotate_left
  ·rw [if_neg c71] at H
   exact absurd H (by simp)
  rw [if_pos c71] at H
  have c71b0 := eq_true c71
  have c71b1 : decide (t531 ≤ (y510.length : Int)) = true := dT_q c71
  clear c71
  obtain ⟨y533, hy533⟩ : ∃ y_ : List Int, y_ = (y510.take (t531 : Int).toNat) := ⟨_, rfl⟩
  replace H : (some (wrap64 (3 + t500), y533, t532)) = some (r1, r2, r3) := by first | (rw [hy533]; with_reducible exact H) | (have H2_ := (oS_q _ _).symm.trans H; rw [hy533]; with_reducible exact H2_) | (have H2_ := (oS_q _ _).symm.trans H; with_reducible exact H2_) | with_reducible exact H | (rw [hy533]; exact H) | exact H
  have Ny533 := Ae_q hy533
  clear hy533
  simp only [oE_q, pE_q] at H
  obtain ⟨rfl, rfl, rfl⟩ := H
  go_enter Try.func68, Try.ntmps68
  try go_wp2_with (first | ((with_reducible refine gD_q (N := 2) rfl ?_); refine bE_q ?hg (N := 2) ?hd (cs := #[.int .i64 0, .slice none 0 0]) (t := 43) ?hr ?_; (case hd => rfl); (case hg => rfl); (case hr => exact m5_q); intro gb499 hg w' hbox hb; replace HB := Ae_q (bT_q m9_q hb); have BK499 := Ae_q (hbox); have GW499 := Ae_q ((by rw [hg]; exact (keep_size (w := w) (g := g) (row := none) m4_q) : w.heap.size ≤ gb499)); have GE499 := Ae_q ((nT_q HW0.out (by rw [hg]; exact (keep_size (w := w) (g := g) (row := none) m4_q) : w.heap.size ≤ gb499) : w0.heap.size ≤ gb499)); replace HK := Ae_q (kT_q m4_q (kO_q hb g none) (.inl rfl)); have NB0_499 := Ae_q ((by rw [hg]; exact nL_q (i6_q (show IsS83 w0 _ g s0_0 s0_1 from by repeat (with_reducible first | exact HI0.out | apply i2_q | apply i1_q | apply i0_q | apply i3_q))) : g ≠ gb499)); have NB499_0 := Ae_q ((by rw [hg]; exact nG_q (i6_q (show IsS83 w0 _ g s0_0 s0_1 from by repeat (with_reducible first | exact HI0.out | apply i2_q | apply i1_q | apply i0_q | apply i3_q))) : gb499 ≠ g)); replace HI0 := Ae_q (i7_q m11_q hb); clear hb hbox hg) | ((with_reducible refine gC_q (f := 70) rfl ?_); (first | (refine gL_q (some 5) rfl rfl Try.func70 m8_q rfl #[.pointer (some ⟨g, 0, none⟩), .int .i64 4] rfl m0_q ?_; (with_reducible refine (spec_l6Rd_pick.calls k g s0_0 s0_1 4 t500 t501 w0 _ ?side1 ?side2 A2.out).mono ?_)) | (refine gL_q (some 8) rfl rfl Try.func70 m8_q rfl #[.pointer (some ⟨g, 0, none⟩), .int .i64 3] rfl m0_q ?_; (with_reducible refine (spec_l6Rd_pick.calls k g s0_0 t501 3 t502 t503 w0 _ ?side1 ?side2 A3.out).mono ?_)) | (refine gL_q (some 11) rfl rfl Try.func70 m8_q rfl #[.pointer (some ⟨g, 0, none⟩), .int .i64 2] rfl m0_q ?_; (with_reducible refine (spec_l6Rd_pick.calls k g s0_0 t503 2 t504 t505 w0 _ ?side1 ?side2 A4.out).mono ?_)) | (refine gL_q (some 14) rfl rfl Try.func70 m8_q rfl #[.pointer (some ⟨g, 0, none⟩), .int .i64 2] rfl m0_q ?_; (with_reducible refine (spec_l6Rd_pick.calls k g s0_0 t505 2 t506 t507 w0 _ ?side1 ?side2 A5.out).mono ?_)) | (refine gL_q (some 17) rfl rfl Try.func70 m8_q rfl #[.pointer (some ⟨g, 0, none⟩), .int .i64 3] rfl m0_q ?_; (with_reducible refine (spec_l6Rd_pick.calls k g s0_0 t507 3 t508 t509 w0 _ ?side1 ?side2 A6.out).mono ?_))); (case side1 => exact m36_q); (case side2 => exact m34_q); rintro e w' ⟨rfl, hi, hb, hk⟩; refine ⟨_, rfl, ?_⟩; replace BK499 := Ae_q (kB_q hk (g' := gb499) (o := .cells #[.int .i64 0, .slice none 0 0] 43 (0, 0)) (bup BK499.out) NB499_0.out (by simp)); replace HK := Ae_q (kT_q m15_q hk (.inl rfl)); replace HB := Ae_q (hb); replace HI0 := Ae_q (hi); (try clear hb); (try clear hb2); (try clear hk); (try clear hi)) | ((with_reducible refine gC_q (f := 70) rfl ?_); refine gL_q (some 21) rfl rfl Try.func70 m8_q rfl #[.pointer (some ⟨g, 0, none⟩), .int .i64 30] rfl m0_q ?_; (with_reducible refine (spec_l6Rd_pick.calls k g s0_0 t509 30 t514 t515 w0 _ ?side1 ?side2 A7.out).mono ?_); (case side1 => exact m13_q); (case side2 => exact m12_q); rintro e w85 ⟨rfl, hi, hb, hk⟩; refine ⟨_, rfl, ?_⟩; replace BK499 := Ae_q (kB_q hk (g' := gb499) (o := .cells #[.int .i64 0, .slice none 0 0] 43 (0, 0)) m41_q NB499_0.out (by simp)); replace HO512 := Ae_q (rM_q (rK_q (IsS83.apart (show IsS83 w0 _ g s0_0 t509 from by repeat (with_reducible first | exact HI0.out | apply i2_q | apply i1_q | apply i0_q | apply i3_q | refine i4_q ?_ NB0_499.out _ | refine i4_q ?_ NB0_513.out _)) (by (with_reducible repeat (first | apply rA_q | apply rN_q | apply rD_q)); exact (rM_q (Kd.R_far (p := ⟨gb513, 1, none⟩) (Kd.R_far (p := ⟨gb513, 0, none⟩) (Kd.R_types HO512.out BK513.out (by decide)) (fun _ hk => hk.2) (.int .i64 (wrap64 (3 + t500)))) (fun _ hk => hk.2) (.slice Ao80 y510.length co80)) (fun _ h_ => h_.1))) (by decide)) hk (fun _ h => h.2)) (fun _ h => h.1)); replace BK513 := Ae_q (kB_q hk (g' := gb513) (o := .cells #[.int .i64 (wrap64 (3 + t500)), .slice Ao80 y510.length co80] 43 (0, 0)) m33_q NB513_0.out (by simp)); replace HK := Ae_q (kT_q m10_q hk (.inl rfl)); replace HB := Ae_q (hb); replace HI0 := Ae_q (hi); (try clear hb); (try clear hb2); (try clear hk); (try clear hi)) | ((with_reducible refine gD_q (N := 18) rfl ?_); refine Kd.R_lit kI_q _ 3 ?hg (N := 18) ?hd (xs := ([wrap64 (1 + t502), wrap64 (1 + t504), wrap64 (1 + t506), t508] : List Int)) (inner := [.int .i64 (wrap64 (1 + t502)), .int .i64 (wrap64 (1 + t504)), .int .i64 (wrap64 (1 + t506)), .int .i64 t508]) (ok := fun _ => True) (okp := fun _ => True) ?hr ?hp (fun _ hk => hk) trivial (bR_q _ _) (nR_q _) (by simp) ?_; (case hd => rfl); (case hg => rfl); (case hr => exact m5_q); (case hp => exact m38_q); intro v511 w78 ho79 hb hg_ hnew_; clear hg_ hnew_; (first | rw [← Ny510.out] at ho79 | (simp only [Int.reduceToNat] at ho79; rw [← Ny510.out] at ho79)); have HO512 := Ae_q (rL_q ho79 (keep_size (w := w) (g := g) (row := none) m15_q)); replace BK499 := Ae_q (bB_q (g := gb499) (o := .cells #[.int .i64 0, .slice none 0 0] 43 (0, 0)) (bup BK499.out) hb); replace HK := Ae_q (kT_q m15_q (kO_q hb g none) (.inl rfl)); replace HB := Ae_q (bT_q m34_q hb); replace HI0 := Ae_q (i7_q m36_q hb); clear hb ho79; obtain ⟨Ao80, co80, eo80⟩ := rS_q HO512.out; subst eo80) | ((with_reducible refine gD_q (N := 3) rfl ?_); refine bE_q ?hg (N := 3) ?hd (cs := #[.int .i64 0, .slice none 0 0]) (t := 43) ?hr ?_; (case hd => rfl); (case hg => rfl); (case hr => exact m5_q); intro gb513 hg w81 hbox hb; replace HO512 := Ae_q (rO_q (rup HO512.out) hb); replace HB := Ae_q (bT_q m34_q hb); have BK513 := Ae_q (hbox); have GW513 := Ae_q ((by rw [hg]; exact (keep_size (w := w) (g := g) (row := none) m15_q) : w.heap.size ≤ gb513)); have GE513 := Ae_q ((nT_q HW0.out (by rw [hg]; exact (keep_size (w := w) (g := g) (row := none) m15_q) : w.heap.size ≤ gb513) : w0.heap.size ≤ gb513)); replace HK := Ae_q (kT_q m15_q (kO_q hb g none) (.inl rfl)); have NB499_513 := Ae_q ((by rw [hg]; exact nL_q (blk_lt (g := gb499) (o := .cells #[.int .i64 0, .slice none 0 0] 43 (0, 0)) (bup BK499.out)) : gb499 ≠ gb513)); have NB513_499 := Ae_q ((by rw [hg]; exact nG_q (blk_lt (g := gb499) (o := .cells #[.int .i64 0, .slice none 0 0] 43 (0, 0)) (bup BK499.out)) : gb513 ≠ gb499)); replace BK499 := Ae_q (bB_q (g := gb499) (o := .cells #[.int .i64 0, .slice none 0 0] 43 (0, 0)) (bup BK499.out) hb); have NB0_513 := Ae_q ((by rw [hg]; exact nL_q (i6_q (show IsS83 w0 _ g s0_0 t509 from by repeat (with_reducible first | exact HI0.out | apply i2_q | apply i1_q | apply i0_q | apply i3_q | refine i4_q ?_ NB0_499.out _))) : g ≠ gb513)); have NB513_0 := Ae_q ((by rw [hg]; exact nG_q (i6_q (show IsS83 w0 _ g s0_0 t509 from by repeat (with_reducible first | exact HI0.out | apply i2_q | apply i1_q | apply i0_q | apply i3_q | refine i4_q ?_ NB0_499.out _))) : gb513 ≠ g)); replace HI0 := Ae_q (i7_q m36_q hb); clear hb hbox hg; have hnb82 := NB513_499.out; have hnc82 := NB499_513.out; have hnb83 := NB513_0.out; have hnc83 := NB0_513.out; have hcz84_0 : cI w81 gb513 0 0 := cZ BK513 0 rfl; have hcz84_1 : w81.cell? ⟨gb513, 1, none⟩ = some (.slice none 0 0) := (bC_q BK513.out 1).trans rfl; have hfz84_0 := bF_q BK513.out 0; have hfz84_1 := bF_q BK513.out 1))
  replace HO512 := Ae_q (rD_q HO512.out)
  replace BK499 := Ae_q (bW_q BK499.out)
  replace BK513 := Ae_q (bW_q BK513.out)
  replace HI0 := Ae_q (i0_q HI0.out)
  replace HK := Ae_q (kD_q HK.out)
  replace HB := Ae_q (bD_q HB.out)
  refine start_ (n := 7) (S := fun w' => w'.cell? ⟨gb513, 0, none⟩ = some (.int .i64 (wrap64 (3 + t500))) ∧ w'.cell? ⟨gb513, 1, none⟩ = some (.slice Ao80 y510.length co80)) (ds := [6]) #[false, false, false, false, false, false, false] m8_q rfl rfl ⟨(bC_q BK513.out 0).trans rfl, (bC_q BK513.out 1).trans rfl⟩ (fun hHeld => ?_)
  generalize w85.drew = w86 at HO512 BK499 BK513 HI0 HK HB hHeld ⊢
  refine pure_ (i := 0) (N := some 44) (v := ?_) (a' := ?_) #[true, false, false, false, false, false, false] rfl rfl m8_q (fun _ _ _ h => h) (Or.inl ⟨by rfl, ?_⟩) ?_ ?_
  rotate_left
  ·intro w'
   go_simp
   with_reducible rfl
  rotate_left
  ·simp only [pS_q]
   rfl
  refine pure_ (i := 2) (N := some 46) (v := ?_) (a' := ?_) #[true, false, true, false, false, false, false] rfl rfl m8_q (fun _ _ _ h => h) (Or.inl ⟨by rfl, ?_⟩) ?_ ?_
  rotate_left
  ·intro w'
   go_simp
   with_reducible rfl
  rotate_left
  ·simp only [pS_q]
   rfl
  refine take_ (i := 1) (N := some 45) (v := ?_) (a' := ?_) #[true, true, true, false, false, false, false] rfl rfl m8_q (fun _ _ _ h => h) (Or.inl ⟨by rfl, ?_⟩) hHeld ?_ ?_
  rotate_left
  ·rintro w' ⟨s0, s1⟩
   go_simp
   with_reducible rfl
  rotate_left
  ·simp only [pS_q]
   rfl
  refine one_ (i := 3) (N := some 47) #[true, true, true, true, false, false, false] rfl rfl m8_q (by decide) (fun K hK => ?_)
  refine goes_ Try.func70 m8_q rfl #[.pointer (some ⟨g, 0, none⟩), .int .i64 4] (by rfl) rfl rfl m0_q ?_
  with_reducible refine (spec_l6Rd_pick.calls k g s0_0 t515 4 t531 t532 w0 _ ?side1 ?side2 A69.out).mono ?_
  (case side1 => exact m13_q)
  (case side2 => exact m12_q)
  rintro e w87 ⟨rfl, hi, hb, hk⟩
  refine ⟨_, rfl, ?_⟩
  replace BK499 := Ae_q (kB_q hk (g' := gb499) (o := .cells #[.int .i64 0, .slice none 0 0] 43 (0, 0)) (bup BK499.out) NB499_0.out (by simp))
  replace HO512 := Ae_q (rM_q (rK_q (IsS83.apart (show IsS83 w0 _ g s0_0 t515 from by repeat (with_reducible first | exact HI0.out | apply i2_q | apply i1_q | apply i0_q | apply i3_q | refine i4_q ?_ NB0_499.out _ | refine i4_q ?_ NB0_513.out _)) (rup HO512.out) (by decide)) hk (fun _ h => h.2)) (fun _ h => h.1))
  replace BK513 := Ae_q (kB_q hk (g' := gb513) (o := .cells #[.int .i64 (wrap64 (3 + t500)), .slice Ao80 y510.length co80] 43 (0, 0)) (bup BK513.out) NB513_0.out (by simp))
  replace HK := Ae_q (kT_q m10_q hk (.inl rfl))
  replace HB := Ae_q (hb)
  replace HI0 := Ae_q (hi)
  (try clear hb)
  (try clear hb2)
  (try clear hk)
  (try clear hi)
  have q88 : (t531 : Int) ≤ ((y510.length : Int) : Int) := oD_q (by assumption)
  obtain ⟨i088, hi088, _, hsz88, _⟩ := info_parts info3
  have hcut88 := cut_to (P := Try.prog) 23 3 .i64 Try.underlying23 hi088 Ao80 y510.length co80 t531 (oD_q (by assumption)) q88 (rR_q HO512.out).2.1
  have hr88 := Kd.R_take (m := (t531 : Int).toNat) HO512.out (by omega)
  have hy88 : y533.length = (t531 : Int).toNat := (by rw [Ny533.out, lT_q]; omega)
  rw [← Ny533.out] at hr88
  rw [← hy88] at hr88 hcut88
  clear hy88 hi088 hsz88 HO512
  have HO535 := Ae_q hr88
  clear hr88
  replace q88 := eq_true q88
  refine hK.out _ _ ⟨(bC_q BK513.out 0).trans rfl, (bC_q BK513.out 1).trans rfl⟩ (fun hHeld => ?_)
  clear hK K
  refine nJ_q ?_
  refine pure_ (i := 4) (N := some 48) (v := ?_) (a' := ?_) #[true, true, true, true, true, false, false] rfl rfl m8_q (fun _ _ _ h => h) (Or.inl ⟨by rfl, ?_⟩) ?_ ?_
  rotate_left
  ·intro w'
   go_simp
   with_reducible rfl
  rotate_left
  ·simp only [pS_q]
   rfl
  refine pure_ (i := 5) (N := some 49) (v := ?_) (a' := ?_) #[true, true, true, true, true, true, false] rfl rfl m8_q (fun _ _ _ h => h) (Or.inl ⟨by rfl, ?_⟩) ?_ ?_
  rotate_left
  ·intro w'
   go_simp
   with_reducible rfl
  rotate_left
  ·simp only [pS_q]
   rfl
  refine last_ (i := 6) (N := none) #[true, true, true, true, true, true, true] rfl rfl m8_q (by decide) (fun K hK => ?_)
  have hs89 : w87.cell? ⟨gb513, 1, none⟩ = some (.slice Ao80 y510.length co80) := (bC_q BK513.out 1).trans rfl
  have hfs89 := bF_q BK513.out 1
  have hns89_0 := NB499_513.out
  have hms89_0 := NB513_499.out
  refine skip_ (w1 := ?_) (by rfl) rfl ?_ ?_
  rotate_left
  ·go_simp
   rfl
  refine hK.out _ _ ?_
  clear hK K
  refine done_ m8_q ?_
  have hcz90_0 : cI w87 gb513 0 (wrap64 (3 + t500)) := cZ BK513 0 rfl
  have hcz90_1 : w87.cell? ⟨gb513, 1, none⟩ = some (.slice Ao80 y510.length co80) := (bC_q BK513.out 1).trans rfl
  have hfz90_0 := bF_q BK513.out 0
  have hfz90_1 := bF_q BK513.out 1
  have hnb91 := NB499_0.out
  have hnc91 := NB0_499.out
  have hcz92_0 : cI w87 gb499 0 0 := cZ BK499 0 rfl
  have hcz92_1 : w87.cell? ⟨gb499, 1, none⟩ = some (.slice none 0 0) := (bC_q BK499.out 1).trans rfl
  have hfz92_0 := bF_q BK499.out 0
  have hfz92_1 := bF_q BK499.out 1
  try go_wp2
  refine bodyPost_ret (results_cell_row rfl _ _ gb499 43 #[.int .i64 (wrap64 (3 + t500)), .slice Ao80 y533.length co80] (0, 0) _ rfl (by (with_reducible repeat (first | refine bN_q ?_ _ | refine bW_q ?_ | refine bL_q ?_ _)); refine blk_put (cs := #[.int .i64 (wrap64 (3 + t500)), .slice none 0 0]) ?_ 1 _ rfl; (with_reducible repeat (first | refine bN_q ?_ _ | refine bW_q ?_ | refine bL_q ?_ _)); refine blk_put (cs := #[.int .i64 0, .slice none 0 0]) ?_ 0 _ rfl; (with_reducible repeat (first | refine bN_q ?_ _ | refine bW_q ?_ | refine bL_q ?_ _)); refine blk_far ?_ NB499_513.out _; (with_reducible repeat (first | refine bN_q ?_ _ | refine bW_q ?_ | refine bL_q ?_ _)); exact BK499.out) Try.underlying43 rfl m8_q) rfl ?_
  exact ⟨_, m6_q, by (with_reducible repeat (first | apply rA_q | apply rN_q | apply rD_q)); exact rM_q (Kd.R_far (p := ⟨gb499, 1, none⟩) (Kd.R_far (p := ⟨gb499, 0, none⟩) (Kd.R_far (p := ⟨gb513, 1, none⟩) (Kd.R_types (Kd.R_types HO535.out BK513.out (by decide)) BK499.out (by decide)) (fun _ hk => hk.1.2) (.slice Ao80 y533.length co80)) (fun _ hk => hk.2) (.int .i64 (wrap64 (3 + t500)))) (fun _ hk => hk.2) (.slice Ao80 y533.length co80)) (fun _ hk => trivial), m13_q, m12_q, m10_q⟩
 rw [if_pos c33] at H
 have c33b0 : (t514 == 1) = true := beq_iff_eq.mpr c33
 have c33b1 : (t514 != 1) = false := nE_q.mpr c33
 clear c33
 replace H := oB_q.mp H
 obtain ⟨⟨t522, t523⟩, A340, H⟩ := H
 replace H : ((some (([(-1), 0, 4] : List Int) : List Int)).bind fun y524 => ((spec_l6Rd_pick.f k s0_0 t523 3).bind fun bt527 => (if 0 ≤ bt527.1 then (if bt527.1 < (y524.length : Int) then (if 0 ≤ t522 then (if t522 < (y510.length : Int) then (some (wrap64 (3 + t500), (y510.set (t522 : Int).toNat (rd y524 bt527.1)), bt527.2)) else (none)) else (none)) else (none)) else (none)))) = some (r1, r2, r3) := H
 have A34 := Ae_q A340
 clear A340
 obtain ⟨y524, hy524⟩ : ∃ y_ : List Int, y_ = (([(-1), 0, 4] : List Int)) := ⟨_, rfl⟩
 replace H : ((spec_l6Rd_pick.f k s0_0 t523 3).bind fun bt527 => (if 0 ≤ bt527.1 then (if bt527.1 < (y524.length : Int) then (if 0 ≤ t522 then (if t522 < (y510.length : Int) then (some (wrap64 (3 + t500), (y510.set (t522 : Int).toNat (rd y524 bt527.1)), bt527.2)) else (none)) else (none)) else (none)) else (none))) = some (r1, r2, r3) := by first | (rw [hy524]; with_reducible exact H) | (have H2_ := (oS_q _ _).symm.trans H; rw [hy524]; with_reducible exact H2_) | (have H2_ := (oS_q _ _).symm.trans H; with_reducible exact H2_) | with_reducible exact H | (rw [hy524]; exact H) | exact H
 have Ny524 := Ae_q hy524
 clear hy524
 replace H := oB_q.mp H
 obtain ⟨⟨t527, t528⟩, A350, H⟩ := H
 replace H : (if 0 ≤ t527 then (if t527 < (y524.length : Int) then (if 0 ≤ t522 then (if t522 < (y510.length : Int) then (some (wrap64 (3 + t500), (y510.set (t522 : Int).toNat (rd y524 t527)), t528)) else (none)) else (none)) else (none)) else (none)) = some (r1, r2, r3) := H
 have A35 := Ae_q A350
 clear A350
 by_cases c36 : 0 ≤ t527
 rotate_left
 ·rw [if_neg c36] at H
  exact absurd H (by simp)
 rw [if_pos c36] at H
 have c36b0 : decide (0 ≤ t527) = true := dT_q c36
 clear c36
 by_cases c37 : t527 < (y524.length : Int)
 rotate_left
 ·rw [if_neg c37] at H
  exact absurd H (by simp)
 rw [if_pos c37] at H
 have c37b0 : decide (t527 < (y524.length : Int)) = true := dT_q c37
 clear c37
 by_cases c38 : 0 ≤ t522
 rotate_left
 ·rw [if_neg c38] at H
  exact absurd H (by simp)
 rw [if_pos c38] at H
 have c38b0 : decide (0 ≤ t522) = true := dT_q c38
 clear c38
 by_cases c39 : t522 < (y510.length : Int)
 rotate_left
 ·rw [if_neg c39] at H
  exact absurd H (by simp)
 rw [if_pos c39] at H
 have c39b0 : decide (t522 < (y510.length : Int)) = true := dT_q c39
 clear c39
 obtain ⟨y530, hy530⟩ : ∃ y_ : List Int, y_ = (y510.set (t522 : Int).toNat (rd y524 t527)) := ⟨_, rfl⟩
 replace H : (some (wrap64 (3 + t500), y530, t528)) = some (r1, r2, r3) := by first | (rw [hy530]; with_reducible exact H) | (have H2_ := (oS_q _ _).symm.trans H; rw [hy530]; with_reducible exact H2_) | (have H2_ := (oS_q _ _).symm.trans H; with_reducible exact H2_) | with_reducible exact H | (rw [hy530]; exact H) | exact H
 have Ny530 := Ae_q hy530
 clear hy530
 simp only [oE_q, pE_q] at H
 obtain ⟨rfl, rfl, rfl⟩ := H
 go_enter Try.func68, Try.ntmps68
 try go_wp2_with (first | ((with_reducible refine gD_q (N := 2) rfl ?_); refine bE_q ?hg (N := 2) ?hd (cs := #[.int .i64 0, .slice none 0 0]) (t := 43) ?hr ?_; (case hd => rfl); (case hg => rfl); (case hr => exact m5_q); intro gb499 hg w' hbox hb; replace HB := Ae_q (bT_q m9_q hb); have BK499 := Ae_q (hbox); have GW499 := Ae_q ((by rw [hg]; exact (keep_size (w := w) (g := g) (row := none) m4_q) : w.heap.size ≤ gb499)); have GE499 := Ae_q ((nT_q HW0.out (by rw [hg]; exact (keep_size (w := w) (g := g) (row := none) m4_q) : w.heap.size ≤ gb499) : w0.heap.size ≤ gb499)); replace HK := Ae_q (kT_q m4_q (kO_q hb g none) (.inl rfl)); have NB0_499 := Ae_q ((by rw [hg]; exact nL_q (i6_q (show IsS83 w0 _ g s0_0 s0_1 from by repeat (with_reducible first | exact HI0.out | apply i2_q | apply i1_q | apply i0_q | apply i3_q))) : g ≠ gb499)); have NB499_0 := Ae_q ((by rw [hg]; exact nG_q (i6_q (show IsS83 w0 _ g s0_0 s0_1 from by repeat (with_reducible first | exact HI0.out | apply i2_q | apply i1_q | apply i0_q | apply i3_q))) : gb499 ≠ g)); replace HI0 := Ae_q (i7_q m11_q hb); clear hb hbox hg) | ((with_reducible refine gC_q (f := 70) rfl ?_); (first | (refine gL_q (some 5) rfl rfl Try.func70 m8_q rfl #[.pointer (some ⟨g, 0, none⟩), .int .i64 4] rfl m0_q ?_; (with_reducible refine (spec_l6Rd_pick.calls k g s0_0 s0_1 4 t500 t501 w0 _ ?side1 ?side2 A2.out).mono ?_)) | (refine gL_q (some 8) rfl rfl Try.func70 m8_q rfl #[.pointer (some ⟨g, 0, none⟩), .int .i64 3] rfl m0_q ?_; (with_reducible refine (spec_l6Rd_pick.calls k g s0_0 t501 3 t502 t503 w0 _ ?side1 ?side2 A3.out).mono ?_)) | (refine gL_q (some 11) rfl rfl Try.func70 m8_q rfl #[.pointer (some ⟨g, 0, none⟩), .int .i64 2] rfl m0_q ?_; (with_reducible refine (spec_l6Rd_pick.calls k g s0_0 t503 2 t504 t505 w0 _ ?side1 ?side2 A4.out).mono ?_)) | (refine gL_q (some 14) rfl rfl Try.func70 m8_q rfl #[.pointer (some ⟨g, 0, none⟩), .int .i64 2] rfl m0_q ?_; (with_reducible refine (spec_l6Rd_pick.calls k g s0_0 t505 2 t506 t507 w0 _ ?side1 ?side2 A5.out).mono ?_)) | (refine gL_q (some 17) rfl rfl Try.func70 m8_q rfl #[.pointer (some ⟨g, 0, none⟩), .int .i64 3] rfl m0_q ?_; (with_reducible refine (spec_l6Rd_pick.calls k g s0_0 t507 3 t508 t509 w0 _ ?side1 ?side2 A6.out).mono ?_))); (case side1 => exact m36_q); (case side2 => exact m34_q); rintro e w' ⟨rfl, hi, hb, hk⟩; refine ⟨_, rfl, ?_⟩; replace BK499 := Ae_q (kB_q hk (g' := gb499) (o := .cells #[.int .i64 0, .slice none 0 0] 43 (0, 0)) (bup BK499.out) NB499_0.out (by simp)); replace HK := Ae_q (kT_q m15_q hk (.inl rfl)); replace HB := Ae_q (hb); replace HI0 := Ae_q (hi); (try clear hb); (try clear hb2); (try clear hk); (try clear hi)) | ((with_reducible refine gC_q (f := 70) rfl ?_); refine gL_q (some 21) rfl rfl Try.func70 m8_q rfl #[.pointer (some ⟨g, 0, none⟩), .int .i64 30] rfl m0_q ?_; (with_reducible refine (spec_l6Rd_pick.calls k g s0_0 t509 30 t514 t515 w0 _ ?side1 ?side2 A7.out).mono ?_); (case side1 => exact m13_q); (case side2 => exact m12_q); rintro e w54 ⟨rfl, hi, hb, hk⟩; refine ⟨_, rfl, ?_⟩; replace BK499 := Ae_q (kB_q hk (g' := gb499) (o := .cells #[.int .i64 0, .slice none 0 0] 43 (0, 0)) m41_q NB499_0.out (by simp)); replace HO512 := Ae_q (rM_q (rK_q (IsS83.apart (show IsS83 w0 _ g s0_0 t509 from by repeat (with_reducible first | exact HI0.out | apply i2_q | apply i1_q | apply i0_q | apply i3_q | refine i4_q ?_ NB0_499.out _ | refine i4_q ?_ NB0_513.out _)) (by (with_reducible repeat (first | apply rA_q | apply rN_q | apply rD_q)); exact (rM_q (Kd.R_far (p := ⟨gb513, 1, none⟩) (Kd.R_far (p := ⟨gb513, 0, none⟩) (Kd.R_types HO512.out BK513.out (by decide)) (fun _ hk => hk.2) (.int .i64 (wrap64 (3 + t500)))) (fun _ hk => hk.2) (.slice Ao49 y510.length co49)) (fun _ h_ => h_.1))) (by decide)) hk (fun _ h => h.2)) (fun _ h => h.1)); replace BK513 := Ae_q (kB_q hk (g' := gb513) (o := .cells #[.int .i64 (wrap64 (3 + t500)), .slice Ao49 y510.length co49] 43 (0, 0)) m33_q NB513_0.out (by simp)); replace HK := Ae_q (kT_q m10_q hk (.inl rfl)); replace HB := Ae_q (hb); replace HI0 := Ae_q (hi); (try clear hb); (try clear hb2); (try clear hk); (try clear hi)) | ((with_reducible refine gD_q (N := 18) rfl ?_); refine Kd.R_lit kI_q _ 3 ?hg (N := 18) ?hd (xs := ([wrap64 (1 + t502), wrap64 (1 + t504), wrap64 (1 + t506), t508] : List Int)) (inner := [.int .i64 (wrap64 (1 + t502)), .int .i64 (wrap64 (1 + t504)), .int .i64 (wrap64 (1 + t506)), .int .i64 t508]) (ok := fun _ => True) (okp := fun _ => True) ?hr ?hp (fun _ hk => hk) trivial (bR_q _ _) (nR_q _) (by simp) ?_; (case hd => rfl); (case hg => rfl); (case hr => exact m5_q); (case hp => exact m38_q); intro v511 w47 ho48 hb hg_ hnew_; clear hg_ hnew_; (first | rw [← Ny510.out] at ho48 | (simp only [Int.reduceToNat] at ho48; rw [← Ny510.out] at ho48)); have HO512 := Ae_q (rL_q ho48 (keep_size (w := w) (g := g) (row := none) m15_q)); replace BK499 := Ae_q (bB_q (g := gb499) (o := .cells #[.int .i64 0, .slice none 0 0] 43 (0, 0)) (bup BK499.out) hb); replace HK := Ae_q (kT_q m15_q (kO_q hb g none) (.inl rfl)); replace HB := Ae_q (bT_q m34_q hb); replace HI0 := Ae_q (i7_q m36_q hb); clear hb ho48; obtain ⟨Ao49, co49, eo49⟩ := rS_q HO512.out; subst eo49) | ((with_reducible refine gD_q (N := 3) rfl ?_); refine bE_q ?hg (N := 3) ?hd (cs := #[.int .i64 0, .slice none 0 0]) (t := 43) ?hr ?_; (case hd => rfl); (case hg => rfl); (case hr => exact m5_q); intro gb513 hg w50 hbox hb; replace HO512 := Ae_q (rO_q (rup HO512.out) hb); replace HB := Ae_q (bT_q m34_q hb); have BK513 := Ae_q (hbox); have GW513 := Ae_q ((by rw [hg]; exact (keep_size (w := w) (g := g) (row := none) m15_q) : w.heap.size ≤ gb513)); have GE513 := Ae_q ((nT_q HW0.out (by rw [hg]; exact (keep_size (w := w) (g := g) (row := none) m15_q) : w.heap.size ≤ gb513) : w0.heap.size ≤ gb513)); replace HK := Ae_q (kT_q m15_q (kO_q hb g none) (.inl rfl)); have NB499_513 := Ae_q ((by rw [hg]; exact nL_q (blk_lt (g := gb499) (o := .cells #[.int .i64 0, .slice none 0 0] 43 (0, 0)) (bup BK499.out)) : gb499 ≠ gb513)); have NB513_499 := Ae_q ((by rw [hg]; exact nG_q (blk_lt (g := gb499) (o := .cells #[.int .i64 0, .slice none 0 0] 43 (0, 0)) (bup BK499.out)) : gb513 ≠ gb499)); replace BK499 := Ae_q (bB_q (g := gb499) (o := .cells #[.int .i64 0, .slice none 0 0] 43 (0, 0)) (bup BK499.out) hb); have NB0_513 := Ae_q ((by rw [hg]; exact nL_q (i6_q (show IsS83 w0 _ g s0_0 t509 from by repeat (with_reducible first | exact HI0.out | apply i2_q | apply i1_q | apply i0_q | apply i3_q | refine i4_q ?_ NB0_499.out _))) : g ≠ gb513)); have NB513_0 := Ae_q ((by rw [hg]; exact nG_q (i6_q (show IsS83 w0 _ g s0_0 t509 from by repeat (with_reducible first | exact HI0.out | apply i2_q | apply i1_q | apply i0_q | apply i3_q | refine i4_q ?_ NB0_499.out _))) : gb513 ≠ g)); replace HI0 := Ae_q (i7_q m36_q hb); clear hb hbox hg; have hnb51 := NB513_499.out; have hnc51 := NB499_513.out; have hnb52 := NB513_0.out; have hnc52 := NB0_513.out; have hcz53_0 : cI w50 gb513 0 0 := cZ BK513 0 rfl; have hcz53_1 : w50.cell? ⟨gb513, 1, none⟩ = some (.slice none 0 0) := (bC_q BK513.out 1).trans rfl; have hfz53_0 := bF_q BK513.out 0; have hfz53_1 := bF_q BK513.out 1))
 have pi529 : (0 ≤ (t527 : Int)) = True := eq_true (oD_q (by assumption))
 have qi529 : (t527 < (y524.length : Int)) = True := eq_true (oD_q (by assumption))
 replace HO512 := Ae_q (rD_q HO512.out)
 replace BK499 := Ae_q (bW_q BK499.out)
 replace BK513 := Ae_q (bW_q BK513.out)
 replace HI0 := Ae_q (i0_q HI0.out)
 replace HK := Ae_q (kD_q HK.out)
 replace HB := Ae_q (bD_q HB.out)
 refine start_ (n := 11) (S := fun w' => w'.cell? ⟨gb513, 0, none⟩ = some (.int .i64 (wrap64 (3 + t500))) ∧ w'.cell? ⟨gb513, 1, none⟩ = some (.slice Ao49 y510.length co49)) (ds := [10]) #[false, false, false, false, false, false, false, false, false, false, false] m8_q rfl rfl ⟨(bC_q BK513.out 0).trans rfl, (bC_q BK513.out 1).trans rfl⟩ (fun hHeld => ?_); refine with_tabW spec_l92Kitchen.tab6 spec_l92Kitchen.bits6 (fun HT_ HW_ => ?_)
 generalize w54.drew = w55 at HO512 BK499 BK513 HI0 HK HB hHeld ⊢
 refine pJ HT_ 0 32 rfl rfl ?_
 refine pJ HT_ 2 34 rfl rfl ?_
 refine pJ HT_ 5 37 rfl rfl ?_
 refine take_ (i := 1) (N := some 33) (v := ?_) (a' := ?_) #[true, true, true, false, false, true, false, false, false, false, false] rfl rfl (take_ofW HT_.out HW_.out m8_q) (fun _ _ _ h => h) (Or.inl ⟨by rfl, ?_⟩) hHeld ?_ ?_
 rotate_left
 ·rintro w' ⟨s0, s1⟩
  go_simp
  with_reducible rfl
 rotate_left
 ·simp only [pS_q]
  rfl
 refine join_ (σ := Value × Addr) 4 #[true, true, true, true, true, true, true, false, false, false, false] (fun s_ => [(35, .int .i64 t522), (36, s_.1), (38, .int .i64 t527)]) (fun s_ w' => (w'.cell? ⟨gb513, 0, none⟩ = some (.int .i64 (wrap64 (3 + t500))) ∧ w'.cell? ⟨gb513, 1, none⟩ = some (.slice Ao49 y510.length co49)) ∧ (Kd.R kI_q 3 w' w.heap.size (fun k_ => some k_ ≠ (s_.1 : Value).ownBlock) (.slice Ao49 y510.length co49) y510) ∧ (Kd.R kI_q 3 w' w.heap.size (fun k_ => some k_ ≠ (.slice Ao49 y510.length co49 : Value).ownBlock) s_.1 y524) ∧ (∃ c_, (s_.1 : Value) = .slice (some s_.2) y524.length c_) ∧ (w'.heap[gb499]? = some (.cells #[.int .i64 0, .slice none 0 0] 43 (0, 0))) ∧ (w'.heap[gb513]? = some (.cells #[.int .i64 (wrap64 (3 + t500)), .slice Ao49 y510.length co49] 43 (0, 0))) ∧ (IsS83 w0 w' g s0_0 t528) ∧ (KeepBut w w' g none) ∧ (Below w0.heap.size w0 w')) ?_ ?_
 rotate_left
 ·intro hCont
  refine two_ (i := 3) (j := 4) (Ni := some 35) (Nj := some 36) #[true, true, true, true, false, true, false, false, false, false, false] #[true, true, true, false, true, true, false, false, false, false, false] rfl rfl rfl rfl (two_of HT_.out m8_q) (by decide) (by decide) (fun K hK => ?_) (fun K hK => ?_)
  ·skip
   refine goes_ Try.func70 m8_q rfl #[.pointer (some ⟨g, 0, none⟩), .int .i64 4] (by rfl) rfl rfl m0_q ?_
   with_reducible refine (spec_l6Rd_pick.calls k g s0_0 t515 4 t522 t523 w0 _ ?side1 ?side2 A34.out).mono ?_
   (case side1 => exact m13_q)
   (case side2 => exact m12_q)
   rintro e w56 ⟨rfl, hi, hb, hk⟩
   refine ⟨_, rfl, ?_⟩
   replace BK499 := Ae_q (kB_q hk (g' := gb499) (o := .cells #[.int .i64 0, .slice none 0 0] 43 (0, 0)) (bup BK499.out) NB499_0.out (by simp))
   replace HO512 := Ae_q (rM_q (rK_q (IsS83.apart (show IsS83 w0 _ g s0_0 t515 from by repeat (with_reducible first | exact HI0.out | apply i2_q | apply i1_q | apply i0_q | apply i3_q | refine i4_q ?_ NB0_499.out _ | refine i4_q ?_ NB0_513.out _)) (rup HO512.out) (by decide)) hk (fun _ h => h.2)) (fun _ h => h.1))
   replace BK513 := Ae_q (kB_q hk (g' := gb513) (o := .cells #[.int .i64 (wrap64 (3 + t500)), .slice Ao49 y510.length co49] 43 (0, 0)) (bup BK513.out) NB513_0.out (by simp))
   replace HK := Ae_q (kT_q m10_q hk (.inl rfl))
   replace HB := Ae_q (hb)
   replace HI0 := Ae_q (hi)
   (try clear hb)
   (try clear hb2)
   (try clear hk)
   (try clear hi)
   refine hK.out _ _ ⟨(bC_q BK513.out 0).trans rfl, (bC_q BK513.out 1).trans rfl⟩ (fun hHeld => ?_)
   clear hK K
   refine nJ_q ?_
   refine two_ (i := 4) (j := 6) (Ni := some 36) (Nj := some 38) #[true, true, true, true, true, true, false, false, false, false, false] #[true, true, true, true, false, true, true, false, false, false, false] rfl rfl rfl rfl (two_of HT_.out m8_q) (by decide) (by decide) (fun K hK => ?_) (fun K hK => ?_)
   ·skip
    refine rI_q kI_q _ 3 ?hg (N := 36) ?hd (xs := ([(-1), 0, 4] : List Int)) (inner := [.int .i64 (-1), .int .i64 0, .int .i64 4]) (ok := fun _ => True) (okp := fun _ => True) ?hr ?hp (fun _ hk => hk) trivial (bR_q _ _) (nR_q _) (by simp) ?_; (case hd => rfl); (case hg => rfl); (case hr => exact m5_q); (case hp => exact m91_q)
    intro v525 w57 ho58 hb hg_ hnew_
    clear hg_ hnew_
    (first | rw [← Ny524.out] at ho58 | (simp only [Int.reduceToNat] at ho58; rw [← Ny524.out] at ho58))
    have HO526 := Ae_q (rL_q (rW_q ho58 (rT_q (rup HO512.out))) (keep_size (w := w) (g := g) (row := none) m10_q))
    replace HO512 := Ae_q (rE_q (rup HO512.out) (rB_q ho58) hb)
    replace BK499 := Ae_q (bB_q (g := gb499) (o := .cells #[.int .i64 0, .slice none 0 0] 43 (0, 0)) (bup BK499.out) hb)
    replace BK513 := Ae_q (bB_q (g := gb513) (o := .cells #[.int .i64 (wrap64 (3 + t500)), .slice Ao49 y510.length co49] 43 (0, 0)) (bup BK513.out) hb)
    replace HK := Ae_q (kT_q m10_q (kO_q hb g none) (.inl rfl))
    replace HB := Ae_q (bT_q m12_q hb)
    replace HI0 := Ae_q (i7_q m13_q hb)
    clear hb ho58
    obtain ⟨Ao59, co59, eo59⟩ := rS_q HO526.out
    subst eo59
    obtain ⟨ado59, fo59, _⟩ := aI_q (rR_q HO526.out).2.2 0 (by decide) (by rw [Ny524.out]; simp)
    cases fo59
    refine hK.out _ _ ⟨(bC_q BK513.out 0).trans rfl, (bC_q BK513.out 1).trans rfl⟩ (fun hHeld => ?_)
    clear hK K
    refine nJ_q ?_
    refine one_ (i := 6) (N := some 38) #[true, true, true, true, true, true, true, false, false, false, false] rfl rfl (one_of HT_.out m8_q) (by decide) (fun K hK => ?_)
    refine goes_ Try.func70 m8_q rfl #[.pointer (some ⟨g, 0, none⟩), .int .i64 3] (by rfl) rfl rfl m0_q ?_
    with_reducible refine (spec_l6Rd_pick.calls k g s0_0 t523 3 t527 t528 w0 _ ?side1 ?side2 A35.out).mono ?_
    (case side1 => exact m13_q)
    (case side2 => exact m12_q)
    rintro e w' ⟨rfl, hi, hb, hk⟩
    refine ⟨_, rfl, ?_⟩
    replace BK499 := Ae_q (kB_q hk (g' := gb499) (o := .cells #[.int .i64 0, .slice none 0 0] 43 (0, 0)) (bup BK499.out) NB499_0.out (by simp))
    replace HO512 := Ae_q (rM_q (rK_q (IsS83.apart (show IsS83 w0 _ g s0_0 t523 from by repeat (with_reducible first | exact HI0.out | apply i2_q | apply i1_q | apply i0_q | apply i3_q | refine i4_q ?_ NB0_499.out _ | refine i4_q ?_ NB0_513.out _)) (rup HO512.out) (by decide)) hk (fun _ h => h.2)) (fun _ h => h.1))
    replace BK513 := Ae_q (kB_q hk (g' := gb513) (o := .cells #[.int .i64 (wrap64 (3 + t500)), .slice Ao49 y510.length co49] 43 (0, 0)) (bup BK513.out) NB513_0.out (by simp))
    replace HO526 := Ae_q (rM_q (rK_q (IsS83.apart (show IsS83 w0 _ g s0_0 t523 from by repeat (with_reducible first | exact HI0.out | apply i2_q | apply i1_q | apply i0_q | apply i3_q | refine i4_q ?_ NB0_499.out _ | refine i4_q ?_ NB0_513.out _)) (rup HO526.out) (by decide)) hk (fun _ h => h.2)) (fun _ h => h.1))
    replace HK := Ae_q (kT_q m10_q hk (.inl rfl))
    replace HB := Ae_q (hb)
    replace HI0 := Ae_q (hi)
    (try clear hb)
    (try clear hb2)
    (try clear hk)
    (try clear hi)
    refine hK.out _ _ ⟨(bC_q BK513.out 0).trans rfl, (bC_q BK513.out 1).trans rfl⟩ (fun hHeld => ?_)
    clear hK K
    refine nJ_q ?_
    exact norm_ m52_q (hCont (.slice (some ado59) y524.length co59, ado59) _ ⟨hHeld, m128_q, m129_q, ⟨_, rfl⟩, (bup BK499.out), (bup BK513.out), m13_q, m10_q, m12_q⟩)
   skip
   refine goes_ Try.func70 m8_q rfl #[.pointer (some ⟨g, 0, none⟩), .int .i64 3] (by rfl) rfl rfl m0_q ?_
   with_reducible refine (spec_l6Rd_pick.calls k g s0_0 t523 3 t527 t528 w0 _ ?side1 ?side2 A35.out).mono ?_
   (case side1 => exact m13_q)
   (case side2 => exact m12_q)
   rintro e w57 ⟨rfl, hi, hb, hk⟩
   refine ⟨_, rfl, ?_⟩
   replace BK499 := Ae_q (kB_q hk (g' := gb499) (o := .cells #[.int .i64 0, .slice none 0 0] 43 (0, 0)) (bup BK499.out) NB499_0.out (by simp))
   replace HO512 := Ae_q (rM_q (rK_q (IsS83.apart (show IsS83 w0 _ g s0_0 t523 from by repeat (with_reducible first | exact HI0.out | apply i2_q | apply i1_q | apply i0_q | apply i3_q | refine i4_q ?_ NB0_499.out _ | refine i4_q ?_ NB0_513.out _)) (rup HO512.out) (by decide)) hk (fun _ h => h.2)) (fun _ h => h.1))
   replace BK513 := Ae_q (kB_q hk (g' := gb513) (o := .cells #[.int .i64 (wrap64 (3 + t500)), .slice Ao49 y510.length co49] 43 (0, 0)) (bup BK513.out) NB513_0.out (by simp))
   replace HK := Ae_q (kT_q m10_q hk (.inl rfl))
   replace HB := Ae_q (hb)
   replace HI0 := Ae_q (hi)
   (try clear hb)
   (try clear hb2)
   (try clear hk)
   (try clear hi)
   refine hK.out _ _ ⟨(bC_q BK513.out 0).trans rfl, (bC_q BK513.out 1).trans rfl⟩ (fun hHeld => ?_)
   clear hK K
   refine nJ_q ?_
   refine one_ (i := 4) (N := some 36) #[true, true, true, true, true, true, true, false, false, false, false] rfl rfl (one_of HT_.out m8_q) (by decide) (fun K hK => ?_)
   refine rI_q kI_q _ 3 ?hg (N := 36) ?hd (xs := ([(-1), 0, 4] : List Int)) (inner := [.int .i64 (-1), .int .i64 0, .int .i64 4]) (ok := fun _ => True) (okp := fun _ => True) ?hr ?hp (fun _ hk => hk) trivial (bR_q _ _) (nR_q _) (by simp) ?_; (case hd => rfl); (case hg => rfl); (case hr => exact m5_q); (case hp => exact m91_q)
   intro v525 w58 ho59 hb hg_ hnew_
   clear hg_ hnew_
   (first | rw [← Ny524.out] at ho59 | (simp only [Int.reduceToNat] at ho59; rw [← Ny524.out] at ho59))
   have HO526 := Ae_q (rL_q (rW_q ho59 (rT_q (rup HO512.out))) (keep_size (w := w) (g := g) (row := none) m10_q))
   replace HO512 := Ae_q (rE_q (rup HO512.out) (rB_q ho59) hb)
   replace BK499 := Ae_q (bB_q (g := gb499) (o := .cells #[.int .i64 0, .slice none 0 0] 43 (0, 0)) (bup BK499.out) hb)
   replace BK513 := Ae_q (bB_q (g := gb513) (o := .cells #[.int .i64 (wrap64 (3 + t500)), .slice Ao49 y510.length co49] 43 (0, 0)) (bup BK513.out) hb)
   replace HK := Ae_q (kT_q m10_q (kO_q hb g none) (.inl rfl))
   replace HB := Ae_q (bT_q m12_q hb)
   replace HI0 := Ae_q (i7_q m13_q hb)
   clear hb ho59
   obtain ⟨Ao60, co60, eo60⟩ := rS_q HO526.out
   subst eo60
   obtain ⟨ado60, fo60, _⟩ := aI_q (rR_q HO526.out).2.2 0 (by decide) (by rw [Ny524.out]; simp)
   cases fo60
   refine hK.out _ _ ⟨(bC_q BK513.out 0).trans rfl, (bC_q BK513.out 1).trans rfl⟩ (fun hHeld => ?_)
   clear hK K
   refine nJ_q ?_
   exact norm_ m52_q (hCont (.slice (some ado60) y524.length co60, ado60) _ ⟨hHeld, m128_q, m129_q, ⟨_, rfl⟩, (bup BK499.out), (bup BK513.out), m13_q, m10_q, m12_q⟩)
  skip
  refine rI_q kI_q _ 3 ?hg (N := 36) ?hd (xs := ([(-1), 0, 4] : List Int)) (inner := [.int .i64 (-1), .int .i64 0, .int .i64 4]) (ok := fun _ => True) (okp := fun _ => True) ?hr ?hp (fun _ hk => hk) trivial (bR_q _ _) (nR_q _) (by simp) ?_; (case hd => rfl); (case hg => rfl); (case hr => exact m5_q); (case hp => exact m91_q)
  intro v525 w56 ho57 hb hg_ hnew_
  clear hg_ hnew_
  (first | rw [← Ny524.out] at ho57 | (simp only [Int.reduceToNat] at ho57; rw [← Ny524.out] at ho57))
  have HO526 := Ae_q (rL_q (rW_q ho57 (rT_q (rup HO512.out))) (keep_size (w := w) (g := g) (row := none) m10_q))
  replace HO512 := Ae_q (rE_q (rup HO512.out) (rB_q ho57) hb)
  replace BK499 := Ae_q (bB_q (g := gb499) (o := .cells #[.int .i64 0, .slice none 0 0] 43 (0, 0)) (bup BK499.out) hb)
  replace BK513 := Ae_q (bB_q (g := gb513) (o := .cells #[.int .i64 (wrap64 (3 + t500)), .slice Ao49 y510.length co49] 43 (0, 0)) (bup BK513.out) hb)
  replace HK := Ae_q (kT_q m10_q (kO_q hb g none) (.inl rfl))
  replace HB := Ae_q (bT_q m12_q hb)
  replace HI0 := Ae_q (i7_q m13_q hb)
  clear hb ho57
  obtain ⟨Ao58, co58, eo58⟩ := rS_q HO526.out
  subst eo58
  obtain ⟨ado58, fo58, _⟩ := aI_q (rR_q HO526.out).2.2 0 (by decide) (by rw [Ny524.out]; simp)
  cases fo58
  refine hK.out _ _ ⟨(bC_q BK513.out 0).trans rfl, (bC_q BK513.out 1).trans rfl⟩ (fun hHeld => ?_)
  clear hK K
  refine nJ_q ?_
  refine one_ (i := 3) (N := some 35) #[true, true, true, true, true, true, false, false, false, false, false] rfl rfl (one_of HT_.out m8_q) (by decide) (fun K hK => ?_)
  refine goes_ Try.func70 m8_q rfl #[.pointer (some ⟨g, 0, none⟩), .int .i64 4] (by rfl) rfl rfl m0_q ?_
  with_reducible refine (spec_l6Rd_pick.calls k g s0_0 t515 4 t522 t523 w0 _ ?side1 ?side2 A34.out).mono ?_
  (case side1 => exact m13_q)
  (case side2 => exact m12_q)
  rintro e w' ⟨rfl, hi, hb, hk⟩
  refine ⟨_, rfl, ?_⟩
  replace BK499 := Ae_q (kB_q hk (g' := gb499) (o := .cells #[.int .i64 0, .slice none 0 0] 43 (0, 0)) (bup BK499.out) NB499_0.out (by simp))
  replace HO512 := Ae_q (rM_q (rK_q (IsS83.apart (show IsS83 w0 _ g s0_0 t515 from by repeat (with_reducible first | exact HI0.out | apply i2_q | apply i1_q | apply i0_q | apply i3_q | refine i4_q ?_ NB0_499.out _ | refine i4_q ?_ NB0_513.out _)) (rup HO512.out) (by decide)) hk (fun _ h => h.2)) (fun _ h => h.1))
  replace BK513 := Ae_q (kB_q hk (g' := gb513) (o := .cells #[.int .i64 (wrap64 (3 + t500)), .slice Ao49 y510.length co49] 43 (0, 0)) (bup BK513.out) NB513_0.out (by simp))
  replace HO526 := Ae_q (rM_q (rK_q (IsS83.apart (show IsS83 w0 _ g s0_0 t515 from by repeat (with_reducible first | exact HI0.out | apply i2_q | apply i1_q | apply i0_q | apply i3_q | refine i4_q ?_ NB0_499.out _ | refine i4_q ?_ NB0_513.out _)) (rup HO526.out) (by decide)) hk (fun _ h => h.2)) (fun _ h => h.1))
  replace HK := Ae_q (kT_q m10_q hk (.inl rfl))
  replace HB := Ae_q (hb)
  replace HI0 := Ae_q (hi)
  (try clear hb)
  (try clear hb2)
  (try clear hk)
  (try clear hi)
  refine hK.out _ _ ⟨(bC_q BK513.out 0).trans rfl, (bC_q BK513.out 1).trans rfl⟩ (fun hHeld => ?_)
  clear hK K
  refine nJ_q ?_
  refine one_ (i := 6) (N := some 38) #[true, true, true, true, true, true, true, false, false, false, false] rfl rfl (one_of HT_.out m8_q) (by decide) (fun K hK => ?_)
  refine goes_ Try.func70 m8_q rfl #[.pointer (some ⟨g, 0, none⟩), .int .i64 3] (by rfl) rfl rfl m0_q ?_
  with_reducible refine (spec_l6Rd_pick.calls k g s0_0 t523 3 t527 t528 w0 _ ?side1 ?side2 A35.out).mono ?_
  (case side1 => exact m13_q)
  (case side2 => exact m12_q)
  rintro e w' ⟨rfl, hi, hb, hk⟩
  refine ⟨_, rfl, ?_⟩
  replace BK499 := Ae_q (kB_q hk (g' := gb499) (o := .cells #[.int .i64 0, .slice none 0 0] 43 (0, 0)) (bup BK499.out) NB499_0.out (by simp))
  replace HO512 := Ae_q (rM_q (rK_q (IsS83.apart (show IsS83 w0 _ g s0_0 t523 from by repeat (with_reducible first | exact HI0.out | apply i2_q | apply i1_q | apply i0_q | apply i3_q | refine i4_q ?_ NB0_499.out _ | refine i4_q ?_ NB0_513.out _)) (rup HO512.out) (by decide)) hk (fun _ h => h.2)) (fun _ h => h.1))
  replace BK513 := Ae_q (kB_q hk (g' := gb513) (o := .cells #[.int .i64 (wrap64 (3 + t500)), .slice Ao49 y510.length co49] 43 (0, 0)) (bup BK513.out) NB513_0.out (by simp))
  replace HO526 := Ae_q (rM_q (rK_q (IsS83.apart (show IsS83 w0 _ g s0_0 t523 from by repeat (with_reducible first | exact HI0.out | apply i2_q | apply i1_q | apply i0_q | apply i3_q | refine i4_q ?_ NB0_499.out _ | refine i4_q ?_ NB0_513.out _)) (rup HO526.out) (by decide)) hk (fun _ h => h.2)) (fun _ h => h.1))
  replace HK := Ae_q (kT_q m10_q hk (.inl rfl))
  replace HB := Ae_q (hb)
  replace HI0 := Ae_q (hi)
  (try clear hb)
  (try clear hb2)
  (try clear hk)
  (try clear hi)
  refine hK.out _ _ ⟨(bC_q BK513.out 0).trans rfl, (bC_q BK513.out 1).trans rfl⟩ (fun hHeld => ?_)
  clear hK K
  refine nJ_q ?_
  exact norm_ m52_q (hCont (.slice (some ado58) y524.length co58, ado58) _ ⟨hHeld, m128_q, m129_q, ⟨_, rfl⟩, (bup BK499.out), (bup BK513.out), m13_q, m10_q, m12_q⟩)
 rintro ⟨v525, adz_v525⟩ w61 ⟨hS_, h0_, h1_, h2_, h3_, h4_, h5_, h6_, h7_⟩
 have n0_ : Aside0 (Kd.R kI_q 3 w61 w.heap.size (fun k_ => some k_ ≠ (v525 : Value).ownBlock) (.slice Ao49 y510.length co49) y510) := ⟨h0_⟩
 have n1_ : Aside0 (Kd.R kI_q 3 w61 w.heap.size (fun k_ => some k_ ≠ (.slice Ao49 y510.length co49 : Value).ownBlock) v525 y524) := ⟨h1_⟩
 have n2_ : Aside0 (∃ c_, (v525 : Value) = .slice (some adz_v525) y524.length c_) := ⟨h2_⟩
 have n3_ : Aside0 (w61.heap[gb499]? = some (.cells #[.int .i64 0, .slice none 0 0] 43 (0, 0))) := ⟨h3_⟩
 have n4_ : Aside0 (w61.heap[gb513]? = some (.cells #[.int .i64 (wrap64 (3 + t500)), .slice Ao49 y510.length co49] 43 (0, 0))) := ⟨h4_⟩
 have n5_ : Aside0 (IsS83 w0 w61 g s0_0 t528) := ⟨h5_⟩
 have n6_ : Aside0 (KeepBut w w61 g none) := ⟨h6_⟩
 have n7_ : Aside0 (Below w0.heap.size w0 w61) := ⟨h7_⟩
 clear HO512
 clear BK499
 clear BK513
 clear HI0
 clear HK
 clear HB
 clear h0_ h1_ h2_ h3_ h4_ h5_ h6_ h7_
 have HO512 := n0_
 have HO526 := n1_
 have HA_HO526 := n2_
 have BK499 := n3_
 have BK513 := n4_
 have HI0 := n5_
 have HK := n6_
 have HB := n7_
 clear n0_ n1_ n2_ n3_ n4_ n5_ n6_ n7_
 have hHeld : w61.cell? ⟨gb513, 0, none⟩ = some (.int .i64 (wrap64 (3 + t500))) ∧ w61.cell? ⟨gb513, 1, none⟩ = some (.slice Ao49 y510.length co49) := hS_
 obtain ⟨co62, eo62⟩ := HA_HO526.out
 clear HA_HO526
 subst eo62
 have p40 : 0 ≤ (t522 : Int) := oD_q (by assumption)
 have q40 : (t522 : Int) < ((y510.length : Int) : Int) := oD_q (by assumption)
 obtain ⟨go40, co40, eo40, gb40, gl40, cl40, HG40⟩ := Kd.R_form HO512.out (by omega)
 (first | cases eo40 | (injection eo40 with ea_ en_ ec_; (first | subst ea_ | (injection ea_ with ea_; subst ea_)); subst ec_; clear en_))
 have GB40 := Ae_q gb40
 have GG40 := Ae_q HG40
 clear gb40 gl40 HG40
 obtain ⟨hx40_0, hf40_0⟩ := Kd.R_celln 0 HO512.out (t522 : Int) p40 q40
 replace p40 := eq_true p40
 replace q40 := eq_true q40
 have HN0_go40 := Ae_q (show g ≠ go40 from by have h_ := IsS83.own_ne HI0.out HO512.out (by decide); intro e_; exact h_ (by rw [e_]; rfl))
 have HP63 := Kd.R_putn HO512.out (t522 : Int) (rd y524 t527)
 rw [← Ny530.out] at HP63
 have HQ63 := Ae_q HP63
 clear HP63
 refine norm_ (a' := ?_) ?_ ?_
 rotate_left
 ·simp only [putAll, Act.put, sA_q, sZ_q, sS_q]
  rfl
 refine pJ HT_ 7 39 rfl rfl ?_
 refine one_ (i := 8) (N := some 40) #[true, true, true, true, true, true, true, true, true, false, false] rfl rfl (one_of HT_.out m8_q) (by decide) (fun K hK => ?_)
 (have p529 : 0 ≤ (t527 : Int) := oD_q (by assumption); have q529 : t527 < (y524.length : Int) := oD_q (by assumption); obtain ⟨ad529, e529, hx529_0⟩ := aI_q (rR_q HO526.out).2.2 t527 p529 q529; obtain rfl : adz_v525 = ad529 := (by injection e529))
 refine value_ (w1 := ?_) (v := ?_) (by rfl) rfl ?_ ?_
 rotate_left 2
 ·go_simp
  constructor
  ·rfl
  rfl
 clear hx529_0
 refine hK.out _ _ ⟨(bC_q BK513.out 0).trans rfl, (bC_q BK513.out 1).trans rfl⟩ (fun hHeld => ?_)
 clear hK K
 refine nJ_q ?_
 refine pJ HT_ 9 41 rfl rfl ?_
 refine last_ (i := 10) (N := none) #[true, true, true, true, true, true, true, true, true, true, true] rfl rfl (one_of HT_.out m8_q) (by decide) (fun K hK => ?_)
 refine skip_ (w1 := ?_) (by rfl) rfl ?_ ?_
 rotate_left
 ·go_simp
  rfl
 refine hK.out _ _ ?_
 clear hK K
 refine done_ (done_of HT_.out m8_q) ?_
 have n0_ : Aside0 (Kd.R kI_q 3 (w61.setCell ⟨go40, (t522 : Int).toNat, none⟩ (.int .i64 (rd y524 t527))) w.heap.size (fun k_ => some k_ ≠ (.slice (some adz_v525) y524.length co62 : Value).ownBlock) (.slice (some ⟨go40, 0, none⟩) y510.length co49) y530) := ⟨by (with_reducible repeat (first | apply rA_q | apply rN_q | apply rD_q)); exact HQ63.out⟩
 have n1_ : Aside0 (Kd.R kI_q 3 (w61.setCell ⟨go40, (t522 : Int).toNat, none⟩ (.int .i64 (rd y524 t527))) w.heap.size (fun k_ => some k_ ≠ (.slice (some ⟨go40, 0, none⟩) y510.length co49 : Value).ownBlock) (.slice (some adz_v525) y524.length co62) y524) := ⟨by (with_reducible repeat (first | apply rA_q | apply rN_q | apply rD_q)); exact rM_q (Kd.R_far (p := ⟨go40, (t522 : Int).toNat, none⟩) (rM_q HO526.out (fun k_ hk => (⟨hk, fun e_ => hk (by rw [e_]; rfl)⟩ : _ ∧ k_ ≠ go40))) (fun _ hk => hk.2) (.int .i64 (rd y524 t527))) (fun _ hk => hk.1)⟩
 have n2_ : Aside0 ((w61.setCell ⟨go40, (t522 : Int).toNat, none⟩ (.int .i64 (rd y524 t527))).heap[gb499]? = some (.cells #[.int .i64 0, .slice none 0 0] 43 (0, 0))) := ⟨by (with_reducible repeat (first | refine bN_q ?_ _ | refine bW_q ?_ | refine bL_q ?_ _)); refine blk_far ?_ (by have h_ := Kd.R_ne HO512.out BK499.out (by decide); intro e_; exact h_ (by rw [e_]; rfl)) _; (with_reducible repeat (first | refine bN_q ?_ _ | refine bW_q ?_ | refine bL_q ?_ _)); exact BK499.out⟩
 have n3_ : Aside0 ((w61.setCell ⟨go40, (t522 : Int).toNat, none⟩ (.int .i64 (rd y524 t527))).heap[gb513]? = some (.cells #[.int .i64 (wrap64 (3 + t500)), .slice (some ⟨go40, 0, none⟩) y510.length co49] 43 (0, 0))) := ⟨by (with_reducible repeat (first | refine bN_q ?_ _ | refine bW_q ?_ | refine bL_q ?_ _)); refine blk_far ?_ (by have h_ := Kd.R_ne HO512.out BK513.out (by decide); intro e_; exact h_ (by rw [e_]; rfl)) _; (with_reducible repeat (first | refine bN_q ?_ _ | refine bW_q ?_ | refine bL_q ?_ _)); exact BK513.out⟩
 have n4_ : Aside0 (IsS83 w0 (w61.setCell ⟨go40, (t522 : Int).toNat, none⟩ (.int .i64 (rd y524 t527))) g s0_0 t528) := ⟨by repeat (with_reducible first | exact HI0.out | apply i2_q | apply i1_q | apply i0_q | apply i3_q | refine i4_q ?_ HN0_go40.out _ | refine i4_q ?_ NB0_499.out _ | refine i4_q ?_ NB0_513.out _)⟩
 have n5_ : Aside0 (KeepBut w (w61.setCell ⟨go40, (t522 : Int).toNat, none⟩ (.int .i64 (rd y524 t527))) g none) := ⟨by repeat (with_reducible first | exact HK.out | apply kS_q | apply kN_q | apply kD_q | apply kA_q | refine kF_q ?_ GB40.out _ | refine kF_q ?_ GW499.out _ | refine kF_q ?_ GW513.out _)⟩
 have n6_ : Aside0 (Below w0.heap.size w0 (w61.setCell ⟨go40, (t522 : Int).toNat, none⟩ (.int .i64 (rd y524 t527)))) := ⟨by repeat (with_reducible first | exact HB.out | apply bA_q | apply pB_q | apply bD_q | refine bS_q ?_ (nT_q HL.out GB40.out) | refine bS_q ?_ (i5_q HI0.out) | refine bS_q ?_ GE499.out | refine bS_q ?_ GE513.out)⟩
 (try clear HO512)
 (try clear HO526)
 (try clear BK499)
 (try clear BK513)
 (try clear HI0)
 (try clear HK)
 (try clear HB)
 generalize (w61.setCell ⟨go40, (t522 : Int).toNat, none⟩ (.int .i64 (rd y524 t527))) = w64 at n0_ n1_ n2_ n3_ n4_ n5_ n6_ ⊢
 have HO512 := n0_
 have HO526 := n1_
 have BK499 := n2_
 have BK513 := n3_
 have HI0 := n4_
 have HK := n5_
 have HB := n6_
 clear n0_ n1_ n2_ n3_ n4_ n5_ n6_
 have hcz65_0 : cI w64 gb513 0 (wrap64 (3 + t500)) := cZ BK513 0 rfl
 have hcz65_1 : w64.cell? ⟨gb513, 1, none⟩ = some (.slice (some ⟨go40, 0, none⟩) y510.length co49) := (bC_q BK513.out 1).trans rfl
 have hfz65_0 := bF_q BK513.out 0
 have hfz65_1 := bF_q BK513.out 1
 have hnb66 := NB499_0.out
 have hnc66 := NB0_499.out
 have hcz67_0 : cI w64 gb499 0 0 := cZ BK499 0 rfl
 have hcz67_1 : w64.cell? ⟨gb499, 1, none⟩ = some (.slice none 0 0) := (bC_q BK499.out 1).trans rfl
 have hfz67_0 := bF_q BK499.out 0
 have hfz67_1 := bF_q BK499.out 1
 try go_wp2
 refine bodyPost_ret (results_cell_row rfl _ _ gb499 43 #[.int .i64 (wrap64 (3 + t500)), .slice (some ⟨go40, 0, none⟩) y510.length co49] (0, 0) _ rfl m74_q Try.underlying43 rfl m8_q) rfl ?_
 exact ⟨_, m6_q, by (with_reducible repeat (first | apply rA_q | apply rN_q | apply rD_q)); exact rM_q (Kd.R_far (p := ⟨gb499, 1, none⟩) (Kd.R_far (p := ⟨gb499, 0, none⟩) (Kd.R_types HO512.out BK499.out (by decide)) (fun _ hk => hk.2) (.int .i64 (wrap64 (3 + t500)))) (fun _ hk => hk.2) (.slice (some ⟨go40, 0, none⟩) y510.length co49)) (fun _ hk => trivial), m13_q, m12_q, m10_q⟩

end Go.Proofs.Ytfnpiacmlahegaa.PRp
