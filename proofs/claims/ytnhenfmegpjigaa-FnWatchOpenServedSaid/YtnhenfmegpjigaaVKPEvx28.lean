import Derived.Test.YtnhenfmegpjigaaVKPEvx0
import Derived.Test.YtnhenfmegpjigaaVKPEvx16
import Derived.Test.YtnhenfmegpjigaaVKPEvx27
namespace Go.Proofs.Ytnhenfmegpjigaa.PEv
open Go.RowKit Go.Proofs.YtnhenfmegpjigaaW.PrintWords Go.Proofs.YtnhenfmegpjigaaW.PrintLast Go.Proofs.YtnhenfmegpjigaaW.PrintMore
attribute [local go_sem] max2_int min2_int max_two min_two max_three min_three max_four min_four
set_option linter.unusedVariables false
set_option linter.unusedSimpArgs false

def spec_l43Wrong.f (k : Nat) (l0 : List (S50)) (l1 : List (S27)) (a2 : Int) : Option (Bool) := if 0 ≤ a2 then (if a2 < (l1.length : Int) then ((spec_l43Made.f k l1 a2 ((rd_T27 l1 a2).f2)).bind fun t567 => (if ((rd_T27 l1 a2).f0) = 1 then (some (decide (t567 ≥ 0))) else (if ((rd_T27 l1 a2).f0) = 3 then (some (decide (t567 < 0))) else ((spec_l43Guest.f k l0 ((rd_T27 l1 a2).f3)).bind fun t568 => (if t567 < 0 then (some true) else (if t568 < 0 then (some true) else (if 0 ≤ t567 then (if t567 < (l1.length : Int) then (if ((rd_T27 l1 a2).f1) > (wrap64 (((rd_T27 l1 t567).f1) + 120)) then (some true) else (if 0 ≤ t568 then (if t568 < (l0.length : Int) then ((spec_GuestMay.f k ((rd_T50 l0 t568).f0) ((rd_T50 l0 t568).f1) ((rd_T50 l0 t568).f2) ((rd_T27 l1 t567).f4) ((rd_T27 l1 t567).f5)).bind fun t573 => (some (!t573))) else (none)) else (none))) else (none)) else (none)))))))) else (none)) else (none)
def spec_l43Wrong.T9 : Bool × List (List Nat × List Nat) := (true, [([], []), ([0], [0]), ([1], [1]), ([2], [2]), ([3, 2], [2, 3]), ([2, 4], [2, 4]), ([5, 2], [5]), ([6], [6]), ([7, 6], [6, 7]), ([6], [6]), ([6], [6]), ([9, 10, 6], [6, 9, 10]), ([11, 6], [6, 11]), ([12, 6], [6, 12]), ([13, 6], [6, 13]), ([8, 14, 6], [6, 8, 14]), ([6, 15], [6, 15]), ([16, 6], [16]), ([17], [17]), ([17], [17]), ([18, 19, 17], [17, 18, 19]), ([20, 17], [17, 20]), ([17], [17]), ([17], [17]), ([22, 23, 17], [17, 22, 23]), ([24, 17], [17, 24]), ([25, 17], [17, 25]), ([17], [17]), ([17], [17]), ([27, 28, 17], [17, 27, 28]), ([29, 17], [17, 29]), ([30, 17], [17, 30]), ([21, 26, 31, 17, 17], [17, 21, 26, 31]), ([32, 17], [17, 32]), ([17, 33], [17, 33]), ([34, 32, 0, 1, 2, 3, 4, 5, 6, 7, 8, 9, 10, 11, 12, 13, 14, 15, 16, 17, 18, 19, 20, 21, 22, 23, 24, 25, 26, 27, 28, 29, 30, 31, 32, 33, 34], [34])])
def spec_l43Wrong.B9 : List Nat := [0, 1, 3, 7, 15, 31, 63, 127, 255, 127, 127, 1663, 3711, 7807, 15999, 32767, 65535, 131071, 262143, 262143, 1048575, 2097151, 262143, 262143, 12845055, 29622271, 63176703, 262143, 262143, 402915327, 939786239, 2013528063, 4294967295, 8589934591, 17179869183, 34359738367]
theorem spec_l43Wrong.tab9 : rtab .any (opsOf Try.f56 9) = spec_l43Wrong.T9 := by kernel_rfl
theorem spec_l43Wrong.bits9 : waitsOk spec_l43Wrong.T9.2 spec_l43Wrong.B9 = true := by kernel_rfl
set_option maxHeartbeats 8000000 in
set_option maxRecDepth 100000 in
theorem spec_l43Wrong.calls (k : Nat) (A0 : Option Addr) (c0 : Nat) (l0 : List (S50)) (A1 : Option Addr) (c1 : Nat) (l1 : List (S27)) (a2 : Int) (r : Bool) (w : World) (hr0 : Kd.C k50 w A0 l0.length l0) (hc0 : l0.length ≤ c0) (hr1 : Kd.C k27 w A1 l1.length l1) (hc1 : l1.length ≤ c1) (h : spec_l43Wrong.f k l0 l1 a2 = some r) :
    Calls Try.prog 56 #[.slice A0 l0.length c0, .slice A1 l1.length c1, .int .i64 a2] w fun e w' => e = .returned (.bool r) ∧ Below w.heap.size w w' := by
 have hu27 := Try.underlying27
 have hu50 := Try.underlying50
 have HR0 := Ae_q hr0
 have HC0 := Ae_q hc0
 clear hr0 hc0
 have HR1 := Ae_q hr1
 have HC1 := Ae_q hc1
 clear hr1 hc1
 have HB := Ae_q (bR_q w.heap.size w)
 have H : (if 0 ≤ a2 then (if a2 < (l1.length : Int) then ((spec_l43Made.f k l1 a2 ((rd_T27 l1 a2).f2)).bind fun t567 => (if ((rd_T27 l1 a2).f0) = 1 then (some (decide (t567 ≥ 0))) else (if ((rd_T27 l1 a2).f0) = 3 then (some (decide (t567 < 0))) else ((spec_l43Guest.f k l0 ((rd_T27 l1 a2).f3)).bind fun t568 => (if t567 < 0 then (some true) else (if t568 < 0 then (some true) else (if 0 ≤ t567 then (if t567 < (l1.length : Int) then (if ((rd_T27 l1 a2).f1) > (wrap64 (((rd_T27 l1 t567).f1) + 120)) then (some true) else (if 0 ≤ t568 then (if t568 < (l0.length : Int) then ((spec_GuestMay.f k ((rd_T50 l0 t568).f0) ((rd_T50 l0 t568).f1) ((rd_T50 l0 t568).f2) ((rd_T27 l1 t567).f4) ((rd_T27 l1 t567).f5)).bind fun t573 => (some (!t573))) else (none)) else (none))) else (none)) else (none)))))))) else (none)) else (none)) = some r := h
 clear h
 by_cases c4 : 0 ≤ a2
 rotate_left
 ·rw [if_neg c4] at H
  exact absurd H (by simp)
 rw [if_pos c4] at H
 have c4b0 : decide (0 ≤ a2) = true := dT_q c4
 clear c4
 by_cases c5 : a2 < (l1.length : Int)
 rotate_left
 ·rw [if_neg c5] at H
  exact absurd H (by simp)
 rw [if_pos c5] at H
 have c5b0 : decide (a2 < (l1.length : Int)) = true := dT_q c5
 clear c5
 replace H := oB_q.mp H
 obtain ⟨t567, A60, H⟩ := H
 replace H : (if ((rd_T27 l1 a2).f0) = 1 then (some (decide (t567 ≥ 0))) else (if ((rd_T27 l1 a2).f0) = 3 then (some (decide (t567 < 0))) else ((spec_l43Guest.f k l0 ((rd_T27 l1 a2).f3)).bind fun t568 => (if t567 < 0 then (some true) else (if t568 < 0 then (some true) else (if 0 ≤ t567 then (if t567 < (l1.length : Int) then (if ((rd_T27 l1 a2).f1) > (wrap64 (((rd_T27 l1 t567).f1) + 120)) then (some true) else (if 0 ≤ t568 then (if t568 < (l0.length : Int) then ((spec_GuestMay.f k ((rd_T50 l0 t568).f0) ((rd_T50 l0 t568).f1) ((rd_T50 l0 t568).f2) ((rd_T27 l1 t567).f4) ((rd_T27 l1 t567).f5)).bind fun t573 => (some (!t573))) else (none)) else (none))) else (none)) else (none))))))) = some r := H
 have A6 := Ae_q A60
 clear A60
 by_cases c7 : ((rd_T27 l1 a2).f0) = 1
 ·rw [if_pos c7] at H
  have c7b0 : (((rd_T27 l1 a2).f0) == 1) = true := beq_iff_eq.mpr c7
  have c7b1 : (((rd_T27 l1 a2).f0) != 1) = false := nE_q.mpr c7
  clear c7
  obtain rfl := oI_q H
  have p565 : 0 ≤ (a2 : Int) := oD_q (by assumption)
  have q565 : a2 < (l1.length : Int) := oD_q (by assumption)
  obtain ⟨ad565, e565, hx565_0, hx565_1, hx565_2, hx565_3, hx565_4, hx565_5⟩ := at_T27 HR1.out a2 p565 q565
  cases e565
  replace p565 := eq_true p565
  replace q565 := eq_true q565
  go_enter Try.func56, Try.ntmps56
  go_wp2_with (first | ((with_reducible refine gD_q (N := 7) rfl ?_); refine bE_q ?hg (N := 7) ?hd (cs := #[.int .i64 0, .int .i64 0, .int .i64 0, .int .i64 0, .int .i64 0, .int .i64 0]) (t := 27) ?hr ?_; (case hd => rfl); (case hg => rfl); (case hr => first | (go_simp; done) | (go_simp; rfl)); intro gb566 hg w8 hbox hb; have n0_ := Ae_q (bT_q (bel HB.out) hb); have n1_ := Ae_q (hbox); have n2_ := Ae_q ((by rw [hg]; exact (bZ_q (bel HB.out)) : w.heap.size ≤ gb566)); have n3_ := Ae_q ((by rw [hg]; exact (bZ_q (bel HB.out)) : w.heap.size ≤ gb566)); clear HB; have HB := n0_; have BK566 := n1_; have GW566 := n2_; have GE566 := n3_; clear n0_ n1_ n2_ n3_; clear hb hbox hg; have hcz9_0 : cI w8 gb566 0 0 := cZ BK566 0 rfl; have hcz9_1 : cI w8 gb566 1 0 := cZ BK566 1 rfl; have hcz9_2 : cI w8 gb566 2 0 := cZ BK566 2 rfl; have hcz9_3 : cI w8 gb566 3 0 := cZ BK566 3 rfl; have hcz9_4 : cI w8 gb566 4 0 := cZ BK566 4 rfl; have hcz9_5 : cI w8 gb566 5 0 := cZ BK566 5 rfl; have hfz9_0 := bF_q BK566.out 0; have hfz9_1 := bF_q BK566.out 1; have hfz9_2 := bF_q BK566.out 2; have hfz9_3 := bF_q BK566.out 3; have hfz9_4 := bF_q BK566.out 4; have hfz9_5 := bF_q BK566.out 5) | ((with_reducible refine gC_q (f := 52) rfl ?_); refine gL_q (some 18) rfl rfl Try.func52 (by kernel_rfl) rfl #[.slice (some ad565) l1.length c1, .int .i64 a2, .int .i64 ((rd_T27 l1 a2).f2)] rfl (by (try simp only [lM_q, lC_q, lN_q]); first | done | rfl | (simp only [lD_q, lT_q]; rfl)) ?_; (with_reducible refine (spec_l43Made.calls k _ _ l1 a2 ((rd_T27 l1 a2).f2) t567 _ ?side1 ?side2 A6.out).mono ?_); (case side1 => exact cB_q HR1.out (by repeat (with_reducible first | exact HB.out | apply bA_q | apply pB_q | apply bD_q | refine bS_q ?_ GE566.out))); (case side2 => exact HC1.out); rintro e w' ⟨rfl, ⟨nd, rfl⟩⟩; refine ⟨_, rfl, ?_⟩))
  go_ret
  exact ⟨by first | rfl | (simp [eN_q, eS_q] <;> rfl) | (simp [*, eN_q, eS_q] <;> rfl), by repeat (with_reducible first | exact HB.out | apply bA_q | apply pB_q | apply bD_q | refine bS_q ?_ GE566.out)⟩
 rw [if_neg c7] at H
 have c7b0 : (((rd_T27 l1 a2).f0) == 1) = false := fN_q.mpr c7
 have c7b1 : (((rd_T27 l1 a2).f0) != 1) = true := nI_q.mpr c7
 by_cases c10 : ((rd_T27 l1 a2).f0) = 3
 ·rw [if_pos c10] at H
  have c10b0 : (((rd_T27 l1 a2).f0) == 3) = true := beq_iff_eq.mpr c10
  have c10b1 : (((rd_T27 l1 a2).f0) != 3) = false := nE_q.mpr c10
  clear c10
  obtain rfl := oI_q H
  have p565 : 0 ≤ (a2 : Int) := oD_q (by assumption)
  have q565 : a2 < (l1.length : Int) := oD_q (by assumption)
  obtain ⟨ad565, e565, hx565_0, hx565_1, hx565_2, hx565_3, hx565_4, hx565_5⟩ := at_T27 HR1.out a2 p565 q565
  cases e565
  replace p565 := eq_true p565
  replace q565 := eq_true q565
  go_enter Try.func56, Try.ntmps56
  go_wp2_with (first | ((with_reducible refine gD_q (N := 7) rfl ?_); refine bE_q ?hg (N := 7) ?hd (cs := #[.int .i64 0, .int .i64 0, .int .i64 0, .int .i64 0, .int .i64 0, .int .i64 0]) (t := 27) ?hr ?_; (case hd => rfl); (case hg => rfl); (case hr => first | (go_simp; done) | (go_simp; rfl)); intro gb566 hg w11 hbox hb; have n0_ := Ae_q (bT_q (bel HB.out) hb); have n1_ := Ae_q (hbox); have n2_ := Ae_q ((by rw [hg]; exact (bZ_q (bel HB.out)) : w.heap.size ≤ gb566)); have n3_ := Ae_q ((by rw [hg]; exact (bZ_q (bel HB.out)) : w.heap.size ≤ gb566)); clear HB; have HB := n0_; have BK566 := n1_; have GW566 := n2_; have GE566 := n3_; clear n0_ n1_ n2_ n3_; clear hb hbox hg; have hcz12_0 : cI w11 gb566 0 0 := cZ BK566 0 rfl; have hcz12_1 : cI w11 gb566 1 0 := cZ BK566 1 rfl; have hcz12_2 : cI w11 gb566 2 0 := cZ BK566 2 rfl; have hcz12_3 : cI w11 gb566 3 0 := cZ BK566 3 rfl; have hcz12_4 : cI w11 gb566 4 0 := cZ BK566 4 rfl; have hcz12_5 : cI w11 gb566 5 0 := cZ BK566 5 rfl; have hfz12_0 := bF_q BK566.out 0; have hfz12_1 := bF_q BK566.out 1; have hfz12_2 := bF_q BK566.out 2; have hfz12_3 := bF_q BK566.out 3; have hfz12_4 := bF_q BK566.out 4; have hfz12_5 := bF_q BK566.out 5) | ((with_reducible refine gC_q (f := 52) rfl ?_); refine gL_q (some 18) rfl rfl Try.func52 (by kernel_rfl) rfl #[.slice (some ad565) l1.length c1, .int .i64 a2, .int .i64 ((rd_T27 l1 a2).f2)] rfl (by (try simp only [lM_q, lC_q, lN_q]); first | done | rfl | (simp only [lD_q, lT_q]; rfl)) ?_; (with_reducible refine (spec_l43Made.calls k _ _ l1 a2 ((rd_T27 l1 a2).f2) t567 _ ?side1 ?side2 A6.out).mono ?_); (case side1 => exact cB_q HR1.out (by repeat (with_reducible first | exact HB.out | apply bA_q | apply pB_q | apply bD_q | refine bS_q ?_ GE566.out))); (case side2 => exact HC1.out); rintro e w' ⟨rfl, ⟨nd, rfl⟩⟩; refine ⟨_, rfl, ?_⟩))
  go_ret
  exact ⟨by first | rfl | (simp [eN_q, eS_q] <;> rfl) | (simp [*, eN_q, eS_q] <;> rfl), by repeat (with_reducible first | exact HB.out | apply bA_q | apply pB_q | apply bD_q | refine bS_q ?_ GE566.out)⟩
 rw [if_neg c10] at H
 have c10b0 : (((rd_T27 l1 a2).f0) == 3) = false := fN_q.mpr c10
 have c10b1 : (((rd_T27 l1 a2).f0) != 3) = true := nI_q.mpr c10
 replace H := oB_q.mp H
 obtain ⟨t568, A130, H⟩ := H
 replace H : (if t567 < 0 then (some true) else (if t568 < 0 then (some true) else (if 0 ≤ t567 then (if t567 < (l1.length : Int) then (if ((rd_T27 l1 a2).f1) > (wrap64 (((rd_T27 l1 t567).f1) + 120)) then (some true) else (if 0 ≤ t568 then (if t568 < (l0.length : Int) then ((spec_GuestMay.f k ((rd_T50 l0 t568).f0) ((rd_T50 l0 t568).f1) ((rd_T50 l0 t568).f2) ((rd_T27 l1 t567).f4) ((rd_T27 l1 t567).f5)).bind fun t573 => (some (!t573))) else (none)) else (none))) else (none)) else (none)))) = some r := H
 have A13 := Ae_q A130
 clear A130
 by_cases c14 : t567 < 0
 ·rw [if_pos c14] at H
  have c14b0 : decide (t567 < 0) = true := dT_q c14
  clear c14
  obtain rfl := oI_q H
  have p565 : 0 ≤ (a2 : Int) := oD_q (by assumption)
  have q565 : a2 < (l1.length : Int) := oD_q (by assumption)
  obtain ⟨ad565, e565, hx565_0, hx565_1, hx565_2, hx565_3, hx565_4, hx565_5⟩ := at_T27 HR1.out a2 p565 q565
  cases e565
  replace p565 := eq_true p565
  replace q565 := eq_true q565
  go_enter Try.func56, Try.ntmps56
  try go_wp2_with (first | ((with_reducible refine gD_q (N := 7) rfl ?_); refine bE_q ?hg (N := 7) ?hd (cs := #[.int .i64 0, .int .i64 0, .int .i64 0, .int .i64 0, .int .i64 0, .int .i64 0]) (t := 27) ?hr ?_; (case hd => rfl); (case hg => rfl); (case hr => first | (go_simp; done) | (go_simp; rfl)); intro gb566 hg w15 hbox hb; have n0_ := Ae_q (bT_q (bel HB.out) hb); have n1_ := Ae_q (hbox); have n2_ := Ae_q ((by rw [hg]; exact (bZ_q (bel HB.out)) : w.heap.size ≤ gb566)); have n3_ := Ae_q ((by rw [hg]; exact (bZ_q (bel HB.out)) : w.heap.size ≤ gb566)); clear HB; have HB := n0_; have BK566 := n1_; have GW566 := n2_; have GE566 := n3_; clear n0_ n1_ n2_ n3_; clear hb hbox hg; have hcz16_0 : cI w15 gb566 0 0 := cZ BK566 0 rfl; have hcz16_1 : cI w15 gb566 1 0 := cZ BK566 1 rfl; have hcz16_2 : cI w15 gb566 2 0 := cZ BK566 2 rfl; have hcz16_3 : cI w15 gb566 3 0 := cZ BK566 3 rfl; have hcz16_4 : cI w15 gb566 4 0 := cZ BK566 4 rfl; have hcz16_5 : cI w15 gb566 5 0 := cZ BK566 5 rfl; have hfz16_0 := bF_q BK566.out 0; have hfz16_1 := bF_q BK566.out 1; have hfz16_2 := bF_q BK566.out 2; have hfz16_3 := bF_q BK566.out 3; have hfz16_4 := bF_q BK566.out 4; have hfz16_5 := bF_q BK566.out 5) | ((with_reducible refine gC_q (f := 52) rfl ?_); refine gL_q (some 18) rfl rfl Try.func52 (by kernel_rfl) rfl #[.slice (some ad565) l1.length c1, .int .i64 a2, .int .i64 ((rd_T27 l1 a2).f2)] rfl (by (try simp only [lM_q, lC_q, lN_q]); first | done | rfl | (simp only [lD_q, lT_q]; rfl)) ?_; (with_reducible refine (spec_l43Made.calls k _ _ l1 a2 ((rd_T27 l1 a2).f2) t567 _ ?side1 ?side2 A6.out).mono ?_); (case side1 => exact cB_q HR1.out (by repeat (with_reducible first | exact HB.out | apply bA_q | apply pB_q | apply bD_q | refine bS_q ?_ GE566.out))); (case side2 => exact HC1.out); rintro e w' ⟨rfl, ⟨nd, rfl⟩⟩; refine ⟨_, rfl, ?_⟩) | ((with_reducible refine gC_q (f := 71) rfl ?_); refine gL_q (some 32) rfl rfl Try.func71 (by kernel_rfl) rfl #[.slice A0 l0.length c0, .int .i64 ((rd_T27 l1 a2).f3)] rfl (by (try simp only [lM_q, lC_q, lN_q]); first | done | rfl | (simp only [lD_q, lT_q]; rfl)) ?_; (with_reducible refine (spec_l43Guest.calls k _ _ l0 ((rd_T27 l1 a2).f3) t568 _ ?side1 ?side2 A13.out).mono ?_); (case side1 => exact cB_q HR0.out (by repeat (with_reducible first | exact HB.out | apply bA_q | apply pB_q | apply bD_q | refine bS_q ?_ GE566.out))); (case side2 => exact HC0.out); rintro e w' ⟨rfl, ⟨nd, rfl⟩⟩; refine ⟨_, rfl, ?_⟩))
  have n0_ : Aside0 (((((((w15.setCell ⟨gb566, 0, none⟩ (.int .i64 ((rd_T27 l1 a2).f0))).setCell ⟨gb566, 1, none⟩ (.int .i64 ((rd_T27 l1 a2).f1))).setCell ⟨gb566, 2, none⟩ (.int .i64 ((rd_T27 l1 a2).f2))).setCell ⟨gb566, 3, none⟩ (.int .i64 ((rd_T27 l1 a2).f3))).setCell ⟨gb566, 4, none⟩ (.int .i64 ((rd_T27 l1 a2).f4))).setCell ⟨gb566, 5, none⟩ (.int .i64 ((rd_T27 l1 a2).f5))).heap[gb566]? = some (.cells #[.int .i64 ((rd_T27 l1 a2).f0), .int .i64 ((rd_T27 l1 a2).f1), .int .i64 ((rd_T27 l1 a2).f2), .int .i64 ((rd_T27 l1 a2).f3), .int .i64 ((rd_T27 l1 a2).f4), .int .i64 ((rd_T27 l1 a2).f5)] 27 (0, 0))) := ⟨by (with_reducible repeat (first | refine bN_q ?_ _ | refine bW_q ?_ | refine bL_q ?_ _)); refine blk_put (cs := #[.int .i64 ((rd_T27 l1 a2).f0), .int .i64 ((rd_T27 l1 a2).f1), .int .i64 ((rd_T27 l1 a2).f2), .int .i64 ((rd_T27 l1 a2).f3), .int .i64 ((rd_T27 l1 a2).f4), .int .i64 0]) ?_ 5 _ rfl; (with_reducible repeat (first | refine bN_q ?_ _ | refine bW_q ?_ | refine bL_q ?_ _)); refine blk_put (cs := #[.int .i64 ((rd_T27 l1 a2).f0), .int .i64 ((rd_T27 l1 a2).f1), .int .i64 ((rd_T27 l1 a2).f2), .int .i64 ((rd_T27 l1 a2).f3), .int .i64 0, .int .i64 0]) ?_ 4 _ rfl; (with_reducible repeat (first | refine bN_q ?_ _ | refine bW_q ?_ | refine bL_q ?_ _)); refine blk_put (cs := #[.int .i64 ((rd_T27 l1 a2).f0), .int .i64 ((rd_T27 l1 a2).f1), .int .i64 ((rd_T27 l1 a2).f2), .int .i64 0, .int .i64 0, .int .i64 0]) ?_ 3 _ rfl; (with_reducible repeat (first | refine bN_q ?_ _ | refine bW_q ?_ | refine bL_q ?_ _)); refine blk_put (cs := #[.int .i64 ((rd_T27 l1 a2).f0), .int .i64 ((rd_T27 l1 a2).f1), .int .i64 0, .int .i64 0, .int .i64 0, .int .i64 0]) ?_ 2 _ rfl; (with_reducible repeat (first | refine bN_q ?_ _ | refine bW_q ?_ | refine bL_q ?_ _)); refine blk_put (cs := #[.int .i64 ((rd_T27 l1 a2).f0), .int .i64 0, .int .i64 0, .int .i64 0, .int .i64 0, .int .i64 0]) ?_ 1 _ rfl; (with_reducible repeat (first | refine bN_q ?_ _ | refine bW_q ?_ | refine bL_q ?_ _)); refine blk_put (cs := #[.int .i64 0, .int .i64 0, .int .i64 0, .int .i64 0, .int .i64 0, .int .i64 0]) ?_ 0 _ rfl; (with_reducible repeat (first | refine bN_q ?_ _ | refine bW_q ?_ | refine bL_q ?_ _)); exact BK566.out⟩
  have n1_ : Aside0 (Below w.heap.size w ((((((w15.setCell ⟨gb566, 0, none⟩ (.int .i64 ((rd_T27 l1 a2).f0))).setCell ⟨gb566, 1, none⟩ (.int .i64 ((rd_T27 l1 a2).f1))).setCell ⟨gb566, 2, none⟩ (.int .i64 ((rd_T27 l1 a2).f2))).setCell ⟨gb566, 3, none⟩ (.int .i64 ((rd_T27 l1 a2).f3))).setCell ⟨gb566, 4, none⟩ (.int .i64 ((rd_T27 l1 a2).f4))).setCell ⟨gb566, 5, none⟩ (.int .i64 ((rd_T27 l1 a2).f5)))) := ⟨by repeat (with_reducible first | exact HB.out | apply bA_q | apply pB_q | apply bD_q | refine bS_q ?_ GE566.out)⟩
  (try clear BK566)
  (try clear HB)
  generalize ((((((w15.setCell ⟨gb566, 0, none⟩ (.int .i64 ((rd_T27 l1 a2).f0))).setCell ⟨gb566, 1, none⟩ (.int .i64 ((rd_T27 l1 a2).f1))).setCell ⟨gb566, 2, none⟩ (.int .i64 ((rd_T27 l1 a2).f2))).setCell ⟨gb566, 3, none⟩ (.int .i64 ((rd_T27 l1 a2).f3))).setCell ⟨gb566, 4, none⟩ (.int .i64 ((rd_T27 l1 a2).f4))).setCell ⟨gb566, 5, none⟩ (.int .i64 ((rd_T27 l1 a2).f5))) = w17 at n0_ n1_ ⊢
  have BK566 := n0_
  have HB := n1_
  clear n0_ n1_
  (try (rw [drewN_self w17]; generalize hq_ : World.drewN w17 _ = w17; have n0_ : Aside0 (w17.heap[gb566]? = some (.cells #[.int .i64 ((rd_T27 l1 a2).f0), .int .i64 ((rd_T27 l1 a2).f1), .int .i64 ((rd_T27 l1 a2).f2), .int .i64 ((rd_T27 l1 a2).f3), .int .i64 ((rd_T27 l1 a2).f4), .int .i64 ((rd_T27 l1 a2).f5)] 27 (0, 0))) := ⟨by rw [← hq_]; exact (bup BK566.out)⟩; have n1_ : Aside0 (Below w.heap.size w w17) := ⟨by rw [← hq_]; exact (by repeat (with_reducible first | exact HB.out | apply bA_q | apply pB_q | apply bD_q | refine bS_q ?_ GE566.out))⟩; clear BK566 HB hq_; have BK566 := n0_; have HB := n1_; clear n0_ n1_))
  have n0_ := Ae_q (bW_q BK566.out)
  have n1_ := Ae_q (bD_q HB.out)
  clear BK566
  clear HB
  have BK566 := n0_
  have HB := n1_
  clear n0_ n1_
  refine start_ (n := 36) (S := fun w' => True) (ds := []) #[false, false, false, false, false, false, false, false, false, false, false, false, false, false, false, false, false, false, false, false, false, false, false, false, false, false, false, false, false, false, false, false, false, false, false, false] (by kernel_rfl) rfl rfl trivial (fun hHeld => ?_); refine with_tabW spec_l43Wrong.tab9 spec_l43Wrong.bits9 (fun HT_ HW_ => ?_)
  generalize w17.drew = w18 at BK566 HB hHeld ⊢
  refine pI (v := ?_) (a' := ?_) HT_ 0 33 rfl rfl (by kernel_rfl) (fun _ _ _ h => h) (by rfl) ?_ ?_ ?_
  rotate_left
  ·intro w'
   go_simp
   with_reducible rfl
  rotate_left
  ·simp only [pS_q]
   rfl
  refine pI (v := ?_) (a' := ?_) HT_ 1 34 rfl rfl (by kernel_rfl) (fun _ _ _ h => h) (by rfl) ?_ ?_ ?_
  rotate_left
  ·intro w'
   go_simp
   with_reducible rfl
  rotate_left
  ·simp only [pS_q]
   rfl
  refine pI (v := ?_) (a' := ?_) HT_ 2 35 rfl rfl (by kernel_rfl) (fun _ _ _ h => h) (by rfl) ?_ ?_ ?_
  rotate_left
  ·intro w'
   go_simp
   with_reducible rfl
  rotate_left
  ·simp only [pS_q]
   rfl
  refine pU (a' := ?_) HT_ 3 36 rfl rfl (by kernel_rfl) (fun _ _ _ h => h) (by rfl) ?_ ?_
  rotate_left
  ·simp only [pS_q]
   rfl
  refine pU (a' := ?_) HT_ 4 37 rfl rfl (by kernel_rfl) (fun _ _ _ h => h) (by rfl) ?_ ?_
  rotate_left
  ·simp only [pS_q]
   rfl
  refine pI (v := ?_) (a' := ?_) HT_ 5 38 rfl rfl (by kernel_rfl) (fun _ _ _ h => h) (by rfl) ?_ ?_ ?_
  rotate_left
  ·intro w'
   go_simp
   with_reducible rfl
  rotate_left
  ·simp only [pS_q]
   rfl
  refine pI (v := ?_) (a' := ?_) HT_ 6 39 rfl rfl (by kernel_rfl) (fun _ _ _ h => h) (by rfl) ?_ ?_ ?_
  rotate_left
  ·intro w'
   go_simp
   with_reducible rfl
  rotate_left
  ·simp only [pS_q]
   rfl
  refine pU (a' := ?_) HT_ 7 40 rfl rfl (by kernel_rfl) (fun _ _ _ h => h) (by rfl) ?_ ?_
  rotate_left
  ·simp only [pS_q]
   rfl
  refine pU (a' := ?_) HT_ 8 41 rfl rfl (by kernel_rfl) (fun _ _ _ h => h) (by rfl) ?_ ?_
  rotate_left
  ·simp only [pS_q]
   rfl
  refine pU (a' := ?_) HT_ 9 42 rfl rfl (by kernel_rfl) (fun _ _ _ h => h) (by rfl) ?_ ?_
  rotate_left
  ·simp only [pS_q]
   rfl
  refine pU (a' := ?_) HT_ 10 43 rfl rfl (by kernel_rfl) (fun _ _ _ h => h) (by rfl) ?_ ?_
  rotate_left
  ·simp only [pS_q]
   rfl
  refine pU (a' := ?_) HT_ 11 44 rfl rfl (by kernel_rfl) (fun _ _ _ h => h) (by rfl) ?_ ?_
  rotate_left
  ·simp only [pS_q]
   rfl
  refine pU (a' := ?_) HT_ 12 45 rfl rfl (by kernel_rfl) (fun _ _ _ h => h) (by rfl) ?_ ?_
  rotate_left
  ·simp only [pS_q]
   rfl
  refine pU (a' := ?_) HT_ 13 46 rfl rfl (by kernel_rfl) (fun _ _ _ h => h) (by rfl) ?_ ?_
  rotate_left
  ·simp only [pS_q]
   rfl
  refine pU (a' := ?_) HT_ 14 47 rfl rfl (by kernel_rfl) (fun _ _ _ h => h) (by rfl) ?_ ?_
  rotate_left
  ·simp only [pS_q]
   rfl
  refine pU (a' := ?_) HT_ 15 48 rfl rfl (by kernel_rfl) (fun _ _ _ h => h) (by rfl) ?_ ?_
  rotate_left
  ·simp only [pS_q]
   rfl
  refine pI (v := ?_) (a' := ?_) HT_ 16 49 rfl rfl (by kernel_rfl) (fun _ _ _ h => h) (by rfl) ?_ ?_ ?_
  rotate_left
  ·intro w'
   go_simp
   with_reducible rfl
  rotate_left
  ·simp only [pS_q]
   rfl
  refine pI (v := ?_) (a' := ?_) HT_ 17 50 rfl rfl (by kernel_rfl) (fun _ _ _ h => h) (by rfl) ?_ ?_ ?_
  rotate_left
  ·intro w'
   go_simp
   with_reducible rfl
  rotate_left
  ·simp only [pS_q]
   rfl
  refine pU (a' := ?_) HT_ 18 51 rfl rfl (by kernel_rfl) (fun _ _ _ h => h) (by rfl) ?_ ?_
  rotate_left
  ·simp only [pS_q]
   rfl
  refine pU (a' := ?_) HT_ 19 52 rfl rfl (by kernel_rfl) (fun _ _ _ h => h) (by rfl) ?_ ?_
  rotate_left
  ·simp only [pS_q]
   rfl
  refine pU (a' := ?_) HT_ 20 53 rfl rfl (by kernel_rfl) (fun _ _ _ h => h) (by rfl) ?_ ?_
  rotate_left
  ·simp only [pS_q]
   rfl
  refine pU (a' := ?_) HT_ 21 54 rfl rfl (by kernel_rfl) (fun _ _ _ h => h) (by rfl) ?_ ?_
  rotate_left
  ·simp only [pS_q]
   rfl
  refine pU (a' := ?_) HT_ 22 55 rfl rfl (by kernel_rfl) (fun _ _ _ h => h) (by rfl) ?_ ?_
  rotate_left
  ·simp only [pS_q]
   rfl
  refine pU (a' := ?_) HT_ 23 56 rfl rfl (by kernel_rfl) (fun _ _ _ h => h) (by rfl) ?_ ?_
  rotate_left
  ·simp only [pS_q]
   rfl
  refine pU (a' := ?_) HT_ 24 57 rfl rfl (by kernel_rfl) (fun _ _ _ h => h) (by rfl) ?_ ?_
  rotate_left
  ·simp only [pS_q]
   rfl
  refine pU (a' := ?_) HT_ 25 58 rfl rfl (by kernel_rfl) (fun _ _ _ h => h) (by rfl) ?_ ?_
  rotate_left
  ·simp only [pS_q]
   rfl
  refine pU (a' := ?_) HT_ 26 59 rfl rfl (by kernel_rfl) (fun _ _ _ h => h) (by rfl) ?_ ?_
  rotate_left
  ·simp only [pS_q]
   rfl
  refine pU (a' := ?_) HT_ 27 60 rfl rfl (by kernel_rfl) (fun _ _ _ h => h) (by rfl) ?_ ?_
  rotate_left
  ·simp only [pS_q]
   rfl
  refine pU (a' := ?_) HT_ 28 61 rfl rfl (by kernel_rfl) (fun _ _ _ h => h) (by rfl) ?_ ?_
  rotate_left
  ·simp only [pS_q]
   rfl
  refine pU (a' := ?_) HT_ 29 62 rfl rfl (by kernel_rfl) (fun _ _ _ h => h) (by rfl) ?_ ?_
  rotate_left
  ·simp only [pS_q]
   rfl
  refine pU (a' := ?_) HT_ 30 63 rfl rfl (by kernel_rfl) (fun _ _ _ h => h) (by rfl) ?_ ?_
  rotate_left
  ·simp only [pS_q]
   rfl
  refine pU (a' := ?_) HT_ 31 64 rfl rfl (by kernel_rfl) (fun _ _ _ h => h) (by rfl) ?_ ?_
  rotate_left
  ·simp only [pS_q]
   rfl
  refine pU (a' := ?_) HT_ 32 65 rfl rfl (by kernel_rfl) (fun _ _ _ h => h) (by rfl) ?_ ?_
  rotate_left
  ·simp only [pS_q]
   rfl
  refine pU (a' := ?_) HT_ 33 66 rfl rfl (by kernel_rfl) (fun _ _ _ h => h) (by rfl) ?_ ?_
  rotate_left
  ·simp only [pS_q]
   rfl
  refine pI (v := ?_) (a' := ?_) HT_ 34 67 rfl rfl (by kernel_rfl) (fun _ _ _ h => h) (by rfl) ?_ ?_ ?_
  rotate_left
  ·intro w'
   go_simp
   with_reducible rfl
  rotate_left
  ·simp only [pS_q]
   rfl
  refine pI (v := ?_) (a' := ?_) HT_ 35 6 rfl rfl (by kernel_rfl) (fun _ _ _ h => h) (by rfl) ?_ ?_ ?_
  rotate_left
  ·intro w'
   go_simp
   with_reducible rfl
  rotate_left
  ·simp only [pS_q]
   rfl
  refine done_ (done_of HT_.out (by kernel_rfl)) ?_
  try go_wp2
  go_ret
  exact ⟨by first | rfl | (simp [eN_q, eS_q] <;> rfl) | (simp [*, eN_q, eS_q] <;> rfl), by repeat (with_reducible first | exact HB.out | apply bA_q | apply pB_q | apply bD_q | refine bS_q ?_ GE566.out)⟩
 rw [if_neg c14] at H
 have c14b0 : decide (t567 < 0) = false := dF_q c14
 clear c14
 by_cases c19 : t568 < 0
 ·rw [if_pos c19] at H
  have c19b0 : decide (t568 < 0) = true := dT_q c19
  clear c19
  obtain rfl := oI_q H
  have p565 : 0 ≤ (a2 : Int) := oD_q (by assumption)
  have q565 : a2 < (l1.length : Int) := oD_q (by assumption)
  obtain ⟨ad565, e565, hx565_0, hx565_1, hx565_2, hx565_3, hx565_4, hx565_5⟩ := at_T27 HR1.out a2 p565 q565
  cases e565
  replace p565 := eq_true p565
  replace q565 := eq_true q565
  go_enter Try.func56, Try.ntmps56
  try go_wp2_with (first | ((with_reducible refine gD_q (N := 7) rfl ?_); refine bE_q ?hg (N := 7) ?hd (cs := #[.int .i64 0, .int .i64 0, .int .i64 0, .int .i64 0, .int .i64 0, .int .i64 0]) (t := 27) ?hr ?_; (case hd => rfl); (case hg => rfl); (case hr => first | (go_simp; done) | (go_simp; rfl)); intro gb566 hg w20 hbox hb; have n0_ := Ae_q (bT_q (bel HB.out) hb); have n1_ := Ae_q (hbox); have n2_ := Ae_q ((by rw [hg]; exact (bZ_q (bel HB.out)) : w.heap.size ≤ gb566)); have n3_ := Ae_q ((by rw [hg]; exact (bZ_q (bel HB.out)) : w.heap.size ≤ gb566)); clear HB; have HB := n0_; have BK566 := n1_; have GW566 := n2_; have GE566 := n3_; clear n0_ n1_ n2_ n3_; clear hb hbox hg; have hcz21_0 : cI w20 gb566 0 0 := cZ BK566 0 rfl; have hcz21_1 : cI w20 gb566 1 0 := cZ BK566 1 rfl; have hcz21_2 : cI w20 gb566 2 0 := cZ BK566 2 rfl; have hcz21_3 : cI w20 gb566 3 0 := cZ BK566 3 rfl; have hcz21_4 : cI w20 gb566 4 0 := cZ BK566 4 rfl; have hcz21_5 : cI w20 gb566 5 0 := cZ BK566 5 rfl; have hfz21_0 := bF_q BK566.out 0; have hfz21_1 := bF_q BK566.out 1; have hfz21_2 := bF_q BK566.out 2; have hfz21_3 := bF_q BK566.out 3; have hfz21_4 := bF_q BK566.out 4; have hfz21_5 := bF_q BK566.out 5) | ((with_reducible refine gC_q (f := 52) rfl ?_); refine gL_q (some 18) rfl rfl Try.func52 (by kernel_rfl) rfl #[.slice (some ad565) l1.length c1, .int .i64 a2, .int .i64 ((rd_T27 l1 a2).f2)] rfl (by (try simp only [lM_q, lC_q, lN_q]); first | done | rfl | (simp only [lD_q, lT_q]; rfl)) ?_; (with_reducible refine (spec_l43Made.calls k _ _ l1 a2 ((rd_T27 l1 a2).f2) t567 _ ?side1 ?side2 A6.out).mono ?_); (case side1 => exact cB_q HR1.out (by repeat (with_reducible first | exact HB.out | apply bA_q | apply pB_q | apply bD_q | refine bS_q ?_ GE566.out))); (case side2 => exact HC1.out); rintro e w' ⟨rfl, ⟨nd, rfl⟩⟩; refine ⟨_, rfl, ?_⟩) | ((with_reducible refine gC_q (f := 71) rfl ?_); refine gL_q (some 32) rfl rfl Try.func71 (by kernel_rfl) rfl #[.slice A0 l0.length c0, .int .i64 ((rd_T27 l1 a2).f3)] rfl (by (try simp only [lM_q, lC_q, lN_q]); first | done | rfl | (simp only [lD_q, lT_q]; rfl)) ?_; (with_reducible refine (spec_l43Guest.calls k _ _ l0 ((rd_T27 l1 a2).f3) t568 _ ?side1 ?side2 A13.out).mono ?_); (case side1 => exact cB_q HR0.out (by repeat (with_reducible first | exact HB.out | apply bA_q | apply pB_q | apply bD_q | refine bS_q ?_ GE566.out))); (case side2 => exact HC0.out); rintro e w' ⟨rfl, ⟨nd, rfl⟩⟩; refine ⟨_, rfl, ?_⟩))
  have n0_ : Aside0 (((((((w20.setCell ⟨gb566, 0, none⟩ (.int .i64 ((rd_T27 l1 a2).f0))).setCell ⟨gb566, 1, none⟩ (.int .i64 ((rd_T27 l1 a2).f1))).setCell ⟨gb566, 2, none⟩ (.int .i64 ((rd_T27 l1 a2).f2))).setCell ⟨gb566, 3, none⟩ (.int .i64 ((rd_T27 l1 a2).f3))).setCell ⟨gb566, 4, none⟩ (.int .i64 ((rd_T27 l1 a2).f4))).setCell ⟨gb566, 5, none⟩ (.int .i64 ((rd_T27 l1 a2).f5))).heap[gb566]? = some (.cells #[.int .i64 ((rd_T27 l1 a2).f0), .int .i64 ((rd_T27 l1 a2).f1), .int .i64 ((rd_T27 l1 a2).f2), .int .i64 ((rd_T27 l1 a2).f3), .int .i64 ((rd_T27 l1 a2).f4), .int .i64 ((rd_T27 l1 a2).f5)] 27 (0, 0))) := ⟨by (with_reducible repeat (first | refine bN_q ?_ _ | refine bW_q ?_ | refine bL_q ?_ _)); refine blk_put (cs := #[.int .i64 ((rd_T27 l1 a2).f0), .int .i64 ((rd_T27 l1 a2).f1), .int .i64 ((rd_T27 l1 a2).f2), .int .i64 ((rd_T27 l1 a2).f3), .int .i64 ((rd_T27 l1 a2).f4), .int .i64 0]) ?_ 5 _ rfl; (with_reducible repeat (first | refine bN_q ?_ _ | refine bW_q ?_ | refine bL_q ?_ _)); refine blk_put (cs := #[.int .i64 ((rd_T27 l1 a2).f0), .int .i64 ((rd_T27 l1 a2).f1), .int .i64 ((rd_T27 l1 a2).f2), .int .i64 ((rd_T27 l1 a2).f3), .int .i64 0, .int .i64 0]) ?_ 4 _ rfl; (with_reducible repeat (first | refine bN_q ?_ _ | refine bW_q ?_ | refine bL_q ?_ _)); refine blk_put (cs := #[.int .i64 ((rd_T27 l1 a2).f0), .int .i64 ((rd_T27 l1 a2).f1), .int .i64 ((rd_T27 l1 a2).f2), .int .i64 0, .int .i64 0, .int .i64 0]) ?_ 3 _ rfl; (with_reducible repeat (first | refine bN_q ?_ _ | refine bW_q ?_ | refine bL_q ?_ _)); refine blk_put (cs := #[.int .i64 ((rd_T27 l1 a2).f0), .int .i64 ((rd_T27 l1 a2).f1), .int .i64 0, .int .i64 0, .int .i64 0, .int .i64 0]) ?_ 2 _ rfl; (with_reducible repeat (first | refine bN_q ?_ _ | refine bW_q ?_ | refine bL_q ?_ _)); refine blk_put (cs := #[.int .i64 ((rd_T27 l1 a2).f0), .int .i64 0, .int .i64 0, .int .i64 0, .int .i64 0, .int .i64 0]) ?_ 1 _ rfl; (with_reducible repeat (first | refine bN_q ?_ _ | refine bW_q ?_ | refine bL_q ?_ _)); refine blk_put (cs := #[.int .i64 0, .int .i64 0, .int .i64 0, .int .i64 0, .int .i64 0, .int .i64 0]) ?_ 0 _ rfl; (with_reducible repeat (first | refine bN_q ?_ _ | refine bW_q ?_ | refine bL_q ?_ _)); exact BK566.out⟩
  have n1_ : Aside0 (Below w.heap.size w ((((((w20.setCell ⟨gb566, 0, none⟩ (.int .i64 ((rd_T27 l1 a2).f0))).setCell ⟨gb566, 1, none⟩ (.int .i64 ((rd_T27 l1 a2).f1))).setCell ⟨gb566, 2, none⟩ (.int .i64 ((rd_T27 l1 a2).f2))).setCell ⟨gb566, 3, none⟩ (.int .i64 ((rd_T27 l1 a2).f3))).setCell ⟨gb566, 4, none⟩ (.int .i64 ((rd_T27 l1 a2).f4))).setCell ⟨gb566, 5, none⟩ (.int .i64 ((rd_T27 l1 a2).f5)))) := ⟨by repeat (with_reducible first | exact HB.out | apply bA_q | apply pB_q | apply bD_q | refine bS_q ?_ GE566.out)⟩
  (try clear BK566)
  (try clear HB)
  generalize ((((((w20.setCell ⟨gb566, 0, none⟩ (.int .i64 ((rd_T27 l1 a2).f0))).setCell ⟨gb566, 1, none⟩ (.int .i64 ((rd_T27 l1 a2).f1))).setCell ⟨gb566, 2, none⟩ (.int .i64 ((rd_T27 l1 a2).f2))).setCell ⟨gb566, 3, none⟩ (.int .i64 ((rd_T27 l1 a2).f3))).setCell ⟨gb566, 4, none⟩ (.int .i64 ((rd_T27 l1 a2).f4))).setCell ⟨gb566, 5, none⟩ (.int .i64 ((rd_T27 l1 a2).f5))) = w22 at n0_ n1_ ⊢
  have BK566 := n0_
  have HB := n1_
  clear n0_ n1_
  (try (rw [drewN_self w22]; generalize hq_ : World.drewN w22 _ = w22; have n0_ : Aside0 (w22.heap[gb566]? = some (.cells #[.int .i64 ((rd_T27 l1 a2).f0), .int .i64 ((rd_T27 l1 a2).f1), .int .i64 ((rd_T27 l1 a2).f2), .int .i64 ((rd_T27 l1 a2).f3), .int .i64 ((rd_T27 l1 a2).f4), .int .i64 ((rd_T27 l1 a2).f5)] 27 (0, 0))) := ⟨by rw [← hq_]; exact (bup BK566.out)⟩; have n1_ : Aside0 (Below w.heap.size w w22) := ⟨by rw [← hq_]; exact (by repeat (with_reducible first | exact HB.out | apply bA_q | apply pB_q | apply bD_q | refine bS_q ?_ GE566.out))⟩; clear BK566 HB hq_; have BK566 := n0_; have HB := n1_; clear n0_ n1_))
  have n0_ := Ae_q (bW_q BK566.out)
  have n1_ := Ae_q (bD_q HB.out)
  clear BK566
  clear HB
  have BK566 := n0_
  have HB := n1_
  clear n0_ n1_
  refine start_ (n := 36) (S := fun w' => True) (ds := []) #[false, false, false, false, false, false, false, false, false, false, false, false, false, false, false, false, false, false, false, false, false, false, false, false, false, false, false, false, false, false, false, false, false, false, false, false] (by kernel_rfl) rfl rfl trivial (fun hHeld => ?_); refine with_tabW spec_l43Wrong.tab9 spec_l43Wrong.bits9 (fun HT_ HW_ => ?_)
  generalize w22.drew = w23 at BK566 HB hHeld ⊢
  refine pI (v := ?_) (a' := ?_) HT_ 0 33 rfl rfl (by kernel_rfl) (fun _ _ _ h => h) (by rfl) ?_ ?_ ?_
  rotate_left
  ·intro w'
   go_simp
   with_reducible rfl
  rotate_left
  ·simp only [pS_q]
   rfl
  refine pI (v := ?_) (a' := ?_) HT_ 1 34 rfl rfl (by kernel_rfl) (fun _ _ _ h => h) (by rfl) ?_ ?_ ?_
  rotate_left
  ·intro w'
   go_simp
   with_reducible rfl
  rotate_left
  ·simp only [pS_q]
   rfl
  refine pI (v := ?_) (a' := ?_) HT_ 2 35 rfl rfl (by kernel_rfl) (fun _ _ _ h => h) (by rfl) ?_ ?_ ?_
  rotate_left
  ·intro w'
   go_simp
   with_reducible rfl
  rotate_left
  ·simp only [pS_q]
   rfl
  refine pI (v := ?_) (a' := ?_) HT_ 3 36 rfl rfl (by kernel_rfl) (fun _ _ _ h => h) (by rfl) ?_ ?_ ?_
  rotate_left
  ·intro w'
   go_simp
   with_reducible rfl
  rotate_left
  ·simp only [pS_q]
   rfl
  refine pI (v := ?_) (a' := ?_) HT_ 4 37 rfl rfl (by kernel_rfl) (fun _ _ _ h => h) (by rfl) ?_ ?_ ?_
  rotate_left
  ·intro w'
   go_simp
   with_reducible rfl
  rotate_left
  ·simp only [pS_q]
   rfl
  refine pI (v := ?_) (a' := ?_) HT_ 5 38 rfl rfl (by kernel_rfl) (fun _ _ _ h => h) (by rfl) ?_ ?_ ?_
  rotate_left
  ·intro w'
   go_simp
   with_reducible rfl
  rotate_left
  ·simp only [pS_q]
   rfl
  refine pI (v := ?_) (a' := ?_) HT_ 6 39 rfl rfl (by kernel_rfl) (fun _ _ _ h => h) (by rfl) ?_ ?_ ?_
  rotate_left
  ·intro w'
   go_simp
   with_reducible rfl
  rotate_left
  ·simp only [pS_q]
   rfl
  refine pU (a' := ?_) HT_ 7 40 rfl rfl (by kernel_rfl) (fun _ _ _ h => h) (by rfl) ?_ ?_
  rotate_left
  ·simp only [pS_q]
   rfl
  refine pU (a' := ?_) HT_ 8 41 rfl rfl (by kernel_rfl) (fun _ _ _ h => h) (by rfl) ?_ ?_
  rotate_left
  ·simp only [pS_q]
   rfl
  refine pU (a' := ?_) HT_ 9 42 rfl rfl (by kernel_rfl) (fun _ _ _ h => h) (by rfl) ?_ ?_
  rotate_left
  ·simp only [pS_q]
   rfl
  refine pU (a' := ?_) HT_ 10 43 rfl rfl (by kernel_rfl) (fun _ _ _ h => h) (by rfl) ?_ ?_
  rotate_left
  ·simp only [pS_q]
   rfl
  refine pU (a' := ?_) HT_ 11 44 rfl rfl (by kernel_rfl) (fun _ _ _ h => h) (by rfl) ?_ ?_
  rotate_left
  ·simp only [pS_q]
   rfl
  refine pU (a' := ?_) HT_ 12 45 rfl rfl (by kernel_rfl) (fun _ _ _ h => h) (by rfl) ?_ ?_
  rotate_left
  ·simp only [pS_q]
   rfl
  refine pU (a' := ?_) HT_ 13 46 rfl rfl (by kernel_rfl) (fun _ _ _ h => h) (by rfl) ?_ ?_
  rotate_left
  ·simp only [pS_q]
   rfl
  refine pU (a' := ?_) HT_ 14 47 rfl rfl (by kernel_rfl) (fun _ _ _ h => h) (by rfl) ?_ ?_
  rotate_left
  ·simp only [pS_q]
   rfl
  refine pU (a' := ?_) HT_ 15 48 rfl rfl (by kernel_rfl) (fun _ _ _ h => h) (by rfl) ?_ ?_
  rotate_left
  ·simp only [pS_q]
   rfl
  refine pI (v := ?_) (a' := ?_) HT_ 16 49 rfl rfl (by kernel_rfl) (fun _ _ _ h => h) (by rfl) ?_ ?_ ?_
  rotate_left
  ·intro w'
   go_simp
   with_reducible rfl
  rotate_left
  ·simp only [pS_q]
   rfl
  refine pI (v := ?_) (a' := ?_) HT_ 17 50 rfl rfl (by kernel_rfl) (fun _ _ _ h => h) (by rfl) ?_ ?_ ?_
  rotate_left
  ·intro w'
   go_simp
   with_reducible rfl
  rotate_left
  ·simp only [pS_q]
   rfl
  refine pU (a' := ?_) HT_ 18 51 rfl rfl (by kernel_rfl) (fun _ _ _ h => h) (by rfl) ?_ ?_
  rotate_left
  ·simp only [pS_q]
   rfl
  refine pU (a' := ?_) HT_ 19 52 rfl rfl (by kernel_rfl) (fun _ _ _ h => h) (by rfl) ?_ ?_
  rotate_left
  ·simp only [pS_q]
   rfl
  refine pU (a' := ?_) HT_ 20 53 rfl rfl (by kernel_rfl) (fun _ _ _ h => h) (by rfl) ?_ ?_
  rotate_left
  ·simp only [pS_q]
   rfl
  refine pU (a' := ?_) HT_ 21 54 rfl rfl (by kernel_rfl) (fun _ _ _ h => h) (by rfl) ?_ ?_
  rotate_left
  ·simp only [pS_q]
   rfl
  refine pU (a' := ?_) HT_ 22 55 rfl rfl (by kernel_rfl) (fun _ _ _ h => h) (by rfl) ?_ ?_
  rotate_left
  ·simp only [pS_q]
   rfl
  refine pU (a' := ?_) HT_ 23 56 rfl rfl (by kernel_rfl) (fun _ _ _ h => h) (by rfl) ?_ ?_
  rotate_left
  ·simp only [pS_q]
   rfl
  refine pU (a' := ?_) HT_ 24 57 rfl rfl (by kernel_rfl) (fun _ _ _ h => h) (by rfl) ?_ ?_
  rotate_left
  ·simp only [pS_q]
   rfl
  refine pU (a' := ?_) HT_ 25 58 rfl rfl (by kernel_rfl) (fun _ _ _ h => h) (by rfl) ?_ ?_
  rotate_left
  ·simp only [pS_q]
   rfl
  refine pU (a' := ?_) HT_ 26 59 rfl rfl (by kernel_rfl) (fun _ _ _ h => h) (by rfl) ?_ ?_
  rotate_left
  ·simp only [pS_q]
   rfl
  refine pU (a' := ?_) HT_ 27 60 rfl rfl (by kernel_rfl) (fun _ _ _ h => h) (by rfl) ?_ ?_
  rotate_left
  ·simp only [pS_q]
   rfl
  refine pU (a' := ?_) HT_ 28 61 rfl rfl (by kernel_rfl) (fun _ _ _ h => h) (by rfl) ?_ ?_
  rotate_left
  ·simp only [pS_q]
   rfl
  refine pU (a' := ?_) HT_ 29 62 rfl rfl (by kernel_rfl) (fun _ _ _ h => h) (by rfl) ?_ ?_
  rotate_left
  ·simp only [pS_q]
   rfl
  refine pU (a' := ?_) HT_ 30 63 rfl rfl (by kernel_rfl) (fun _ _ _ h => h) (by rfl) ?_ ?_
  rotate_left
  ·simp only [pS_q]
   rfl
  refine pU (a' := ?_) HT_ 31 64 rfl rfl (by kernel_rfl) (fun _ _ _ h => h) (by rfl) ?_ ?_
  rotate_left
  ·simp only [pS_q]
   rfl
  refine pU (a' := ?_) HT_ 32 65 rfl rfl (by kernel_rfl) (fun _ _ _ h => h) (by rfl) ?_ ?_
  rotate_left
  ·simp only [pS_q]
   rfl
  refine pU (a' := ?_) HT_ 33 66 rfl rfl (by kernel_rfl) (fun _ _ _ h => h) (by rfl) ?_ ?_
  rotate_left
  ·simp only [pS_q]
   rfl
  refine pI (v := ?_) (a' := ?_) HT_ 34 67 rfl rfl (by kernel_rfl) (fun _ _ _ h => h) (by rfl) ?_ ?_ ?_
  rotate_left
  ·intro w'
   go_simp
   with_reducible rfl
  rotate_left
  ·simp only [pS_q]
   rfl
  refine pI (v := ?_) (a' := ?_) HT_ 35 6 rfl rfl (by kernel_rfl) (fun _ _ _ h => h) (by rfl) ?_ ?_ ?_
  rotate_left
  ·intro w'
   go_simp
   with_reducible rfl
  rotate_left
  ·simp only [pS_q]
   rfl
  refine done_ (done_of HT_.out (by kernel_rfl)) ?_
  try go_wp2
  go_ret
  exact ⟨by first | rfl | (simp [eN_q, eS_q] <;> rfl) | (simp [*, eN_q, eS_q] <;> rfl), by repeat (with_reducible first | exact HB.out | apply bA_q | apply pB_q | apply bD_q | refine bS_q ?_ GE566.out)⟩
 rw [if_neg c19] at H
 have c19b0 : decide (t568 < 0) = false := dF_q c19
 clear c19
 by_cases c24 : 0 ≤ t567
 rotate_left
 ·rw [if_neg c24] at H
  exact absurd H (by simp)
 rw [if_pos c24] at H
 have c24b0 : decide (0 ≤ t567) = true := dT_q c24
 clear c24
 by_cases c25 : t567 < (l1.length : Int)
 rotate_left
 ·rw [if_neg c25] at H
  exact absurd H (by simp)
 rw [if_pos c25] at H
 have c25b0 : decide (t567 < (l1.length : Int)) = true := dT_q c25
 clear c25
 by_cases c26 : ((rd_T27 l1 a2).f1) > (wrap64 (((rd_T27 l1 t567).f1) + 120))
 ·rw [if_pos c26] at H
  have c26b0 : decide ((wrap64 (((rd_T27 l1 t567).f1) + 120)) < ((rd_T27 l1 a2).f1)) = true := dT_q c26
  clear c26
  obtain rfl := oI_q H
  have p565 : 0 ≤ (a2 : Int) := oD_q (by assumption)
  have q565 : a2 < (l1.length : Int) := oD_q (by assumption)
  obtain ⟨ad565, e565, hx565_0, hx565_1, hx565_2, hx565_3, hx565_4, hx565_5⟩ := at_T27 HR1.out a2 p565 q565
  cases e565
  replace p565 := eq_true p565
  replace q565 := eq_true q565
  go_enter Try.func56, Try.ntmps56
  try go_wp2_with (first | ((with_reducible refine gD_q (N := 7) rfl ?_); refine bE_q ?hg (N := 7) ?hd (cs := #[.int .i64 0, .int .i64 0, .int .i64 0, .int .i64 0, .int .i64 0, .int .i64 0]) (t := 27) ?hr ?_; (case hd => rfl); (case hg => rfl); (case hr => first | (go_simp; done) | (go_simp; rfl)); intro gb566 hg w27 hbox hb; have n0_ := Ae_q (bT_q (bel HB.out) hb); have n1_ := Ae_q (hbox); have n2_ := Ae_q ((by rw [hg]; exact (bZ_q (bel HB.out)) : w.heap.size ≤ gb566)); have n3_ := Ae_q ((by rw [hg]; exact (bZ_q (bel HB.out)) : w.heap.size ≤ gb566)); clear HB; have HB := n0_; have BK566 := n1_; have GW566 := n2_; have GE566 := n3_; clear n0_ n1_ n2_ n3_; clear hb hbox hg; have hcz28_0 : cI w27 gb566 0 0 := cZ BK566 0 rfl; have hcz28_1 : cI w27 gb566 1 0 := cZ BK566 1 rfl; have hcz28_2 : cI w27 gb566 2 0 := cZ BK566 2 rfl; have hcz28_3 : cI w27 gb566 3 0 := cZ BK566 3 rfl; have hcz28_4 : cI w27 gb566 4 0 := cZ BK566 4 rfl; have hcz28_5 : cI w27 gb566 5 0 := cZ BK566 5 rfl; have hfz28_0 := bF_q BK566.out 0; have hfz28_1 := bF_q BK566.out 1; have hfz28_2 := bF_q BK566.out 2; have hfz28_3 := bF_q BK566.out 3; have hfz28_4 := bF_q BK566.out 4; have hfz28_5 := bF_q BK566.out 5) | ((with_reducible refine gC_q (f := 52) rfl ?_); refine gL_q (some 18) rfl rfl Try.func52 (by kernel_rfl) rfl #[.slice (some ad565) l1.length c1, .int .i64 a2, .int .i64 ((rd_T27 l1 a2).f2)] rfl (by (try simp only [lM_q, lC_q, lN_q]); first | done | rfl | (simp only [lD_q, lT_q]; rfl)) ?_; (with_reducible refine (spec_l43Made.calls k _ _ l1 a2 ((rd_T27 l1 a2).f2) t567 _ ?side1 ?side2 A6.out).mono ?_); (case side1 => exact cB_q HR1.out (by repeat (with_reducible first | exact HB.out | apply bA_q | apply pB_q | apply bD_q | refine bS_q ?_ GE566.out))); (case side2 => exact HC1.out); rintro e w' ⟨rfl, ⟨nd, rfl⟩⟩; refine ⟨_, rfl, ?_⟩) | ((with_reducible refine gC_q (f := 71) rfl ?_); refine gL_q (some 32) rfl rfl Try.func71 (by kernel_rfl) rfl #[.slice A0 l0.length c0, .int .i64 ((rd_T27 l1 a2).f3)] rfl (by (try simp only [lM_q, lC_q, lN_q]); first | done | rfl | (simp only [lD_q, lT_q]; rfl)) ?_; (with_reducible refine (spec_l43Guest.calls k _ _ l0 ((rd_T27 l1 a2).f3) t568 _ ?side1 ?side2 A13.out).mono ?_); (case side1 => exact cB_q HR0.out (by repeat (with_reducible first | exact HB.out | apply bA_q | apply pB_q | apply bD_q | refine bS_q ?_ GE566.out))); (case side2 => exact HC0.out); rintro e w' ⟨rfl, ⟨nd, rfl⟩⟩; refine ⟨_, rfl, ?_⟩))
  have n0_ : Aside0 (((((((w27.setCell ⟨gb566, 0, none⟩ (.int .i64 ((rd_T27 l1 a2).f0))).setCell ⟨gb566, 1, none⟩ (.int .i64 ((rd_T27 l1 a2).f1))).setCell ⟨gb566, 2, none⟩ (.int .i64 ((rd_T27 l1 a2).f2))).setCell ⟨gb566, 3, none⟩ (.int .i64 ((rd_T27 l1 a2).f3))).setCell ⟨gb566, 4, none⟩ (.int .i64 ((rd_T27 l1 a2).f4))).setCell ⟨gb566, 5, none⟩ (.int .i64 ((rd_T27 l1 a2).f5))).heap[gb566]? = some (.cells #[.int .i64 ((rd_T27 l1 a2).f0), .int .i64 ((rd_T27 l1 a2).f1), .int .i64 ((rd_T27 l1 a2).f2), .int .i64 ((rd_T27 l1 a2).f3), .int .i64 ((rd_T27 l1 a2).f4), .int .i64 ((rd_T27 l1 a2).f5)] 27 (0, 0))) := ⟨by (with_reducible repeat (first | refine bN_q ?_ _ | refine bW_q ?_ | refine bL_q ?_ _)); refine blk_put (cs := #[.int .i64 ((rd_T27 l1 a2).f0), .int .i64 ((rd_T27 l1 a2).f1), .int .i64 ((rd_T27 l1 a2).f2), .int .i64 ((rd_T27 l1 a2).f3), .int .i64 ((rd_T27 l1 a2).f4), .int .i64 0]) ?_ 5 _ rfl; (with_reducible repeat (first | refine bN_q ?_ _ | refine bW_q ?_ | refine bL_q ?_ _)); refine blk_put (cs := #[.int .i64 ((rd_T27 l1 a2).f0), .int .i64 ((rd_T27 l1 a2).f1), .int .i64 ((rd_T27 l1 a2).f2), .int .i64 ((rd_T27 l1 a2).f3), .int .i64 0, .int .i64 0]) ?_ 4 _ rfl; (with_reducible repeat (first | refine bN_q ?_ _ | refine bW_q ?_ | refine bL_q ?_ _)); refine blk_put (cs := #[.int .i64 ((rd_T27 l1 a2).f0), .int .i64 ((rd_T27 l1 a2).f1), .int .i64 ((rd_T27 l1 a2).f2), .int .i64 0, .int .i64 0, .int .i64 0]) ?_ 3 _ rfl; (with_reducible repeat (first | refine bN_q ?_ _ | refine bW_q ?_ | refine bL_q ?_ _)); refine blk_put (cs := #[.int .i64 ((rd_T27 l1 a2).f0), .int .i64 ((rd_T27 l1 a2).f1), .int .i64 0, .int .i64 0, .int .i64 0, .int .i64 0]) ?_ 2 _ rfl; (with_reducible repeat (first | refine bN_q ?_ _ | refine bW_q ?_ | refine bL_q ?_ _)); refine blk_put (cs := #[.int .i64 ((rd_T27 l1 a2).f0), .int .i64 0, .int .i64 0, .int .i64 0, .int .i64 0, .int .i64 0]) ?_ 1 _ rfl; (with_reducible repeat (first | refine bN_q ?_ _ | refine bW_q ?_ | refine bL_q ?_ _)); refine blk_put (cs := #[.int .i64 0, .int .i64 0, .int .i64 0, .int .i64 0, .int .i64 0, .int .i64 0]) ?_ 0 _ rfl; (with_reducible repeat (first | refine bN_q ?_ _ | refine bW_q ?_ | refine bL_q ?_ _)); exact BK566.out⟩
  have n1_ : Aside0 (Below w.heap.size w ((((((w27.setCell ⟨gb566, 0, none⟩ (.int .i64 ((rd_T27 l1 a2).f0))).setCell ⟨gb566, 1, none⟩ (.int .i64 ((rd_T27 l1 a2).f1))).setCell ⟨gb566, 2, none⟩ (.int .i64 ((rd_T27 l1 a2).f2))).setCell ⟨gb566, 3, none⟩ (.int .i64 ((rd_T27 l1 a2).f3))).setCell ⟨gb566, 4, none⟩ (.int .i64 ((rd_T27 l1 a2).f4))).setCell ⟨gb566, 5, none⟩ (.int .i64 ((rd_T27 l1 a2).f5)))) := ⟨by repeat (with_reducible first | exact HB.out | apply bA_q | apply pB_q | apply bD_q | refine bS_q ?_ GE566.out)⟩
  (try clear BK566)
  (try clear HB)
  generalize ((((((w27.setCell ⟨gb566, 0, none⟩ (.int .i64 ((rd_T27 l1 a2).f0))).setCell ⟨gb566, 1, none⟩ (.int .i64 ((rd_T27 l1 a2).f1))).setCell ⟨gb566, 2, none⟩ (.int .i64 ((rd_T27 l1 a2).f2))).setCell ⟨gb566, 3, none⟩ (.int .i64 ((rd_T27 l1 a2).f3))).setCell ⟨gb566, 4, none⟩ (.int .i64 ((rd_T27 l1 a2).f4))).setCell ⟨gb566, 5, none⟩ (.int .i64 ((rd_T27 l1 a2).f5))) = w29 at n0_ n1_ ⊢
  have BK566 := n0_
  have HB := n1_
  clear n0_ n1_
  (try (rw [drewN_self w29]; generalize hq_ : World.drewN w29 _ = w29; have n0_ : Aside0 (w29.heap[gb566]? = some (.cells #[.int .i64 ((rd_T27 l1 a2).f0), .int .i64 ((rd_T27 l1 a2).f1), .int .i64 ((rd_T27 l1 a2).f2), .int .i64 ((rd_T27 l1 a2).f3), .int .i64 ((rd_T27 l1 a2).f4), .int .i64 ((rd_T27 l1 a2).f5)] 27 (0, 0))) := ⟨by rw [← hq_]; exact (bup BK566.out)⟩; have n1_ : Aside0 (Below w.heap.size w w29) := ⟨by rw [← hq_]; exact (by repeat (with_reducible first | exact HB.out | apply bA_q | apply pB_q | apply bD_q | refine bS_q ?_ GE566.out))⟩; clear BK566 HB hq_; have BK566 := n0_; have HB := n1_; clear n0_ n1_))
  have n0_ := Ae_q (bW_q BK566.out)
  have n1_ := Ae_q (bD_q HB.out)
  clear BK566
  clear HB
  have BK566 := n0_
  have HB := n1_
  clear n0_ n1_
  have p569 : 0 ≤ (t567 : Int) := oD_q (by assumption)
  have q569 : t567 < (l1.length : Int) := oD_q (by assumption)
  obtain ⟨ad569, e569, hx569_0, hx569_1, hx569_2, hx569_3, hx569_4, hx569_5⟩ := at_T27 HR1.out t567 p569 q569
  have hw569_5 := hx569_5
  have hw569_4 := hx569_4
  have hw569_3 := hx569_3
  have hw569_2 := hx569_2
  have hw569_1 := hx569_1
  have hw569_0 := hx569_0
  obtain rfl : ad565 = ad569 := (by injection e569)
  replace hx569_0 := cel HB.out hx569_0
  replace hx569_1 := cel HB.out hx569_1
  replace hx569_2 := cel HB.out hx569_2
  replace hx569_3 := cel HB.out hx569_3
  replace hx569_4 := cel HB.out hx569_4
  replace hx569_5 := cel HB.out hx569_5
  replace p569 := eq_true p569
  replace q569 := eq_true q569
  refine start_ (n := 36) (S := fun w' => w'.cell? ⟨gb566, 0, none⟩ = some (.int .i64 ((rd_T27 l1 a2).f0)) ∧ w'.cell? ⟨gb566, 1, none⟩ = some (.int .i64 ((rd_T27 l1 a2).f1)) ∧ w'.cell? ⟨gb566, 2, none⟩ = some (.int .i64 ((rd_T27 l1 a2).f2)) ∧ w'.cell? ⟨gb566, 3, none⟩ = some (.int .i64 ((rd_T27 l1 a2).f3)) ∧ w'.cell? ⟨gb566, 4, none⟩ = some (.int .i64 ((rd_T27 l1 a2).f4)) ∧ w'.cell? ⟨gb566, 5, none⟩ = some (.int .i64 ((rd_T27 l1 a2).f5)) ∧ w'.cell? (ad565.add ((t567).toNat * 6)) = some (.int .i64 ((rd_T27 l1 t567).f0)) ∧ w'.cell? ⟨(ad565.add ((t567).toNat * 6)).block, (ad565.add ((t567).toNat * 6)).off + 1, none⟩ = some (.int .i64 ((rd_T27 l1 t567).f1)) ∧ w'.cell? ⟨(ad565.add ((t567).toNat * 6)).block, (ad565.add ((t567).toNat * 6)).off + 2, none⟩ = some (.int .i64 ((rd_T27 l1 t567).f2)) ∧ w'.cell? ⟨(ad565.add ((t567).toNat * 6)).block, (ad565.add ((t567).toNat * 6)).off + 3, none⟩ = some (.int .i64 ((rd_T27 l1 t567).f3)) ∧ w'.cell? ⟨(ad565.add ((t567).toNat * 6)).block, (ad565.add ((t567).toNat * 6)).off + 4, none⟩ = some (.int .i64 ((rd_T27 l1 t567).f4)) ∧ w'.cell? ⟨(ad565.add ((t567).toNat * 6)).block, (ad565.add ((t567).toNat * 6)).off + 5, none⟩ = some (.int .i64 ((rd_T27 l1 t567).f5))) (ds := []) #[false, false, false, false, false, false, false, false, false, false, false, false, false, false, false, false, false, false, false, false, false, false, false, false, false, false, false, false, false, false, false, false, false, false, false, false] (by kernel_rfl) rfl rfl ⟨(bC_q BK566.out 0).trans rfl, (bC_q BK566.out 1).trans rfl, (bC_q BK566.out 2).trans rfl, (bC_q BK566.out 3).trans rfl, (bC_q BK566.out 4).trans rfl, (bC_q BK566.out 5).trans rfl, (cel HB.out hw569_0), (cel HB.out hw569_1), (cel HB.out hw569_2), (cel HB.out hw569_3), (cel HB.out hw569_4), (cel HB.out hw569_5)⟩ (fun hHeld => ?_); refine with_tabW spec_l43Wrong.tab9 spec_l43Wrong.bits9 (fun HT_ HW_ => ?_)
  generalize w29.drew = w30 at BK566 HB hx569_0 hx569_1 hx569_2 hx569_3 hx569_4 hx569_5 hHeld ⊢
  refine pI (v := ?_) (a' := ?_) HT_ 0 33 rfl rfl (by kernel_rfl) (fun _ _ _ h => h) (by rfl) ?_ ?_ ?_
  rotate_left
  ·intro w'
   go_simp
   with_reducible rfl
  rotate_left
  ·simp only [pS_q]
   rfl
  refine pI (v := ?_) (a' := ?_) HT_ 1 34 rfl rfl (by kernel_rfl) (fun _ _ _ h => h) (by rfl) ?_ ?_ ?_
  rotate_left
  ·intro w'
   go_simp
   with_reducible rfl
  rotate_left
  ·simp only [pS_q]
   rfl
  refine pI (v := ?_) (a' := ?_) HT_ 2 35 rfl rfl (by kernel_rfl) (fun _ _ _ h => h) (by rfl) ?_ ?_ ?_
  rotate_left
  ·intro w'
   go_simp
   with_reducible rfl
  rotate_left
  ·simp only [pS_q]
   rfl
  refine pI (v := ?_) (a' := ?_) HT_ 3 36 rfl rfl (by kernel_rfl) (fun _ _ _ h => h) (by rfl) ?_ ?_ ?_
  rotate_left
  ·intro w'
   go_simp
   with_reducible rfl
  rotate_left
  ·simp only [pS_q]
   rfl
  refine pI (v := ?_) (a' := ?_) HT_ 4 37 rfl rfl (by kernel_rfl) (fun _ _ _ h => h) (by rfl) ?_ ?_ ?_
  rotate_left
  ·intro w'
   go_simp
   with_reducible rfl
  rotate_left
  ·simp only [pS_q]
   rfl
  refine pI (v := ?_) (a' := ?_) HT_ 5 38 rfl rfl (by kernel_rfl) (fun _ _ _ h => h) (by rfl) ?_ ?_ ?_
  rotate_left
  ·intro w'
   go_simp
   with_reducible rfl
  rotate_left
  ·simp only [pS_q]
   rfl
  refine pI (v := ?_) (a' := ?_) HT_ 6 39 rfl rfl (by kernel_rfl) (fun _ _ _ h => h) (by rfl) ?_ ?_ ?_
  rotate_left
  ·intro w'
   go_simp
   with_reducible rfl
  rotate_left
  ·simp only [pS_q]
   rfl
  refine pI (v := ?_) (a' := ?_) HT_ 7 40 rfl rfl (by kernel_rfl) (fun _ _ _ h => h) (by rfl) ?_ ?_ ?_
  rotate_left
  ·intro w'
   go_simp
   with_reducible rfl
  rotate_left
  ·simp only [pS_q]
   rfl
  refine pI (v := ?_) (a' := ?_) HT_ 9 42 rfl rfl (by kernel_rfl) (fun _ _ _ h => h) (by rfl) ?_ ?_ ?_
  rotate_left
  ·intro w'
   go_simp
   with_reducible rfl
  rotate_left
  ·simp only [pS_q]
   rfl
  refine pI (v := ?_) (a' := ?_) HT_ 10 43 rfl rfl (by kernel_rfl) (fun _ _ _ h => h) (by rfl) ?_ ?_ ?_
  rotate_left
  ·intro w'
   go_simp
   with_reducible rfl
  rotate_left
  ·simp only [pS_q]
   rfl
  refine pI (v := ?_) (a' := ?_) HT_ 11 44 rfl rfl (by kernel_rfl) (fun _ _ _ h => h) (by rfl) ?_ ?_ ?_
  rotate_left
  ·intro w'
   go_simp
   with_reducible rfl
  rotate_left
  ·simp only [pS_q]
   rfl
  refine pI (v := ?_) (a' := ?_) HT_ 12 45 rfl rfl (by kernel_rfl) (fun _ _ _ h => h) (by rfl) ?_ ?_ ?_
  rotate_left
  ·intro w'
   go_simp
   with_reducible rfl
  rotate_left
  ·simp only [pS_q]
   rfl
  refine take_ (i := 8) (N := some 41) (v := ?_) (a' := ?_) #[true, true, true, true, true, true, true, true, true, true, true, true, true, false, false, false, false, false, false, false, false, false, false, false, false, false, false, false, false, false, false, false, false, false, false, false] rfl rfl (take_ofW HT_.out HW_.out (by kernel_rfl)) (fun _ _ _ h => h) (Or.inl ⟨by rfl, ?_⟩) hHeld ?_ ?_
  rotate_left
  ·rintro w' ⟨s0, s1, s2, s3, s4, s5, s6, s7, s8, s9, s10, s11⟩
   go_simp
   with_reducible rfl
  rotate_left
  ·simp only [pS_q]
   rfl
  refine take_ (i := 13) (N := some 46) (v := ?_) (a' := ?_) #[true, true, true, true, true, true, true, true, true, true, true, true, true, true, false, false, false, false, false, false, false, false, false, false, false, false, false, false, false, false, false, false, false, false, false, false] rfl rfl (take_ofW HT_.out HW_.out (by kernel_rfl)) (fun _ _ _ h => h) (Or.inl ⟨by rfl, ?_⟩) hHeld ?_ ?_
  rotate_left
  ·rintro w' ⟨s0, s1, s2, s3, s4, s5, s6, s7, s8, s9, s10, s11⟩
   go_simp
   with_reducible rfl
  rotate_left
  ·simp only [pS_q]
   rfl
  refine pI (v := ?_) (a' := ?_) HT_ 14 47 rfl rfl (by kernel_rfl) (fun _ _ _ h => h) (by rfl) ?_ ?_ ?_
  rotate_left
  ·intro w'
   go_simp
   with_reducible rfl
  rotate_left
  ·simp only [pS_q]
   rfl
  refine pI (v := ?_) (a' := ?_) HT_ 15 48 rfl rfl (by kernel_rfl) (fun _ _ _ h => h) (by rfl) ?_ ?_ ?_
  rotate_left
  ·intro w'
   go_simp
   with_reducible rfl
  rotate_left
  ·simp only [pS_q]
   rfl
  refine pI (v := ?_) (a' := ?_) HT_ 16 49 rfl rfl (by kernel_rfl) (fun _ _ _ h => h) (by rfl) ?_ ?_ ?_
  rotate_left
  ·intro w'
   go_simp
   with_reducible rfl
  rotate_left
  ·simp only [pS_q]
   rfl
  refine pI (v := ?_) (a' := ?_) HT_ 17 50 rfl rfl (by kernel_rfl) (fun _ _ _ h => h) (by rfl) ?_ ?_ ?_
  rotate_left
  ·intro w'
   go_simp
   with_reducible rfl
  rotate_left
  ·simp only [pS_q]
   rfl
  refine pU (a' := ?_) HT_ 18 51 rfl rfl (by kernel_rfl) (fun _ _ _ h => h) (by rfl) ?_ ?_
  rotate_left
  ·simp only [pS_q]
   rfl
  refine pU (a' := ?_) HT_ 19 52 rfl rfl (by kernel_rfl) (fun _ _ _ h => h) (by rfl) ?_ ?_
  rotate_left
  ·simp only [pS_q]
   rfl
  refine pU (a' := ?_) HT_ 20 53 rfl rfl (by kernel_rfl) (fun _ _ _ h => h) (by rfl) ?_ ?_
  rotate_left
  ·simp only [pS_q]
   rfl
  refine pU (a' := ?_) HT_ 21 54 rfl rfl (by kernel_rfl) (fun _ _ _ h => h) (by rfl) ?_ ?_
  rotate_left
  ·simp only [pS_q]
   rfl
  refine pU (a' := ?_) HT_ 22 55 rfl rfl (by kernel_rfl) (fun _ _ _ h => h) (by rfl) ?_ ?_
  rotate_left
  ·simp only [pS_q]
   rfl
  refine pU (a' := ?_) HT_ 23 56 rfl rfl (by kernel_rfl) (fun _ _ _ h => h) (by rfl) ?_ ?_
  rotate_left
  ·simp only [pS_q]
   rfl
  refine pU (a' := ?_) HT_ 24 57 rfl rfl (by kernel_rfl) (fun _ _ _ h => h) (by rfl) ?_ ?_
  rotate_left
  ·simp only [pS_q]
   rfl
  refine pU (a' := ?_) HT_ 25 58 rfl rfl (by kernel_rfl) (fun _ _ _ h => h) (by rfl) ?_ ?_
  rotate_left
  ·simp only [pS_q]
   rfl
  refine pU (a' := ?_) HT_ 26 59 rfl rfl (by kernel_rfl) (fun _ _ _ h => h) (by rfl) ?_ ?_
  rotate_left
  ·simp only [pS_q]
   rfl
  refine pU (a' := ?_) HT_ 27 60 rfl rfl (by kernel_rfl) (fun _ _ _ h => h) (by rfl) ?_ ?_
  rotate_left
  ·simp only [pS_q]
   rfl
  refine pU (a' := ?_) HT_ 28 61 rfl rfl (by kernel_rfl) (fun _ _ _ h => h) (by rfl) ?_ ?_
  rotate_left
  ·simp only [pS_q]
   rfl
  refine pU (a' := ?_) HT_ 29 62 rfl rfl (by kernel_rfl) (fun _ _ _ h => h) (by rfl) ?_ ?_
  rotate_left
  ·simp only [pS_q]
   rfl
  refine pU (a' := ?_) HT_ 30 63 rfl rfl (by kernel_rfl) (fun _ _ _ h => h) (by rfl) ?_ ?_
  rotate_left
  ·simp only [pS_q]
   rfl
  refine pU (a' := ?_) HT_ 31 64 rfl rfl (by kernel_rfl) (fun _ _ _ h => h) (by rfl) ?_ ?_
  rotate_left
  ·simp only [pS_q]
   rfl
  refine pU (a' := ?_) HT_ 32 65 rfl rfl (by kernel_rfl) (fun _ _ _ h => h) (by rfl) ?_ ?_
  rotate_left
  ·simp only [pS_q]
   rfl
  refine pU (a' := ?_) HT_ 33 66 rfl rfl (by kernel_rfl) (fun _ _ _ h => h) (by rfl) ?_ ?_
  rotate_left
  ·simp only [pS_q]
   rfl
  refine pI (v := ?_) (a' := ?_) HT_ 34 67 rfl rfl (by kernel_rfl) (fun _ _ _ h => h) (by rfl) ?_ ?_ ?_
  rotate_left
  ·intro w'
   go_simp
   with_reducible rfl
  rotate_left
  ·simp only [pS_q]
   rfl
  refine pI (v := ?_) (a' := ?_) HT_ 35 6 rfl rfl (by kernel_rfl) (fun _ _ _ h => h) (by rfl) ?_ ?_ ?_
  rotate_left
  ·intro w'
   go_simp
   with_reducible rfl
  rotate_left
  ·simp only [pS_q]
   rfl
  refine done_ (done_of HT_.out (by kernel_rfl)) ?_
  try go_wp2
  go_ret
  exact ⟨by first | rfl | (simp [eN_q, eS_q] <;> rfl) | (simp [*, eN_q, eS_q] <;> rfl), by repeat (with_reducible first | exact HB.out | apply bA_q | apply pB_q | apply bD_q | refine bS_q ?_ GE566.out)⟩
 rw [if_neg c26] at H
 have c26b0 : decide ((wrap64 (((rd_T27 l1 t567).f1) + 120)) < ((rd_T27 l1 a2).f1)) = false := dF_q c26
 clear c26
 by_cases c31 : 0 ≤ t568
 rotate_left
 ·rw [if_neg c31] at H
  exact absurd H (by simp)
 rw [if_pos c31] at H
 have c31b0 : decide (0 ≤ t568) = true := dT_q c31
 clear c31
 by_cases c32 : t568 < (l0.length : Int)
 rotate_left
 ·rw [if_neg c32] at H
  exact absurd H (by simp)
 rw [if_pos c32] at H
 have c32b0 : decide (t568 < (l0.length : Int)) = true := dT_q c32
 clear c32
 replace H := oB_q.mp H
 obtain ⟨t573, A330, H⟩ := H
 replace H : (some (!t573)) = some r := H
 have A33 := Ae_q A330
 clear A330
 obtain rfl := oI_q H
 have p565 : 0 ≤ (a2 : Int) := oD_q (by assumption)
 have q565 : a2 < (l1.length : Int) := oD_q (by assumption)
 obtain ⟨ad565, e565, hx565_0, hx565_1, hx565_2, hx565_3, hx565_4, hx565_5⟩ := at_T27 HR1.out a2 p565 q565
 cases e565
 replace p565 := eq_true p565
 replace q565 := eq_true q565
 go_enter Try.func56, Try.ntmps56
 try go_wp2_with (first | ((with_reducible refine gD_q (N := 7) rfl ?_); refine bE_q ?hg (N := 7) ?hd (cs := #[.int .i64 0, .int .i64 0, .int .i64 0, .int .i64 0, .int .i64 0, .int .i64 0]) (t := 27) ?hr ?_; (case hd => rfl); (case hg => rfl); (case hr => first | (go_simp; done) | (go_simp; rfl)); intro gb566 hg w34 hbox hb; have n0_ := Ae_q (bT_q (bel HB.out) hb); have n1_ := Ae_q (hbox); have n2_ := Ae_q ((by rw [hg]; exact (bZ_q (bel HB.out)) : w.heap.size ≤ gb566)); have n3_ := Ae_q ((by rw [hg]; exact (bZ_q (bel HB.out)) : w.heap.size ≤ gb566)); clear HB; have HB := n0_; have BK566 := n1_; have GW566 := n2_; have GE566 := n3_; clear n0_ n1_ n2_ n3_; clear hb hbox hg; have hcz35_0 : cI w34 gb566 0 0 := cZ BK566 0 rfl; have hcz35_1 : cI w34 gb566 1 0 := cZ BK566 1 rfl; have hcz35_2 : cI w34 gb566 2 0 := cZ BK566 2 rfl; have hcz35_3 : cI w34 gb566 3 0 := cZ BK566 3 rfl; have hcz35_4 : cI w34 gb566 4 0 := cZ BK566 4 rfl; have hcz35_5 : cI w34 gb566 5 0 := cZ BK566 5 rfl; have hfz35_0 := bF_q BK566.out 0; have hfz35_1 := bF_q BK566.out 1; have hfz35_2 := bF_q BK566.out 2; have hfz35_3 := bF_q BK566.out 3; have hfz35_4 := bF_q BK566.out 4; have hfz35_5 := bF_q BK566.out 5) | ((with_reducible refine gC_q (f := 52) rfl ?_); refine gL_q (some 18) rfl rfl Try.func52 (by kernel_rfl) rfl #[.slice (some ad565) l1.length c1, .int .i64 a2, .int .i64 ((rd_T27 l1 a2).f2)] rfl (by (try simp only [lM_q, lC_q, lN_q]); first | done | rfl | (simp only [lD_q, lT_q]; rfl)) ?_; (with_reducible refine (spec_l43Made.calls k _ _ l1 a2 ((rd_T27 l1 a2).f2) t567 _ ?side1 ?side2 A6.out).mono ?_); (case side1 => exact cB_q HR1.out (by repeat (with_reducible first | exact HB.out | apply bA_q | apply pB_q | apply bD_q | refine bS_q ?_ GE566.out))); (case side2 => exact HC1.out); rintro e w' ⟨rfl, ⟨nd, rfl⟩⟩; refine ⟨_, rfl, ?_⟩) | ((with_reducible refine gC_q (f := 71) rfl ?_); refine gL_q (some 32) rfl rfl Try.func71 (by kernel_rfl) rfl #[.slice A0 l0.length c0, .int .i64 ((rd_T27 l1 a2).f3)] rfl (by (try simp only [lM_q, lC_q, lN_q]); first | done | rfl | (simp only [lD_q, lT_q]; rfl)) ?_; (with_reducible refine (spec_l43Guest.calls k _ _ l0 ((rd_T27 l1 a2).f3) t568 _ ?side1 ?side2 A13.out).mono ?_); (case side1 => exact cB_q HR0.out (by repeat (with_reducible first | exact HB.out | apply bA_q | apply pB_q | apply bD_q | refine bS_q ?_ GE566.out))); (case side2 => exact HC0.out); rintro e w' ⟨rfl, ⟨nd, rfl⟩⟩; refine ⟨_, rfl, ?_⟩))
 have n0_ : Aside0 (((((((w34.setCell ⟨gb566, 0, none⟩ (.int .i64 ((rd_T27 l1 a2).f0))).setCell ⟨gb566, 1, none⟩ (.int .i64 ((rd_T27 l1 a2).f1))).setCell ⟨gb566, 2, none⟩ (.int .i64 ((rd_T27 l1 a2).f2))).setCell ⟨gb566, 3, none⟩ (.int .i64 ((rd_T27 l1 a2).f3))).setCell ⟨gb566, 4, none⟩ (.int .i64 ((rd_T27 l1 a2).f4))).setCell ⟨gb566, 5, none⟩ (.int .i64 ((rd_T27 l1 a2).f5))).heap[gb566]? = some (.cells #[.int .i64 ((rd_T27 l1 a2).f0), .int .i64 ((rd_T27 l1 a2).f1), .int .i64 ((rd_T27 l1 a2).f2), .int .i64 ((rd_T27 l1 a2).f3), .int .i64 ((rd_T27 l1 a2).f4), .int .i64 ((rd_T27 l1 a2).f5)] 27 (0, 0))) := ⟨by (with_reducible repeat (first | refine bN_q ?_ _ | refine bW_q ?_ | refine bL_q ?_ _)); refine blk_put (cs := #[.int .i64 ((rd_T27 l1 a2).f0), .int .i64 ((rd_T27 l1 a2).f1), .int .i64 ((rd_T27 l1 a2).f2), .int .i64 ((rd_T27 l1 a2).f3), .int .i64 ((rd_T27 l1 a2).f4), .int .i64 0]) ?_ 5 _ rfl; (with_reducible repeat (first | refine bN_q ?_ _ | refine bW_q ?_ | refine bL_q ?_ _)); refine blk_put (cs := #[.int .i64 ((rd_T27 l1 a2).f0), .int .i64 ((rd_T27 l1 a2).f1), .int .i64 ((rd_T27 l1 a2).f2), .int .i64 ((rd_T27 l1 a2).f3), .int .i64 0, .int .i64 0]) ?_ 4 _ rfl; (with_reducible repeat (first | refine bN_q ?_ _ | refine bW_q ?_ | refine bL_q ?_ _)); refine blk_put (cs := #[.int .i64 ((rd_T27 l1 a2).f0), .int .i64 ((rd_T27 l1 a2).f1), .int .i64 ((rd_T27 l1 a2).f2), .int .i64 0, .int .i64 0, .int .i64 0]) ?_ 3 _ rfl; (with_reducible repeat (first | refine bN_q ?_ _ | refine bW_q ?_ | refine bL_q ?_ _)); refine blk_put (cs := #[.int .i64 ((rd_T27 l1 a2).f0), .int .i64 ((rd_T27 l1 a2).f1), .int .i64 0, .int .i64 0, .int .i64 0, .int .i64 0]) ?_ 2 _ rfl; (with_reducible repeat (first | refine bN_q ?_ _ | refine bW_q ?_ | refine bL_q ?_ _)); refine blk_put (cs := #[.int .i64 ((rd_T27 l1 a2).f0), .int .i64 0, .int .i64 0, .int .i64 0, .int .i64 0, .int .i64 0]) ?_ 1 _ rfl; (with_reducible repeat (first | refine bN_q ?_ _ | refine bW_q ?_ | refine bL_q ?_ _)); refine blk_put (cs := #[.int .i64 0, .int .i64 0, .int .i64 0, .int .i64 0, .int .i64 0, .int .i64 0]) ?_ 0 _ rfl; (with_reducible repeat (first | refine bN_q ?_ _ | refine bW_q ?_ | refine bL_q ?_ _)); exact BK566.out⟩
 have n1_ : Aside0 (Below w.heap.size w ((((((w34.setCell ⟨gb566, 0, none⟩ (.int .i64 ((rd_T27 l1 a2).f0))).setCell ⟨gb566, 1, none⟩ (.int .i64 ((rd_T27 l1 a2).f1))).setCell ⟨gb566, 2, none⟩ (.int .i64 ((rd_T27 l1 a2).f2))).setCell ⟨gb566, 3, none⟩ (.int .i64 ((rd_T27 l1 a2).f3))).setCell ⟨gb566, 4, none⟩ (.int .i64 ((rd_T27 l1 a2).f4))).setCell ⟨gb566, 5, none⟩ (.int .i64 ((rd_T27 l1 a2).f5)))) := ⟨by repeat (with_reducible first | exact HB.out | apply bA_q | apply pB_q | apply bD_q | refine bS_q ?_ GE566.out)⟩
 (try clear BK566)
 (try clear HB)
 generalize ((((((w34.setCell ⟨gb566, 0, none⟩ (.int .i64 ((rd_T27 l1 a2).f0))).setCell ⟨gb566, 1, none⟩ (.int .i64 ((rd_T27 l1 a2).f1))).setCell ⟨gb566, 2, none⟩ (.int .i64 ((rd_T27 l1 a2).f2))).setCell ⟨gb566, 3, none⟩ (.int .i64 ((rd_T27 l1 a2).f3))).setCell ⟨gb566, 4, none⟩ (.int .i64 ((rd_T27 l1 a2).f4))).setCell ⟨gb566, 5, none⟩ (.int .i64 ((rd_T27 l1 a2).f5))) = w36 at n0_ n1_ ⊢
 have BK566 := n0_
 have HB := n1_
 clear n0_ n1_
 (try (rw [drewN_self w36]; generalize hq_ : World.drewN w36 _ = w36; have n0_ : Aside0 (w36.heap[gb566]? = some (.cells #[.int .i64 ((rd_T27 l1 a2).f0), .int .i64 ((rd_T27 l1 a2).f1), .int .i64 ((rd_T27 l1 a2).f2), .int .i64 ((rd_T27 l1 a2).f3), .int .i64 ((rd_T27 l1 a2).f4), .int .i64 ((rd_T27 l1 a2).f5)] 27 (0, 0))) := ⟨by rw [← hq_]; exact (bup BK566.out)⟩; have n1_ : Aside0 (Below w.heap.size w w36) := ⟨by rw [← hq_]; exact (by repeat (with_reducible first | exact HB.out | apply bA_q | apply pB_q | apply bD_q | refine bS_q ?_ GE566.out))⟩; clear BK566 HB hq_; have BK566 := n0_; have HB := n1_; clear n0_ n1_))
 have n0_ := Ae_q (bW_q BK566.out)
 have n1_ := Ae_q (bD_q HB.out)
 clear BK566
 clear HB
 have BK566 := n0_
 have HB := n1_
 clear n0_ n1_
 have p569 : 0 ≤ (t567 : Int) := oD_q (by assumption)
 have q569 : t567 < (l1.length : Int) := oD_q (by assumption)
 obtain ⟨ad569, e569, hx569_0, hx569_1, hx569_2, hx569_3, hx569_4, hx569_5⟩ := at_T27 HR1.out t567 p569 q569
 have hw569_5 := hx569_5
 have hw569_4 := hx569_4
 have hw569_3 := hx569_3
 have hw569_2 := hx569_2
 have hw569_1 := hx569_1
 have hw569_0 := hx569_0
 obtain rfl : ad565 = ad569 := (by injection e569)
 replace hx569_0 := cel HB.out hx569_0
 replace hx569_1 := cel HB.out hx569_1
 replace hx569_2 := cel HB.out hx569_2
 replace hx569_3 := cel HB.out hx569_3
 replace hx569_4 := cel HB.out hx569_4
 replace hx569_5 := cel HB.out hx569_5
 replace p569 := eq_true p569
 replace q569 := eq_true q569
 have p570 : 0 ≤ (t568 : Int) := oD_q (by assumption)
 have q570 : t568 < (l0.length : Int) := oD_q (by assumption)
 obtain ⟨ad570, e570, hx570_0, hx570_1, hx570_2⟩ := at_T50 HR0.out t568 p570 q570
 have hw570_2 := hx570_2
 have hw570_1 := hx570_1
 have hw570_0 := hx570_0
 cases e570
 replace hx570_0 := cel HB.out hx570_0
 replace hx570_1 := cel HB.out hx570_1
 replace hx570_2 := cel HB.out hx570_2
 replace p570 := eq_true p570
 replace q570 := eq_true q570
 have p571 : 0 ≤ (t567 : Int) := oD_q (by assumption)
 have q571 : t567 < (l1.length : Int) := oD_q (by assumption)
 obtain ⟨ad571, e571, hx571_0, hx571_1, hx571_2, hx571_3, hx571_4, hx571_5⟩ := at_T27 HR1.out t567 p571 q571
 have hw571_5 := hx571_5
 have hw571_4 := hx571_4
 have hw571_3 := hx571_3
 have hw571_2 := hx571_2
 have hw571_1 := hx571_1
 have hw571_0 := hx571_0
 obtain rfl : ad565 = ad571 := (by injection e571)
 replace hx571_0 := cel HB.out hx571_0
 replace hx571_1 := cel HB.out hx571_1
 replace hx571_2 := cel HB.out hx571_2
 replace hx571_3 := cel HB.out hx571_3
 replace hx571_4 := cel HB.out hx571_4
 replace hx571_5 := cel HB.out hx571_5
 replace p571 := eq_true p571
 replace q571 := eq_true q571
 have p572 : 0 ≤ (t567 : Int) := oD_q (by assumption)
 have q572 : t567 < (l1.length : Int) := oD_q (by assumption)
 obtain ⟨ad572, e572, hx572_0, hx572_1, hx572_2, hx572_3, hx572_4, hx572_5⟩ := at_T27 HR1.out t567 p572 q572
 have hw572_5 := hx572_5
 have hw572_4 := hx572_4
 have hw572_3 := hx572_3
 have hw572_2 := hx572_2
 have hw572_1 := hx572_1
 have hw572_0 := hx572_0
 obtain rfl : ad565 = ad572 := (by injection e572)
 replace hx572_0 := cel HB.out hx572_0
 replace hx572_1 := cel HB.out hx572_1
 replace hx572_2 := cel HB.out hx572_2
 replace hx572_3 := cel HB.out hx572_3
 replace hx572_4 := cel HB.out hx572_4
 replace hx572_5 := cel HB.out hx572_5
 replace p572 := eq_true p572
 replace q572 := eq_true q572
 refine start_ (n := 36) (S := fun w' => w'.cell? ⟨gb566, 0, none⟩ = some (.int .i64 ((rd_T27 l1 a2).f0)) ∧ w'.cell? ⟨gb566, 1, none⟩ = some (.int .i64 ((rd_T27 l1 a2).f1)) ∧ w'.cell? ⟨gb566, 2, none⟩ = some (.int .i64 ((rd_T27 l1 a2).f2)) ∧ w'.cell? ⟨gb566, 3, none⟩ = some (.int .i64 ((rd_T27 l1 a2).f3)) ∧ w'.cell? ⟨gb566, 4, none⟩ = some (.int .i64 ((rd_T27 l1 a2).f4)) ∧ w'.cell? ⟨gb566, 5, none⟩ = some (.int .i64 ((rd_T27 l1 a2).f5)) ∧ w'.cell? (ad565.add ((t567).toNat * 6)) = some (.int .i64 ((rd_T27 l1 t567).f0)) ∧ w'.cell? ⟨(ad565.add ((t567).toNat * 6)).block, (ad565.add ((t567).toNat * 6)).off + 1, none⟩ = some (.int .i64 ((rd_T27 l1 t567).f1)) ∧ w'.cell? ⟨(ad565.add ((t567).toNat * 6)).block, (ad565.add ((t567).toNat * 6)).off + 2, none⟩ = some (.int .i64 ((rd_T27 l1 t567).f2)) ∧ w'.cell? ⟨(ad565.add ((t567).toNat * 6)).block, (ad565.add ((t567).toNat * 6)).off + 3, none⟩ = some (.int .i64 ((rd_T27 l1 t567).f3)) ∧ w'.cell? ⟨(ad565.add ((t567).toNat * 6)).block, (ad565.add ((t567).toNat * 6)).off + 4, none⟩ = some (.int .i64 ((rd_T27 l1 t567).f4)) ∧ w'.cell? ⟨(ad565.add ((t567).toNat * 6)).block, (ad565.add ((t567).toNat * 6)).off + 5, none⟩ = some (.int .i64 ((rd_T27 l1 t567).f5)) ∧ w'.cell? (ad570.add ((t568).toNat * 3)) = some (.int .i64 ((rd_T50 l0 t568).f0)) ∧ w'.cell? ⟨(ad570.add ((t568).toNat * 3)).block, (ad570.add ((t568).toNat * 3)).off + 1, none⟩ = some (.int .i64 ((rd_T50 l0 t568).f1)) ∧ w'.cell? ⟨(ad570.add ((t568).toNat * 3)).block, (ad570.add ((t568).toNat * 3)).off + 2, none⟩ = some (.int .i64 ((rd_T50 l0 t568).f2)) ∧ w'.cell? (ad565.add ((t567).toNat * 6)) = some (.int .i64 ((rd_T27 l1 t567).f0)) ∧ w'.cell? ⟨(ad565.add ((t567).toNat * 6)).block, (ad565.add ((t567).toNat * 6)).off + 1, none⟩ = some (.int .i64 ((rd_T27 l1 t567).f1)) ∧ w'.cell? ⟨(ad565.add ((t567).toNat * 6)).block, (ad565.add ((t567).toNat * 6)).off + 2, none⟩ = some (.int .i64 ((rd_T27 l1 t567).f2)) ∧ w'.cell? ⟨(ad565.add ((t567).toNat * 6)).block, (ad565.add ((t567).toNat * 6)).off + 3, none⟩ = some (.int .i64 ((rd_T27 l1 t567).f3)) ∧ w'.cell? ⟨(ad565.add ((t567).toNat * 6)).block, (ad565.add ((t567).toNat * 6)).off + 4, none⟩ = some (.int .i64 ((rd_T27 l1 t567).f4)) ∧ w'.cell? ⟨(ad565.add ((t567).toNat * 6)).block, (ad565.add ((t567).toNat * 6)).off + 5, none⟩ = some (.int .i64 ((rd_T27 l1 t567).f5)) ∧ w'.cell? (ad565.add ((t567).toNat * 6)) = some (.int .i64 ((rd_T27 l1 t567).f0)) ∧ w'.cell? ⟨(ad565.add ((t567).toNat * 6)).block, (ad565.add ((t567).toNat * 6)).off + 1, none⟩ = some (.int .i64 ((rd_T27 l1 t567).f1)) ∧ w'.cell? ⟨(ad565.add ((t567).toNat * 6)).block, (ad565.add ((t567).toNat * 6)).off + 2, none⟩ = some (.int .i64 ((rd_T27 l1 t567).f2)) ∧ w'.cell? ⟨(ad565.add ((t567).toNat * 6)).block, (ad565.add ((t567).toNat * 6)).off + 3, none⟩ = some (.int .i64 ((rd_T27 l1 t567).f3)) ∧ w'.cell? ⟨(ad565.add ((t567).toNat * 6)).block, (ad565.add ((t567).toNat * 6)).off + 4, none⟩ = some (.int .i64 ((rd_T27 l1 t567).f4)) ∧ w'.cell? ⟨(ad565.add ((t567).toNat * 6)).block, (ad565.add ((t567).toNat * 6)).off + 5, none⟩ = some (.int .i64 ((rd_T27 l1 t567).f5))) (ds := []) #[false, false, false, false, false, false, false, false, false, false, false, false, false, false, false, false, false, false, false, false, false, false, false, false, false, false, false, false, false, false, false, false, false, false, false, false] (by kernel_rfl) rfl rfl ⟨(bC_q BK566.out 0).trans rfl, (bC_q BK566.out 1).trans rfl, (bC_q BK566.out 2).trans rfl, (bC_q BK566.out 3).trans rfl, (bC_q BK566.out 4).trans rfl, (bC_q BK566.out 5).trans rfl, (cel HB.out hw569_0), (cel HB.out hw569_1), (cel HB.out hw569_2), (cel HB.out hw569_3), (cel HB.out hw569_4), (cel HB.out hw569_5), (cel HB.out hw570_0), (cel HB.out hw570_1), (cel HB.out hw570_2), (cel HB.out hw571_0), (cel HB.out hw571_1), (cel HB.out hw571_2), (cel HB.out hw571_3), (cel HB.out hw571_4), (cel HB.out hw571_5), (cel HB.out hw572_0), (cel HB.out hw572_1), (cel HB.out hw572_2), (cel HB.out hw572_3), (cel HB.out hw572_4), (cel HB.out hw572_5)⟩ (fun hHeld => ?_); refine with_tabW spec_l43Wrong.tab9 spec_l43Wrong.bits9 (fun HT_ HW_ => ?_)
 generalize w36.drew = w37 at BK566 HB hx569_0 hx569_1 hx569_2 hx569_3 hx569_4 hx569_5 hx570_0 hx570_1 hx570_2 hx571_0 hx571_1 hx571_2 hx571_3 hx571_4 hx571_5 hx572_0 hx572_1 hx572_2 hx572_3 hx572_4 hx572_5 hHeld ⊢
 refine pI (v := ?_) (a' := ?_) HT_ 0 33 rfl rfl (by kernel_rfl) (fun _ _ _ h => h) (by rfl) ?_ ?_ ?_
 rotate_left
 ·intro w'
  go_simp
  with_reducible rfl
 rotate_left
 ·simp only [pS_q]
  rfl
 refine pI (v := ?_) (a' := ?_) HT_ 1 34 rfl rfl (by kernel_rfl) (fun _ _ _ h => h) (by rfl) ?_ ?_ ?_
 rotate_left
 ·intro w'
  go_simp
  with_reducible rfl
 rotate_left
 ·simp only [pS_q]
  rfl
 refine pI (v := ?_) (a' := ?_) HT_ 2 35 rfl rfl (by kernel_rfl) (fun _ _ _ h => h) (by rfl) ?_ ?_ ?_
 rotate_left
 ·intro w'
  go_simp
  with_reducible rfl
 rotate_left
 ·simp only [pS_q]
  rfl
 refine pI (v := ?_) (a' := ?_) HT_ 3 36 rfl rfl (by kernel_rfl) (fun _ _ _ h => h) (by rfl) ?_ ?_ ?_
 rotate_left
 ·intro w'
  go_simp
  with_reducible rfl
 rotate_left
 ·simp only [pS_q]
  rfl
 refine pI (v := ?_) (a' := ?_) HT_ 4 37 rfl rfl (by kernel_rfl) (fun _ _ _ h => h) (by rfl) ?_ ?_ ?_
 rotate_left
 ·intro w'
  go_simp
  with_reducible rfl
 rotate_left
 ·simp only [pS_q]
  rfl
 refine pI (v := ?_) (a' := ?_) HT_ 5 38 rfl rfl (by kernel_rfl) (fun _ _ _ h => h) (by rfl) ?_ ?_ ?_
 rotate_left
 ·intro w'
  go_simp
  with_reducible rfl
 rotate_left
 ·simp only [pS_q]
  rfl
 refine pI (v := ?_) (a' := ?_) HT_ 6 39 rfl rfl (by kernel_rfl) (fun _ _ _ h => h) (by rfl) ?_ ?_ ?_
 rotate_left
 ·intro w'
  go_simp
  with_reducible rfl
 rotate_left
 ·simp only [pS_q]
  rfl
 refine pI (v := ?_) (a' := ?_) HT_ 7 40 rfl rfl (by kernel_rfl) (fun _ _ _ h => h) (by rfl) ?_ ?_ ?_
 rotate_left
 ·intro w'
  go_simp
  with_reducible rfl
 rotate_left
 ·simp only [pS_q]
  rfl
 refine pI (v := ?_) (a' := ?_) HT_ 9 42 rfl rfl (by kernel_rfl) (fun _ _ _ h => h) (by rfl) ?_ ?_ ?_
 rotate_left
 ·intro w'
  go_simp
  with_reducible rfl
 rotate_left
 ·simp only [pS_q]
  rfl
 refine pI (v := ?_) (a' := ?_) HT_ 10 43 rfl rfl (by kernel_rfl) (fun _ _ _ h => h) (by rfl) ?_ ?_ ?_
 rotate_left
 ·intro w'
  go_simp
  with_reducible rfl
 rotate_left
 ·simp only [pS_q]
  rfl
 refine pI (v := ?_) (a' := ?_) HT_ 11 44 rfl rfl (by kernel_rfl) (fun _ _ _ h => h) (by rfl) ?_ ?_ ?_
 rotate_left
 ·intro w'
  go_simp
  with_reducible rfl
 rotate_left
 ·simp only [pS_q]
  rfl
 refine pI (v := ?_) (a' := ?_) HT_ 12 45 rfl rfl (by kernel_rfl) (fun _ _ _ h => h) (by rfl) ?_ ?_ ?_
 rotate_left
 ·intro w'
  go_simp
  with_reducible rfl
 rotate_left
 ·simp only [pS_q]
  rfl
 refine take_ (i := 8) (N := some 41) (v := ?_) (a' := ?_) #[true, true, true, true, true, true, true, true, true, true, true, true, true, false, false, false, false, false, false, false, false, false, false, false, false, false, false, false, false, false, false, false, false, false, false, false] rfl rfl (take_ofW HT_.out HW_.out (by kernel_rfl)) (fun _ _ _ h => h) (Or.inl ⟨by rfl, ?_⟩) hHeld ?_ ?_
 rotate_left
 ·rintro w' ⟨s0, s1, s2, s3, s4, s5, s6, s7, s8, s9, s10, s11, s12, s13, s14, s15, s16, s17, s18, s19, s20, s21, s22, s23, s24, s25, s26⟩
  go_simp
  with_reducible rfl
 rotate_left
 ·simp only [pS_q]
  rfl
 refine take_ (i := 13) (N := some 46) (v := ?_) (a' := ?_) #[true, true, true, true, true, true, true, true, true, true, true, true, true, true, false, false, false, false, false, false, false, false, false, false, false, false, false, false, false, false, false, false, false, false, false, false] rfl rfl (take_ofW HT_.out HW_.out (by kernel_rfl)) (fun _ _ _ h => h) (Or.inl ⟨by rfl, ?_⟩) hHeld ?_ ?_
 rotate_left
 ·rintro w' ⟨s0, s1, s2, s3, s4, s5, s6, s7, s8, s9, s10, s11, s12, s13, s14, s15, s16, s17, s18, s19, s20, s21, s22, s23, s24, s25, s26⟩
  go_simp
  with_reducible rfl
 rotate_left
 ·simp only [pS_q]
  rfl
 refine pI (v := ?_) (a' := ?_) HT_ 14 47 rfl rfl (by kernel_rfl) (fun _ _ _ h => h) (by rfl) ?_ ?_ ?_
 rotate_left
 ·intro w'
  go_simp
  with_reducible rfl
 rotate_left
 ·simp only [pS_q]
  rfl
 refine pI (v := ?_) (a' := ?_) HT_ 15 48 rfl rfl (by kernel_rfl) (fun _ _ _ h => h) (by rfl) ?_ ?_ ?_
 rotate_left
 ·intro w'
  go_simp
  with_reducible rfl
 rotate_left
 ·simp only [pS_q]
  rfl
 refine pI (v := ?_) (a' := ?_) HT_ 16 49 rfl rfl (by kernel_rfl) (fun _ _ _ h => h) (by rfl) ?_ ?_ ?_
 rotate_left
 ·intro w'
  go_simp
  with_reducible rfl
 rotate_left
 ·simp only [pS_q]
  rfl
 refine pI (v := ?_) (a' := ?_) HT_ 17 50 rfl rfl (by kernel_rfl) (fun _ _ _ h => h) (by rfl) ?_ ?_ ?_
 rotate_left
 ·intro w'
  go_simp
  with_reducible rfl
 rotate_left
 ·simp only [pS_q]
  rfl
 refine pI (v := ?_) (a' := ?_) HT_ 18 51 rfl rfl (by kernel_rfl) (fun _ _ _ h => h) (by rfl) ?_ ?_ ?_
 rotate_left
 ·intro w'
  go_simp
  with_reducible rfl
 rotate_left
 ·simp only [pS_q]
  rfl
 refine pI (v := ?_) (a' := ?_) HT_ 19 52 rfl rfl (by kernel_rfl) (fun _ _ _ h => h) (by rfl) ?_ ?_ ?_
 rotate_left
 ·intro w'
  go_simp
  with_reducible rfl
 rotate_left
 ·simp only [pS_q]
  rfl
 refine pI (v := ?_) (a' := ?_) HT_ 20 53 rfl rfl (by kernel_rfl) (fun _ _ _ h => h) (by rfl) ?_ ?_ ?_
 rotate_left
 ·intro w'
  go_simp
  with_reducible rfl
 rotate_left
 ·simp only [pS_q]
  rfl
 refine pI (v := ?_) (a' := ?_) HT_ 22 55 rfl rfl (by kernel_rfl) (fun _ _ _ h => h) (by rfl) ?_ ?_ ?_
 rotate_left
 ·intro w'
  go_simp
  with_reducible rfl
 rotate_left
 ·simp only [pS_q]
  rfl
 refine pI (v := ?_) (a' := ?_) HT_ 23 56 rfl rfl (by kernel_rfl) (fun _ _ _ h => h) (by rfl) ?_ ?_ ?_
 rotate_left
 ·intro w'
  go_simp
  with_reducible rfl
 rotate_left
 ·simp only [pS_q]
  rfl
 refine pI (v := ?_) (a' := ?_) HT_ 24 57 rfl rfl (by kernel_rfl) (fun _ _ _ h => h) (by rfl) ?_ ?_ ?_
 rotate_left
 ·intro w'
  go_simp
  with_reducible rfl
 rotate_left
 ·simp only [pS_q]
  rfl
 refine pI (v := ?_) (a' := ?_) HT_ 25 58 rfl rfl (by kernel_rfl) (fun _ _ _ h => h) (by rfl) ?_ ?_ ?_
 rotate_left
 ·intro w'
  go_simp
  with_reducible rfl
 rotate_left
 ·simp only [pS_q]
  rfl
 refine pI (v := ?_) (a' := ?_) HT_ 27 60 rfl rfl (by kernel_rfl) (fun _ _ _ h => h) (by rfl) ?_ ?_ ?_
 rotate_left
 ·intro w'
  go_simp
  with_reducible rfl
 rotate_left
 ·simp only [pS_q]
  rfl
 refine pI (v := ?_) (a' := ?_) HT_ 28 61 rfl rfl (by kernel_rfl) (fun _ _ _ h => h) (by rfl) ?_ ?_ ?_
 rotate_left
 ·intro w'
  go_simp
  with_reducible rfl
 rotate_left
 ·simp only [pS_q]
  rfl
 refine pI (v := ?_) (a' := ?_) HT_ 29 62 rfl rfl (by kernel_rfl) (fun _ _ _ h => h) (by rfl) ?_ ?_ ?_
 rotate_left
 ·intro w'
  go_simp
  with_reducible rfl
 rotate_left
 ·simp only [pS_q]
  rfl
 refine pI (v := ?_) (a' := ?_) HT_ 30 63 rfl rfl (by kernel_rfl) (fun _ _ _ h => h) (by rfl) ?_ ?_ ?_
 rotate_left
 ·intro w'
  go_simp
  with_reducible rfl
 rotate_left
 ·simp only [pS_q]
  rfl
 refine take_ (i := 21) (N := some 54) (v := ?_) (a' := ?_) #[true, true, true, true, true, true, true, true, true, true, true, true, true, true, true, true, true, true, true, true, true, true, true, true, true, true, false, true, true, true, true, false, false, false, false, false] rfl rfl (take_ofW HT_.out HW_.out (by kernel_rfl)) (fun _ _ _ h => h) (Or.inl ⟨by rfl, ?_⟩) hHeld ?_ ?_
 rotate_left
 ·rintro w' ⟨s0, s1, s2, s3, s4, s5, s6, s7, s8, s9, s10, s11, s12, s13, s14, s15, s16, s17, s18, s19, s20, s21, s22, s23, s24, s25, s26⟩
  go_simp
  with_reducible rfl
 rotate_left
 ·simp only [pS_q]
  rfl
 refine take_ (i := 26) (N := some 59) (v := ?_) (a' := ?_) #[true, true, true, true, true, true, true, true, true, true, true, true, true, true, true, true, true, true, true, true, true, true, true, true, true, true, true, true, true, true, true, false, false, false, false, false] rfl rfl (take_ofW HT_.out HW_.out (by kernel_rfl)) (fun _ _ _ h => h) (Or.inl ⟨by rfl, ?_⟩) hHeld ?_ ?_
 rotate_left
 ·rintro w' ⟨s0, s1, s2, s3, s4, s5, s6, s7, s8, s9, s10, s11, s12, s13, s14, s15, s16, s17, s18, s19, s20, s21, s22, s23, s24, s25, s26⟩
  go_simp
  with_reducible rfl
 rotate_left
 ·simp only [pS_q]
  rfl
 refine take_ (i := 31) (N := some 64) (v := ?_) (a' := ?_) #[true, true, true, true, true, true, true, true, true, true, true, true, true, true, true, true, true, true, true, true, true, true, true, true, true, true, true, true, true, true, true, true, false, false, false, false] rfl rfl (take_ofW HT_.out HW_.out (by kernel_rfl)) (fun _ _ _ h => h) (Or.inl ⟨by rfl, ?_⟩) hHeld ?_ ?_
 rotate_left
 ·rintro w' ⟨s0, s1, s2, s3, s4, s5, s6, s7, s8, s9, s10, s11, s12, s13, s14, s15, s16, s17, s18, s19, s20, s21, s22, s23, s24, s25, s26⟩
  go_simp
  with_reducible rfl
 rotate_left
 ·simp only [pS_q]
  rfl
 refine one_ (i := 32) (N := some 65) #[true, true, true, true, true, true, true, true, true, true, true, true, true, true, true, true, true, true, true, true, true, true, true, true, true, true, true, true, true, true, true, true, true, false, false, false] rfl rfl (one_of HT_.out (by kernel_rfl)) (by decide) (fun K hK => ?_)
 refine goes_ Try.func72 (by kernel_rfl) rfl #[.agg #[.int .i64 ((rd_T50 l0 t568).f0), .int .i64 ((rd_T50 l0 t568).f1), .int .i64 ((rd_T50 l0 t568).f2)], .int .i64 ((rd_T27 l1 t567).f4), .int .i64 ((rd_T27 l1 t567).f5)] (by rfl) rfl rfl (by (try simp only [lM_q, lC_q, lN_q]); first | done | rfl | (simp only [lD_q, lT_q]; rfl)) ?_
 with_reducible refine (spec_GuestMay.calls k ((rd_T50 l0 t568).f0) ((rd_T50 l0 t568).f1) ((rd_T50 l0 t568).f2) ((rd_T27 l1 t567).f4) ((rd_T27 l1 t567).f5) t573 _ A33.out).mono ?_
 rintro e w38 ⟨rfl, hb⟩
 refine ⟨_, rfl, ?_⟩
 have n0_ := Ae_q (bB_q (g := gb566) (o := .cells #[.int .i64 ((rd_T27 l1 a2).f0), .int .i64 ((rd_T27 l1 a2).f1), .int .i64 ((rd_T27 l1 a2).f2), .int .i64 ((rd_T27 l1 a2).f3), .int .i64 ((rd_T27 l1 a2).f4), .int .i64 ((rd_T27 l1 a2).f5)] 27 (0, 0)) (bup BK566.out) hb)
 have n1_ := Ae_q (bT_q (by repeat (with_reducible first | exact HB.out | apply bA_q | apply pB_q | apply bD_q | refine bS_q ?_ GE566.out)) hb)
 clear BK566
 clear HB
 have BK566 := n0_
 have HB := n1_
 clear n0_ n1_
 (try clear hb)
 (try clear hb2)
 (try clear hk)
 (try clear hi)
 refine hK.out _ _ ⟨(bC_q BK566.out 0).trans rfl, (bC_q BK566.out 1).trans rfl, (bC_q BK566.out 2).trans rfl, (bC_q BK566.out 3).trans rfl, (bC_q BK566.out 4).trans rfl, (bC_q BK566.out 5).trans rfl, (cel HB.out hw569_0), (cel HB.out hw569_1), (cel HB.out hw569_2), (cel HB.out hw569_3), (cel HB.out hw569_4), (cel HB.out hw569_5), (cel HB.out hw570_0), (cel HB.out hw570_1), (cel HB.out hw570_2), (cel HB.out hw571_0), (cel HB.out hw571_1), (cel HB.out hw571_2), (cel HB.out hw571_3), (cel HB.out hw571_4), (cel HB.out hw571_5), (cel HB.out hw572_0), (cel HB.out hw572_1), (cel HB.out hw572_2), (cel HB.out hw572_3), (cel HB.out hw572_4), (cel HB.out hw572_5)⟩ (fun hHeld => ?_)
 clear hK K
 refine norm_ (a' := ?_) ?_ ?_
 rotate_left
 ·show Act.put _ (some 65) _ = _
  simp only [pS_q]
  rfl
 refine pI (v := ?_) (a' := ?_) HT_ 33 66 rfl rfl (by kernel_rfl) (fun _ _ _ h => h) (by rfl) ?_ ?_ ?_
 rotate_left
 ·intro w'
  go_simp
  with_reducible rfl
 rotate_left
 ·simp only [pS_q]
  rfl
 refine pI (v := ?_) (a' := ?_) HT_ 34 67 rfl rfl (by kernel_rfl) (fun _ _ _ h => h) (by rfl) ?_ ?_ ?_
 rotate_left
 ·intro w'
  go_simp
  with_reducible rfl
 rotate_left
 ·simp only [pS_q]
  rfl
 refine pI (v := ?_) (a' := ?_) HT_ 35 6 rfl rfl (by kernel_rfl) (fun _ _ _ h => h) (by rfl) ?_ ?_ ?_
 rotate_left
 ·intro w'
  go_simp
  with_reducible rfl
 rotate_left
 ·simp only [pS_q]
  rfl
 refine done_ (done_of HT_.out (by kernel_rfl)) ?_
 try go_wp2
 go_ret
 exact ⟨by first | rfl | (simp [eN_q, eS_q] <;> rfl) | (simp [*, eN_q, eS_q] <;> rfl), by repeat (with_reducible first | exact HB.out | apply bA_q | apply pB_q | apply bD_q | refine bS_q ?_ GE566.out)⟩

end Go.Proofs.Ytnhenfmegpjigaa.PEv
