import Derived.Test.YtfnpiacmlahegaaVSPRpx0
import Derived.Test.YtfnpiacmlahegaaVSPRpx1
import Derived.Test.YtfnpiacmlahegaaVSPRpx3
import Derived.Test.YtfnpiacmlahegaaVSPRpx5
import Derived.Test.YtfnpiacmlahegaaVSPRpx6
import Derived.Test.YtfnpiacmlahegaaVSPRpx7
import Derived.Test.YtfnpiacmlahegaaVSPRpx8
import Derived.Test.YtfnpiacmlahegaaVSPRpx10
import Derived.Test.YtfnpiacmlahegaaVSPRpx14
import Derived.Test.YtfnpiacmlahegaaVSPRpx21
import Derived.Test.YtfnpiacmlahegaaVSPRpx23
import Derived.Test.YtfnpiacmlahegaaVSPRpx25
namespace Go.Proofs.Ytfnpiacmlahegaa.PRp
open Go.RowKit Go.Proofs.YtfnpiacmlahegaaW.PrintWords Go.Proofs.YtfnpiacmlahegaaW.PrintLast Go.Proofs.YtfnpiacmlahegaaW.PrintMore
attribute [local go_sem] max2_int min2_int max_two min_two max_three min_three max_four min_four
set_option linter.unusedVariables false
set_option linter.unusedSimpArgs false

mutual
def laws_FnExactOutageRepair.j0 : Nat → List (S59) → List Int → List Int → Bool → List (S63) → List Int → List Int → Bool → Bool → Int → List Int → Int → Int → Int → Int → List Int → Option (Bool)
 | 0, _, _, _, _, _, _, _, _, _, _, _, _, _, _, _, _ => none
 | k + 1, x0, x2, x10, x11, x12, x14, x15, x16, x70, x498000, x498001, x499000, x499001, x499002, x526000, x526001 => if x70 = true then (some false) else ((laws_toStepS.f k x0).bind fun t537 => ((laws_eqStepS.f k x12 t537).bind fun t540 => (if t540 = true then ((laws_toKitchen.f k x498000 x498001).bind fun bt541 => ((laws_eqKitchen.f k x526000 x526001 bt541.1 bt541.2).bind fun t545 => (if t545 = true then ((laws_toIntS.f k x2).bind fun t546 => ((laws_eqIntS.f k x14 t546).bind fun t549 => (if t549 = true then ((laws_markKitchen.f k x526000 x526001 (markStepF x12 1)).bind fun bt550 => ((laws_markIntS.f k x14 bt550.1).bind fun bt552 => (if bt552.1 < 0 then (laws_FnExactOutageRepair.j1 k x0 x2 x10 x11 x15 true x498000 x498001 x499000 x499001 x499002) else ((laws_eqIntS.f k x15 x10).bind fun t554 => (if t554 = true then (laws_FnExactOutageRepair.j1 k x0 x2 x10 x11 x15 (x16 != x11) x498000 x498001 x499000 x499001 x499002) else (laws_FnExactOutageRepair.j1 k x0 x2 x10 x11 x15 true x498000 x498001 x499000 x499001 x499002)))))) else (some false)))) else (some false)))) else (some false))))
def laws_FnExactOutageRepair.j1 : Nat → List (S59) → List Int → List Int → Bool → List Int → Bool → Int → List Int → Int → Int → Int → Option (Bool)
 | 0, _, _, _, _, _, _, _, _, _, _, _ => none
 | k + 1, x0, x2, x10, x11, x15, x107, x498000, x498001, x499000, x499001, x499002 => if x107 = true then (some false) else ((laws_markIntS.f k x15 1).bind fun bt555 => ((laws_heldIntS.f k bt555.2 1).bind fun t557 => (if t557 < 0 then (some false) else (if t557 = bt555.1 then ((laws_toStepS.f k x0).bind fun t558 => ((laws_toKitchen.f k x498000 x498001).bind fun bt561 => ((laws_toIntS.f k x2).bind fun t565 => ((laws_toOutage.f x499000 x499001 x499002).bind fun bt568 => ((impl_OutageRepair.f k t558 bt561.1 bt561.2 t565 bt568.1 bt568.2.1 bt568.2.2).bind fun bt571 => ((laws_eqIntS.f k bt571.1 x10).bind fun t575 => (if t575 = true then (laws_FnExactOutageRepair.j2 k bt555.2 bt555.1 (bt571.2 != x11)) else (laws_FnExactOutageRepair.j2 k bt555.2 bt555.1 true)))))))) else (some false)))))
def laws_FnExactOutageRepair.j2 : Nat → List Int → Int → Bool → Option (Bool)
 | 0, _, _, _ => none
 | k + 1, x15, x18, x139 => if x139 = true then (some false) else ((laws_heldIntS.f k x15 1).bind fun t576 => (if t576 < 0 then (some false) else (if t576 = x18 then (some true) else (some false))))
end
def laws_FnExactOutageRepair.f (k : Nat) (l0 : List (S59)) (a1_0 : Int) (l1_1 : List Int) (l2 : List Int) (a3_0 : Int) (a3_1 : Int) (a3_2 : Int) : Option (Bool) := if (l2.length : Int) > 1048576 then (some true) else ((laws_szStepS.f k l0 1048576).bind fun t499 => (if t499 < 0 then (some true) else ((laws_szKitchen.f a1_0 l1_1 t499).bind fun t500 => (if t500 < 0 then (some true) else ((laws_toStepS.f k l0).bind fun t501 => ((laws_toKitchen.f k a1_0 l1_1).bind fun bt504 => ((laws_toIntS.f k l2).bind fun t508 => ((laws_toOutage.f a3_0 a3_1 a3_2).bind fun bt511 => ((spec_OutageRepair.f k t501 bt504.1 bt504.2 t508 bt511.1 bt511.2.1 bt511.2.2).bind fun bt514 => ((laws_toStepS.f k l0).bind fun t518 => ((laws_toKitchen.f k a1_0 l1_1).bind fun bt521 => ((laws_toIntS.f k l2).bind fun t526 => ((laws_toOutage.f a3_0 a3_1 a3_2).bind fun bt529 => ((impl_OutageRepair.f k t518 bt521.1 bt521.2 t526 bt529.1 bt529.2.1 bt529.2.2).bind fun bt532 => ((laws_eqIntS.f k bt532.1 bt514.1).bind fun t536 => (if t536 = true then (laws_FnExactOutageRepair.j0 k l0 l2 bt514.1 bt514.2 t518 t526 bt532.1 bt532.2 (bt532.2 != bt514.2) a1_0 l1_1 a3_0 a3_1 a3_2 bt521.1 bt521.2) else (laws_FnExactOutageRepair.j0 k l0 l2 bt514.1 bt514.2 t518 t526 bt532.1 bt532.2 true a1_0 l1_1 a3_0 a3_1 a3_2 bt521.1 bt521.2)))))))))))))))))
def laws_FnExactOutageRepair.T10 : Bool × List (List Nat × List Nat) := (true, [([], []), ([0], [0]), ([], []), ([2, 1], [2]), ([], []), ([4, 3], [4]), ([], []), ([6, 5], [6]), ([1, 3, 5, 7, 7], [1, 3, 5, 7]), ([8], [8]), ([9], [9]), ([9], [9]), ([10, 8, 0, 1, 2, 3, 4, 5, 6, 7, 8, 9, 10], [10]), ([11, 12, 0, 1, 2, 3, 4, 5, 6, 7, 8, 9, 10, 11, 12], [11])])
def laws_FnExactOutageRepair.B10 : List Nat := [0, 1, 0, 7, 0, 31, 0, 127, 255, 511, 1023, 1023, 2047, 8191]
theorem laws_FnExactOutageRepair.tab10 : rtab .any (opsOf Try.f8 10) = laws_FnExactOutageRepair.T10 := by kernel_rfl
theorem laws_FnExactOutageRepair.bits10 : waitsOk laws_FnExactOutageRepair.T10.2 laws_FnExactOutageRepair.B10 = true := by kernel_rfl
def laws_FnExactOutageRepair.T14 : Bool × List (List Nat × List Nat) := (true, [([], []), ([], []), ([], []), ([], []), ([3], [3]), ([0, 1, 2, 4, 4], [0, 1, 2, 4]), ([5], [5]), ([6], [6]), ([6], [6]), ([7, 5, 0, 1, 2, 3, 4, 5, 6, 7], [7]), ([8, 9, 0, 1, 2, 3, 4, 5, 6, 7, 8, 9], [8])])
def laws_FnExactOutageRepair.B14 : List Nat := [0, 0, 0, 0, 8, 31, 63, 127, 127, 255, 1023]
theorem laws_FnExactOutageRepair.tab14 : rtab .any (opsOf Try.f8 14) = laws_FnExactOutageRepair.T14 := by kernel_rfl
theorem laws_FnExactOutageRepair.bits14 : waitsOk laws_FnExactOutageRepair.T14.2 laws_FnExactOutageRepair.B14 = true := by kernel_rfl
def laws_FnExactOutageRepair.T37 : Bool × List (List Nat × List Nat) := (true, [([], []), ([0], [0]), ([], []), ([2, 1], [2]), ([], []), ([4, 3], [4]), ([], []), ([6, 5], [6]), ([1, 3, 5, 7, 7], [1, 3, 5, 7]), ([8], [8]), ([9], [9]), ([9], [9]), ([10, 8, 0, 1, 2, 3, 4, 5, 6, 7, 8, 9, 10], [10]), ([11, 12, 0, 1, 2, 3, 4, 5, 6, 7, 8, 9, 10, 11, 12], [11])])
def laws_FnExactOutageRepair.B37 : List Nat := [0, 1, 0, 7, 0, 31, 0, 127, 255, 511, 1023, 1023, 2047, 8191]
theorem laws_FnExactOutageRepair.tab37 : rtab .any (opsOf Try.f8 37) = laws_FnExactOutageRepair.T37 := by kernel_rfl
theorem laws_FnExactOutageRepair.bits37 : waitsOk laws_FnExactOutageRepair.T37.2 laws_FnExactOutageRepair.B37 = true := by kernel_rfl
set_option maxHeartbeats 8000000 in
set_option maxRecDepth 100000 in
theorem laws_FnExactOutageRepair.calls (k : Nat) (A0 : Option Addr) (c0 : Nat) (l0 : List (S59)) (a1_0 : Int) (A1_1 : Option Addr) (c1_1 : Nat) (l1_1 : List Int) (A2 : Option Addr) (c2 : Nat) (l2 : List Int) (a3_0 : Int) (a3_1 : Int) (a3_2 : Int) (r : Bool) (w : World) (hr0 : Kd.C k59 w A0 l0.length l0) (hc0 : l0.length ≤ c0) (hr1_1 : Kd.C kI_q w A1_1 l1_1.length l1_1) (hc1_1 : l1_1.length ≤ c1_1) (hr2 : Kd.C kI_q w A2 l2.length l2) (hc2 : l2.length ≤ c2) (h : laws_FnExactOutageRepair.f k l0 a1_0 l1_1 l2 a3_0 a3_1 a3_2 = some r) :
    Calls Try.prog 8 #[.slice A0 l0.length c0, .agg #[.int .i64 a1_0, .slice A1_1 l1_1.length c1_1], .slice A2 l2.length c2, .agg #[.int .i64 a3_0, .int .i64 a3_1, .int .i64 a3_2]] w fun e w' => e = .returned (.bool r) ∧ Below w.heap.size w w' := by
 have hu39 := Try.underlying39
 have hu25 := Try.underlying25
 have hu43 := Try.underlying43
 have HR0 := Ae_q hr0
 have HC0 := Ae_q hc0
 clear hr0 hc0
 have HR1_1 := Ae_q hr1_1
 have HC1_1 := Ae_q hc1_1
 clear hr1_1 hc1_1
 have HR2 := Ae_q hr2
 have HC2 := Ae_q hc2
 clear hr2 hc2
 have HB := Ae_q (bR_q w.heap.size w)
 have H : (if (l2.length : Int) > 1048576 then (some true) else ((laws_szStepS.f k l0 1048576).bind fun t499 => (if t499 < 0 then (some true) else ((laws_szKitchen.f a1_0 l1_1 t499).bind fun t500 => (if t500 < 0 then (some true) else ((laws_toStepS.f k l0).bind fun t501 => ((laws_toKitchen.f k a1_0 l1_1).bind fun bt504 => ((laws_toIntS.f k l2).bind fun t508 => ((laws_toOutage.f a3_0 a3_1 a3_2).bind fun bt511 => ((spec_OutageRepair.f k t501 bt504.1 bt504.2 t508 bt511.1 bt511.2.1 bt511.2.2).bind fun bt514 => ((laws_toStepS.f k l0).bind fun t518 => ((laws_toKitchen.f k a1_0 l1_1).bind fun bt521 => ((laws_toIntS.f k l2).bind fun t526 => ((laws_toOutage.f a3_0 a3_1 a3_2).bind fun bt529 => ((impl_OutageRepair.f k t518 bt521.1 bt521.2 t526 bt529.1 bt529.2.1 bt529.2.2).bind fun bt532 => ((laws_eqIntS.f k bt532.1 bt514.1).bind fun t536 => (if t536 = true then (laws_FnExactOutageRepair.j0 k l0 l2 bt514.1 bt514.2 t518 t526 bt532.1 bt532.2 (bt532.2 != bt514.2) a1_0 l1_1 a3_0 a3_1 a3_2 bt521.1 bt521.2) else (laws_FnExactOutageRepair.j0 k l0 l2 bt514.1 bt514.2 t518 t526 bt532.1 bt532.2 true a1_0 l1_1 a3_0 a3_1 a3_2 bt521.1 bt521.2)))))))))))))))))) = some r := h
 clear h
 by_cases c5 : (l2.length : Int) > 1048576
 ·rw [if_pos c5] at H
  have c5b0 : decide (1048576 < (l2.length : Int)) = true := dT_q c5
  have c5b1 : decide (1048576 < l2.length) = true := dT_q (by omega)
  clear c5
  obtain rfl := oI_q H
  go_enter Try.func8, Try.ntmps8
  go_wp2_with (first | ((first | ((with_reducible refine gD_q (N := 5) rfl ?_); refine bE_q ?hg (N := 5) ?hd (cs := #[.int .i64 a1_0, .slice A1_1 l1_1.length c1_1]) (t := 39) ?hr ?_; (case hd => rfl); (case hg => rfl); (case hr => exact m6_q); intro gb497 hg w' hbox hb; have BK497 := Ae_q (hbox); have GW497 := Ae_q ((by rw [hg]; exact (bZ_q (bel HB.out)) : w.heap.size ≤ gb497)); have GE497 := Ae_q ((by rw [hg]; exact (bZ_q (bel HB.out)) : w.heap.size ≤ gb497)); replace HB := Ae_q (bT_q (bel HB.out) hb)) | ((with_reducible refine gD_q (N := 7) rfl ?_); refine bE_q ?hg (N := 7) ?hd (cs := #[.int .i64 a3_0, .int .i64 a3_1, .int .i64 a3_2]) (t := 25) ?hr ?_; (case hd => rfl); (case hg => rfl); (case hr => exact m6_q); intro gb498 hg w' hbox hb; have BK498 := Ae_q (hbox); have GW498 := Ae_q ((by rw [hg]; exact (bZ_q m21_q) : w.heap.size ≤ gb498)); have GE498 := Ae_q ((by rw [hg]; exact (bZ_q m21_q) : w.heap.size ≤ gb498)); replace HB := Ae_q (bT_q m21_q hb); have NB497_498 := Ae_q ((by rw [hg]; exact nL_q (blk_lt (g := gb497) (o := .cells #[.int .i64 a1_0, .slice A1_1 l1_1.length c1_1] 39 (0, 0)) (bup BK497.out)) : gb497 ≠ gb498)); have NB498_497 := Ae_q ((by rw [hg]; exact nG_q (blk_lt (g := gb497) (o := .cells #[.int .i64 a1_0, .slice A1_1 l1_1.length c1_1] 39 (0, 0)) (bup BK497.out)) : gb498 ≠ gb497)); replace BK497 := Ae_q (bB_q (g := gb497) (o := .cells #[.int .i64 a1_0, .slice A1_1 l1_1.length c1_1] 39 (0, 0)) (bup BK497.out) hb))); clear hb hbox hg))
  go_ret
  exact ⟨m4_q, m8_q⟩
 rw [if_neg c5] at H
 have c5b0 : decide (1048576 < (l2.length : Int)) = false := dF_q c5
 have c5b1 : decide (1048576 < l2.length) = false := dF_q (by omega)
 clear c5
 replace H := oB_q.mp H
 obtain ⟨t499, A80, H⟩ := H
 replace H : (if t499 < 0 then (some true) else ((laws_szKitchen.f a1_0 l1_1 t499).bind fun t500 => (if t500 < 0 then (some true) else ((laws_toStepS.f k l0).bind fun t501 => ((laws_toKitchen.f k a1_0 l1_1).bind fun bt504 => ((laws_toIntS.f k l2).bind fun t508 => ((laws_toOutage.f a3_0 a3_1 a3_2).bind fun bt511 => ((spec_OutageRepair.f k t501 bt504.1 bt504.2 t508 bt511.1 bt511.2.1 bt511.2.2).bind fun bt514 => ((laws_toStepS.f k l0).bind fun t518 => ((laws_toKitchen.f k a1_0 l1_1).bind fun bt521 => ((laws_toIntS.f k l2).bind fun t526 => ((laws_toOutage.f a3_0 a3_1 a3_2).bind fun bt529 => ((impl_OutageRepair.f k t518 bt521.1 bt521.2 t526 bt529.1 bt529.2.1 bt529.2.2).bind fun bt532 => ((laws_eqIntS.f k bt532.1 bt514.1).bind fun t536 => (if t536 = true then (laws_FnExactOutageRepair.j0 k l0 l2 bt514.1 bt514.2 t518 t526 bt532.1 bt532.2 (bt532.2 != bt514.2) a1_0 l1_1 a3_0 a3_1 a3_2 bt521.1 bt521.2) else (laws_FnExactOutageRepair.j0 k l0 l2 bt514.1 bt514.2 t518 t526 bt532.1 bt532.2 true a1_0 l1_1 a3_0 a3_1 a3_2 bt521.1 bt521.2)))))))))))))))) = some r := H
 have A8 := Ae_q A80
 clear A80
 by_cases c9 : t499 < 0
 ·rw [if_pos c9] at H
  have c9b0 : decide (t499 < 0) = true := dT_q c9
  clear c9
  obtain rfl := oI_q H
  go_enter Try.func8, Try.ntmps8
  go_wp2_with (first | ((first | ((with_reducible refine gD_q (N := 5) rfl ?_); refine bE_q ?hg (N := 5) ?hd (cs := #[.int .i64 a1_0, .slice A1_1 l1_1.length c1_1]) (t := 39) ?hr ?_; (case hd => rfl); (case hg => rfl); (case hr => exact m6_q); intro gb497 hg w' hbox hb; have BK497 := Ae_q (hbox); have GW497 := Ae_q ((by rw [hg]; exact (bZ_q (bel HB.out)) : w.heap.size ≤ gb497)); have GE497 := Ae_q ((by rw [hg]; exact (bZ_q (bel HB.out)) : w.heap.size ≤ gb497)); replace HB := Ae_q (bT_q (bel HB.out) hb)) | ((with_reducible refine gD_q (N := 7) rfl ?_); refine bE_q ?hg (N := 7) ?hd (cs := #[.int .i64 a3_0, .int .i64 a3_1, .int .i64 a3_2]) (t := 25) ?hr ?_; (case hd => rfl); (case hg => rfl); (case hr => exact m6_q); intro gb498 hg w' hbox hb; have BK498 := Ae_q (hbox); have GW498 := Ae_q ((by rw [hg]; exact (bZ_q m21_q) : w.heap.size ≤ gb498)); have GE498 := Ae_q ((by rw [hg]; exact (bZ_q m21_q) : w.heap.size ≤ gb498)); replace HB := Ae_q (bT_q m21_q hb); have NB497_498 := Ae_q ((by rw [hg]; exact nL_q (blk_lt (g := gb497) (o := .cells #[.int .i64 a1_0, .slice A1_1 l1_1.length c1_1] 39 (0, 0)) (bup BK497.out)) : gb497 ≠ gb498)); have NB498_497 := Ae_q ((by rw [hg]; exact nG_q (blk_lt (g := gb497) (o := .cells #[.int .i64 a1_0, .slice A1_1 l1_1.length c1_1] 39 (0, 0)) (bup BK497.out)) : gb498 ≠ gb497)); replace BK497 := Ae_q (bB_q (g := gb497) (o := .cells #[.int .i64 a1_0, .slice A1_1 l1_1.length c1_1] 39 (0, 0)) (bup BK497.out) hb))); clear hb hbox hg) | ((with_reducible refine gC_q (f := 10) rfl ?_); refine gL_q (some 27) rfl rfl Try.func10 m7_q rfl #[.slice A0 l0.length c0, .int .i64 1048576] rfl m1_q ?_; (with_reducible refine (laws_szStepS.calls k _ _ l0 1048576 t499 _ ?side1 ?side2 A8.out).mono ?_); (case side1 => exact m20_q); (case side2 => exact m57_q); rintro e w' ⟨rfl, hb⟩; refine ⟨_, rfl, ?_⟩; replace BK497 := Ae_q (bB_q (g := gb497) (o := .cells #[.int .i64 a1_0, .slice A1_1 l1_1.length c1_1] 39 (0, 0)) (bup BK497.out) hb); replace BK498 := Ae_q (bB_q (g := gb498) (o := .cells #[.int .i64 a3_0, .int .i64 a3_1, .int .i64 a3_2] 25 (0, 0)) (bup BK498.out) hb); replace HB := Ae_q (bT_q m8_q hb); (try clear hb); (try clear hb2); (try clear hk); (try clear hi)))
  go_ret
  exact ⟨m4_q, m8_q⟩
 rw [if_neg c9] at H
 have c9b0 : decide (t499 < 0) = false := dF_q c9
 clear c9
 replace H := oB_q.mp H
 obtain ⟨t500, A130, H⟩ := H
 replace H : (if t500 < 0 then (some true) else ((laws_toStepS.f k l0).bind fun t501 => ((laws_toKitchen.f k a1_0 l1_1).bind fun bt504 => ((laws_toIntS.f k l2).bind fun t508 => ((laws_toOutage.f a3_0 a3_1 a3_2).bind fun bt511 => ((spec_OutageRepair.f k t501 bt504.1 bt504.2 t508 bt511.1 bt511.2.1 bt511.2.2).bind fun bt514 => ((laws_toStepS.f k l0).bind fun t518 => ((laws_toKitchen.f k a1_0 l1_1).bind fun bt521 => ((laws_toIntS.f k l2).bind fun t526 => ((laws_toOutage.f a3_0 a3_1 a3_2).bind fun bt529 => ((impl_OutageRepair.f k t518 bt521.1 bt521.2 t526 bt529.1 bt529.2.1 bt529.2.2).bind fun bt532 => ((laws_eqIntS.f k bt532.1 bt514.1).bind fun t536 => (if t536 = true then (laws_FnExactOutageRepair.j0 k l0 l2 bt514.1 bt514.2 t518 t526 bt532.1 bt532.2 (bt532.2 != bt514.2) a1_0 l1_1 a3_0 a3_1 a3_2 bt521.1 bt521.2) else (laws_FnExactOutageRepair.j0 k l0 l2 bt514.1 bt514.2 t518 t526 bt532.1 bt532.2 true a1_0 l1_1 a3_0 a3_1 a3_2 bt521.1 bt521.2)))))))))))))) = some r := H
 have A13 := Ae_q A130
 clear A130
 by_cases c14 : t500 < 0
 ·rw [if_pos c14] at H
  have c14b0 : decide (t500 < 0) = true := dT_q c14
  clear c14
  obtain rfl := oI_q H
  go_enter Try.func8, Try.ntmps8
  go_wp2_with (first | ((first | ((with_reducible refine gD_q (N := 5) rfl ?_); refine bE_q ?hg (N := 5) ?hd (cs := #[.int .i64 a1_0, .slice A1_1 l1_1.length c1_1]) (t := 39) ?hr ?_; (case hd => rfl); (case hg => rfl); (case hr => exact m6_q); intro gb497 hg w' hbox hb; have BK497 := Ae_q (hbox); have GW497 := Ae_q ((by rw [hg]; exact (bZ_q (bel HB.out)) : w.heap.size ≤ gb497)); have GE497 := Ae_q ((by rw [hg]; exact (bZ_q (bel HB.out)) : w.heap.size ≤ gb497)); replace HB := Ae_q (bT_q (bel HB.out) hb)) | ((with_reducible refine gD_q (N := 7) rfl ?_); refine bE_q ?hg (N := 7) ?hd (cs := #[.int .i64 a3_0, .int .i64 a3_1, .int .i64 a3_2]) (t := 25) ?hr ?_; (case hd => rfl); (case hg => rfl); (case hr => exact m6_q); intro gb498 hg w' hbox hb; have BK498 := Ae_q (hbox); have GW498 := Ae_q ((by rw [hg]; exact (bZ_q m21_q) : w.heap.size ≤ gb498)); have GE498 := Ae_q ((by rw [hg]; exact (bZ_q m21_q) : w.heap.size ≤ gb498)); replace HB := Ae_q (bT_q m21_q hb); have NB497_498 := Ae_q ((by rw [hg]; exact nL_q (blk_lt (g := gb497) (o := .cells #[.int .i64 a1_0, .slice A1_1 l1_1.length c1_1] 39 (0, 0)) (bup BK497.out)) : gb497 ≠ gb498)); have NB498_497 := Ae_q ((by rw [hg]; exact nG_q (blk_lt (g := gb497) (o := .cells #[.int .i64 a1_0, .slice A1_1 l1_1.length c1_1] 39 (0, 0)) (bup BK497.out)) : gb498 ≠ gb497)); replace BK497 := Ae_q (bB_q (g := gb497) (o := .cells #[.int .i64 a1_0, .slice A1_1 l1_1.length c1_1] 39 (0, 0)) (bup BK497.out) hb))); clear hb hbox hg) | ((with_reducible refine gC_q (f := 10) rfl ?_); refine gL_q (some 27) rfl rfl Try.func10 m7_q rfl #[.slice A0 l0.length c0, .int .i64 1048576] rfl m1_q ?_; (with_reducible refine (laws_szStepS.calls k _ _ l0 1048576 t499 _ ?side1 ?side2 A8.out).mono ?_); (case side1 => exact m20_q); (case side2 => exact m57_q); rintro e w17 ⟨rfl, hb⟩; refine ⟨_, rfl, ?_⟩; replace BK497 := Ae_q (bB_q (g := gb497) (o := .cells #[.int .i64 a1_0, .slice A1_1 l1_1.length c1_1] 39 (0, 0)) (bup BK497.out) hb); replace BK498 := Ae_q (bB_q (g := gb498) (o := .cells #[.int .i64 a3_0, .int .i64 a3_1, .int .i64 a3_2] 25 (0, 0)) (bup BK498.out) hb); replace HB := Ae_q (bT_q m8_q hb); (try clear hb); (try clear hb2); (try clear hk); (try clear hi); have hnb18 := NB497_498.out; have hnc18 := NB498_497.out; have hcz19_0 : cI w17 gb497 0 a1_0 := cZ BK497 0 rfl; have hcz19_1 : w17.cell? ⟨gb497, 1, none⟩ = some (.slice A1_1 l1_1.length c1_1) := (bC_q BK497.out 1).trans rfl; have hfz19_0 := bF_q BK497.out 0; have hfz19_1 := bF_q BK497.out 1) | ((with_reducible refine gC_q (f := 21) rfl ?_); refine gL_q (some 32) rfl rfl Try.func21 m7_q rfl #[.agg #[.int .i64 a1_0, .slice A1_1 l1_1.length c1_1], .int .i64 t499] rfl m1_q ?_; (with_reducible refine (laws_szKitchen.calls a1_0 _ _ l1_1 t499 t500 _ ?side1 ?side2 A13.out).mono ?_); (case side1 => exact m32_q); (case side2 => exact m64_q); rintro e w' ⟨rfl, hb⟩; refine ⟨_, rfl, ?_⟩; replace BK497 := Ae_q (bB_q (g := gb497) (o := .cells #[.int .i64 a1_0, .slice A1_1 l1_1.length c1_1] 39 (0, 0)) (bup BK497.out) hb); replace BK498 := Ae_q (bB_q (g := gb498) (o := .cells #[.int .i64 a3_0, .int .i64 a3_1, .int .i64 a3_2] 25 (0, 0)) (bup BK498.out) hb); replace HB := Ae_q (bT_q m8_q hb); (try clear hb); (try clear hb2); (try clear hk); (try clear hi)))
  go_ret
  exact ⟨m4_q, m8_q⟩
 rw [if_neg c14] at H
 have c14b0 : decide (t500 < 0) = false := dF_q c14
 clear c14
 replace H := oB_q.mp H
 obtain ⟨t501, A210, H⟩ := H
 replace H : ((laws_toKitchen.f k a1_0 l1_1).bind fun bt504 => ((laws_toIntS.f k l2).bind fun t508 => ((laws_toOutage.f a3_0 a3_1 a3_2).bind fun bt511 => ((spec_OutageRepair.f k t501 bt504.1 bt504.2 t508 bt511.1 bt511.2.1 bt511.2.2).bind fun bt514 => ((laws_toStepS.f k l0).bind fun t518 => ((laws_toKitchen.f k a1_0 l1_1).bind fun bt521 => ((laws_toIntS.f k l2).bind fun t526 => ((laws_toOutage.f a3_0 a3_1 a3_2).bind fun bt529 => ((impl_OutageRepair.f k t518 bt521.1 bt521.2 t526 bt529.1 bt529.2.1 bt529.2.2).bind fun bt532 => ((laws_eqIntS.f k bt532.1 bt514.1).bind fun t536 => (if t536 = true then (laws_FnExactOutageRepair.j0 k l0 l2 bt514.1 bt514.2 t518 t526 bt532.1 bt532.2 (bt532.2 != bt514.2) a1_0 l1_1 a3_0 a3_1 a3_2 bt521.1 bt521.2) else (laws_FnExactOutageRepair.j0 k l0 l2 bt514.1 bt514.2 t518 t526 bt532.1 bt532.2 true a1_0 l1_1 a3_0 a3_1 a3_2 bt521.1 bt521.2)))))))))))) = some r := H
 have A21 := Ae_q A210
 clear A210
 replace H := oB_q.mp H
 obtain ⟨⟨t504, t505⟩, A220, H⟩ := H
 replace H : ((laws_toIntS.f k l2).bind fun t508 => ((laws_toOutage.f a3_0 a3_1 a3_2).bind fun bt511 => ((spec_OutageRepair.f k t501 t504 t505 t508 bt511.1 bt511.2.1 bt511.2.2).bind fun bt514 => ((laws_toStepS.f k l0).bind fun t518 => ((laws_toKitchen.f k a1_0 l1_1).bind fun bt521 => ((laws_toIntS.f k l2).bind fun t526 => ((laws_toOutage.f a3_0 a3_1 a3_2).bind fun bt529 => ((impl_OutageRepair.f k t518 bt521.1 bt521.2 t526 bt529.1 bt529.2.1 bt529.2.2).bind fun bt532 => ((laws_eqIntS.f k bt532.1 bt514.1).bind fun t536 => (if t536 = true then (laws_FnExactOutageRepair.j0 k l0 l2 bt514.1 bt514.2 t518 t526 bt532.1 bt532.2 (bt532.2 != bt514.2) a1_0 l1_1 a3_0 a3_1 a3_2 bt521.1 bt521.2) else (laws_FnExactOutageRepair.j0 k l0 l2 bt514.1 bt514.2 t518 t526 bt532.1 bt532.2 true a1_0 l1_1 a3_0 a3_1 a3_2 bt521.1 bt521.2))))))))))) = some r := H
 have A22 := Ae_q A220
 clear A220
 replace H := oB_q.mp H
 obtain ⟨t508, A230, H⟩ := H
 replace H : ((laws_toOutage.f a3_0 a3_1 a3_2).bind fun bt511 => ((spec_OutageRepair.f k t501 t504 t505 t508 bt511.1 bt511.2.1 bt511.2.2).bind fun bt514 => ((laws_toStepS.f k l0).bind fun t518 => ((laws_toKitchen.f k a1_0 l1_1).bind fun bt521 => ((laws_toIntS.f k l2).bind fun t526 => ((laws_toOutage.f a3_0 a3_1 a3_2).bind fun bt529 => ((impl_OutageRepair.f k t518 bt521.1 bt521.2 t526 bt529.1 bt529.2.1 bt529.2.2).bind fun bt532 => ((laws_eqIntS.f k bt532.1 bt514.1).bind fun t536 => (if t536 = true then (laws_FnExactOutageRepair.j0 k l0 l2 bt514.1 bt514.2 t518 t526 bt532.1 bt532.2 (bt532.2 != bt514.2) a1_0 l1_1 a3_0 a3_1 a3_2 bt521.1 bt521.2) else (laws_FnExactOutageRepair.j0 k l0 l2 bt514.1 bt514.2 t518 t526 bt532.1 bt532.2 true a1_0 l1_1 a3_0 a3_1 a3_2 bt521.1 bt521.2)))))))))) = some r := H
 have A23 := Ae_q A230
 clear A230
 replace H := oB_q.mp H
 obtain ⟨⟨t511, t512, t513⟩, A240, H⟩ := H
 replace H : ((spec_OutageRepair.f k t501 t504 t505 t508 t511 t512 t513).bind fun bt514 => ((laws_toStepS.f k l0).bind fun t518 => ((laws_toKitchen.f k a1_0 l1_1).bind fun bt521 => ((laws_toIntS.f k l2).bind fun t526 => ((laws_toOutage.f a3_0 a3_1 a3_2).bind fun bt529 => ((impl_OutageRepair.f k t518 bt521.1 bt521.2 t526 bt529.1 bt529.2.1 bt529.2.2).bind fun bt532 => ((laws_eqIntS.f k bt532.1 bt514.1).bind fun t536 => (if t536 = true then (laws_FnExactOutageRepair.j0 k l0 l2 bt514.1 bt514.2 t518 t526 bt532.1 bt532.2 (bt532.2 != bt514.2) a1_0 l1_1 a3_0 a3_1 a3_2 bt521.1 bt521.2) else (laws_FnExactOutageRepair.j0 k l0 l2 bt514.1 bt514.2 t518 t526 bt532.1 bt532.2 true a1_0 l1_1 a3_0 a3_1 a3_2 bt521.1 bt521.2))))))))) = some r := H
 have A24 := Ae_q A240
 clear A240
 replace H := oB_q.mp H
 obtain ⟨⟨t514, t517⟩, A250, H⟩ := H
 replace H : ((laws_toStepS.f k l0).bind fun t518 => ((laws_toKitchen.f k a1_0 l1_1).bind fun bt521 => ((laws_toIntS.f k l2).bind fun t526 => ((laws_toOutage.f a3_0 a3_1 a3_2).bind fun bt529 => ((impl_OutageRepair.f k t518 bt521.1 bt521.2 t526 bt529.1 bt529.2.1 bt529.2.2).bind fun bt532 => ((laws_eqIntS.f k bt532.1 t514).bind fun t536 => (if t536 = true then (laws_FnExactOutageRepair.j0 k l0 l2 t514 t517 t518 t526 bt532.1 bt532.2 (bt532.2 != t517) a1_0 l1_1 a3_0 a3_1 a3_2 bt521.1 bt521.2) else (laws_FnExactOutageRepair.j0 k l0 l2 t514 t517 t518 t526 bt532.1 bt532.2 true a1_0 l1_1 a3_0 a3_1 a3_2 bt521.1 bt521.2)))))))) = some r := H
 have A25 := Ae_q A250
 clear A250
 replace H := oB_q.mp H
 obtain ⟨t518, A260, H⟩ := H
 replace H : ((laws_toKitchen.f k a1_0 l1_1).bind fun bt521 => ((laws_toIntS.f k l2).bind fun t526 => ((laws_toOutage.f a3_0 a3_1 a3_2).bind fun bt529 => ((impl_OutageRepair.f k t518 bt521.1 bt521.2 t526 bt529.1 bt529.2.1 bt529.2.2).bind fun bt532 => ((laws_eqIntS.f k bt532.1 t514).bind fun t536 => (if t536 = true then (laws_FnExactOutageRepair.j0 k l0 l2 t514 t517 t518 t526 bt532.1 bt532.2 (bt532.2 != t517) a1_0 l1_1 a3_0 a3_1 a3_2 bt521.1 bt521.2) else (laws_FnExactOutageRepair.j0 k l0 l2 t514 t517 t518 t526 bt532.1 bt532.2 true a1_0 l1_1 a3_0 a3_1 a3_2 bt521.1 bt521.2))))))) = some r := H
 have A26 := Ae_q A260
 clear A260
 replace H := oB_q.mp H
 obtain ⟨⟨t521, t522⟩, A270, H⟩ := H
 replace H : ((laws_toIntS.f k l2).bind fun t526 => ((laws_toOutage.f a3_0 a3_1 a3_2).bind fun bt529 => ((impl_OutageRepair.f k t518 t521 t522 t526 bt529.1 bt529.2.1 bt529.2.2).bind fun bt532 => ((laws_eqIntS.f k bt532.1 t514).bind fun t536 => (if t536 = true then (laws_FnExactOutageRepair.j0 k l0 l2 t514 t517 t518 t526 bt532.1 bt532.2 (bt532.2 != t517) a1_0 l1_1 a3_0 a3_1 a3_2 t521 t522) else (laws_FnExactOutageRepair.j0 k l0 l2 t514 t517 t518 t526 bt532.1 bt532.2 true a1_0 l1_1 a3_0 a3_1 a3_2 t521 t522)))))) = some r := H
 have A27 := Ae_q A270
 clear A270
 replace H := oB_q.mp H
 obtain ⟨t526, A280, H⟩ := H
 replace H : ((laws_toOutage.f a3_0 a3_1 a3_2).bind fun bt529 => ((impl_OutageRepair.f k t518 t521 t522 t526 bt529.1 bt529.2.1 bt529.2.2).bind fun bt532 => ((laws_eqIntS.f k bt532.1 t514).bind fun t536 => (if t536 = true then (laws_FnExactOutageRepair.j0 k l0 l2 t514 t517 t518 t526 bt532.1 bt532.2 (bt532.2 != t517) a1_0 l1_1 a3_0 a3_1 a3_2 t521 t522) else (laws_FnExactOutageRepair.j0 k l0 l2 t514 t517 t518 t526 bt532.1 bt532.2 true a1_0 l1_1 a3_0 a3_1 a3_2 t521 t522))))) = some r := H
 have A28 := Ae_q A280
 clear A280
 replace H := oB_q.mp H
 obtain ⟨⟨t529, t530, t531⟩, A290, H⟩ := H
 replace H : ((impl_OutageRepair.f k t518 t521 t522 t526 t529 t530 t531).bind fun bt532 => ((laws_eqIntS.f k bt532.1 t514).bind fun t536 => (if t536 = true then (laws_FnExactOutageRepair.j0 k l0 l2 t514 t517 t518 t526 bt532.1 bt532.2 (bt532.2 != t517) a1_0 l1_1 a3_0 a3_1 a3_2 t521 t522) else (laws_FnExactOutageRepair.j0 k l0 l2 t514 t517 t518 t526 bt532.1 bt532.2 true a1_0 l1_1 a3_0 a3_1 a3_2 t521 t522)))) = some r := H
 have A29 := Ae_q A290
 clear A290
 replace H := oB_q.mp H
 obtain ⟨⟨t532, t535⟩, A300, H⟩ := H
 replace H : ((laws_eqIntS.f k t532 t514).bind fun t536 => (if t536 = true then (laws_FnExactOutageRepair.j0 k l0 l2 t514 t517 t518 t526 t532 t535 (t535 != t517) a1_0 l1_1 a3_0 a3_1 a3_2 t521 t522) else (laws_FnExactOutageRepair.j0 k l0 l2 t514 t517 t518 t526 t532 t535 true a1_0 l1_1 a3_0 a3_1 a3_2 t521 t522))) = some r := H
 have A30 := Ae_q A300
 clear A300
 have HC31 := Ae_q H
 clear H
 go_enter Try.func8, Try.ntmps8
 try go_wp2_with (first | ((first | ((with_reducible refine gD_q (N := 5) rfl ?_); refine bE_q ?hg (N := 5) ?hd (cs := #[.int .i64 a1_0, .slice A1_1 l1_1.length c1_1]) (t := 39) ?hr ?_; (case hd => rfl); (case hg => rfl); (case hr => exact m6_q); intro gb497 hg w' hbox hb; have BK497 := Ae_q (hbox); have GW497 := Ae_q ((by rw [hg]; exact (bZ_q (bel HB.out)) : w.heap.size ≤ gb497)); have GE497 := Ae_q ((by rw [hg]; exact (bZ_q (bel HB.out)) : w.heap.size ≤ gb497)); replace HB := Ae_q (bT_q (bel HB.out) hb)) | ((with_reducible refine gD_q (N := 7) rfl ?_); refine bE_q ?hg (N := 7) ?hd (cs := #[.int .i64 a3_0, .int .i64 a3_1, .int .i64 a3_2]) (t := 25) ?hr ?_; (case hd => rfl); (case hg => rfl); (case hr => exact m6_q); intro gb498 hg w' hbox hb; have BK498 := Ae_q (hbox); have GW498 := Ae_q ((by rw [hg]; exact (bZ_q m21_q) : w.heap.size ≤ gb498)); have GE498 := Ae_q ((by rw [hg]; exact (bZ_q m21_q) : w.heap.size ≤ gb498)); replace HB := Ae_q (bT_q m21_q hb); have NB497_498 := Ae_q ((by rw [hg]; exact nL_q (blk_lt (g := gb497) (o := .cells #[.int .i64 a1_0, .slice A1_1 l1_1.length c1_1] 39 (0, 0)) (bup BK497.out)) : gb497 ≠ gb498)); have NB498_497 := Ae_q ((by rw [hg]; exact nG_q (blk_lt (g := gb497) (o := .cells #[.int .i64 a1_0, .slice A1_1 l1_1.length c1_1] 39 (0, 0)) (bup BK497.out)) : gb498 ≠ gb497)); replace BK497 := Ae_q (bB_q (g := gb497) (o := .cells #[.int .i64 a1_0, .slice A1_1 l1_1.length c1_1] 39 (0, 0)) (bup BK497.out) hb))); clear hb hbox hg) | ((with_reducible refine gC_q (f := 10) rfl ?_); refine gL_q (some 27) rfl rfl Try.func10 m7_q rfl #[.slice A0 l0.length c0, .int .i64 1048576] rfl m1_q ?_; (with_reducible refine (laws_szStepS.calls k _ _ l0 1048576 t499 _ ?side1 ?side2 A8.out).mono ?_); (case side1 => exact m20_q); (case side2 => exact m57_q); rintro e w34 ⟨rfl, hb⟩; refine ⟨_, rfl, ?_⟩; replace BK497 := Ae_q (bB_q (g := gb497) (o := .cells #[.int .i64 a1_0, .slice A1_1 l1_1.length c1_1] 39 (0, 0)) (bup BK497.out) hb); replace BK498 := Ae_q (bB_q (g := gb498) (o := .cells #[.int .i64 a3_0, .int .i64 a3_1, .int .i64 a3_2] 25 (0, 0)) (bup BK498.out) hb); replace HB := Ae_q (bT_q m8_q hb); (try clear hb); (try clear hb2); (try clear hk); (try clear hi); have hnb35 := NB497_498.out; have hnc35 := NB498_497.out; have hcz36_0 : cI w34 gb497 0 a1_0 := cZ BK497 0 rfl; have hcz36_1 : w34.cell? ⟨gb497, 1, none⟩ = some (.slice A1_1 l1_1.length c1_1) := (bC_q BK497.out 1).trans rfl; have hfz36_0 := bF_q BK497.out 0; have hfz36_1 := bF_q BK497.out 1) | ((with_reducible refine gC_q (f := 21) rfl ?_); refine gL_q (some 32) rfl rfl Try.func21 m7_q rfl #[.agg #[.int .i64 a1_0, .slice A1_1 l1_1.length c1_1], .int .i64 t499] rfl m1_q ?_; (with_reducible refine (laws_szKitchen.calls a1_0 _ _ l1_1 t499 t500 _ ?side1 ?side2 A13.out).mono ?_); (case side1 => exact m32_q); (case side2 => exact m64_q); rintro e w37 ⟨rfl, hb⟩; refine ⟨_, rfl, ?_⟩; replace BK497 := Ae_q (bB_q (g := gb497) (o := .cells #[.int .i64 a1_0, .slice A1_1 l1_1.length c1_1] 39 (0, 0)) (bup BK497.out) hb); replace BK498 := Ae_q (bB_q (g := gb498) (o := .cells #[.int .i64 a3_0, .int .i64 a3_1, .int .i64 a3_2] 25 (0, 0)) (bup BK498.out) hb); replace HB := Ae_q (bT_q m8_q hb); (try clear hb); (try clear hb2); (try clear hk); (try clear hi)))
 replace BK497 := Ae_q (bW_q BK497.out)
 replace BK498 := Ae_q (bW_q BK498.out)
 replace HB := Ae_q (bD_q HB.out)
 refine start_ (n := 14) (S := fun w' => w'.cell? ⟨gb497, 0, none⟩ = some (.int .i64 a1_0) ∧ w'.cell? ⟨gb497, 1, none⟩ = some (.slice A1_1 l1_1.length c1_1) ∧ w'.cell? ⟨gb498, 0, none⟩ = some (.int .i64 a3_0) ∧ w'.cell? ⟨gb498, 1, none⟩ = some (.int .i64 a3_1) ∧ w'.cell? ⟨gb498, 2, none⟩ = some (.int .i64 a3_2)) (ds := []) #[false, false, false, false, false, false, false, false, false, false, false, false, false, false] m7_q rfl rfl ⟨(bC_q BK497.out 0).trans rfl, (bC_q BK497.out 1).trans rfl, (bC_q BK498.out 0).trans rfl, (bC_q BK498.out 1).trans rfl, (bC_q BK498.out 2).trans rfl⟩ (fun hHeld => ?_); refine with_tabW laws_FnExactOutageRepair.tab10 laws_FnExactOutageRepair.bits10 (fun HT_ HW_ => ?_)
 generalize w37.drew = w38 at BK497 BK498 HB hHeld ⊢
 refine pJ HT_ 0 36 rfl rfl ?_
 refine pJ HT_ 4 40 rfl rfl ?_
 refine take_ (i := 2) (N := some 38) (v := ?_) (a' := ?_) #[true, false, true, false, true, false, false, false, false, false, false, false, false, false] rfl rfl (take_ofW HT_.out HW_.out m7_q) (fun _ _ _ h => h) (Or.inl ⟨by rfl, ?_⟩) hHeld ?_ ?_
 rotate_left
 ·rintro w' ⟨s0, s1, s2, s3, s4⟩
  go_simp
  with_reducible rfl
 rotate_left
 ·simp only [pS_q]
  rfl
 refine take_ (i := 6) (N := some 42) (v := ?_) (a' := ?_) #[true, false, true, false, true, false, true, false, false, false, false, false, false, false] rfl rfl (take_ofW HT_.out HW_.out m7_q) (fun _ _ _ h => h) (Or.inl ⟨by rfl, ?_⟩) hHeld ?_ ?_
 rotate_left
 ·rintro w' ⟨s0, s1, s2, s3, s4⟩
  go_simp
  with_reducible rfl
 rotate_left
 ·simp only [pS_q]
  rfl
 refine one_ (i := 1) (N := some 37) #[true, true, true, false, true, false, true, false, false, false, false, false, false, false] rfl rfl (one_of HT_.out m7_q) (by decide) (fun K hK => ?_)
 refine goes_ Try.func12 m7_q rfl #[.slice A0 l0.length c0] (by rfl) rfl rfl m1_q ?_
 with_reducible refine (laws_toStepS.calls k _ _ l0 t501 _ ?side1 ?side2 A21.out).mono ?_
 (case side1 => exact m20_q)
 (case side2 => exact m57_q)
 rintro e w' ⟨v502, rfl, ho0, hb⟩
 refine ⟨_, rfl, ?_⟩
 have HO503 := Ae_q (Kd.S_lower ho0 (bZ_q m8_q))
 replace BK497 := Ae_q (bB_q (g := gb497) (o := .cells #[.int .i64 a1_0, .slice A1_1 l1_1.length c1_1] 39 (0, 0)) (bup BK497.out) hb)
 replace BK498 := Ae_q (bB_q (g := gb498) (o := .cells #[.int .i64 a3_0, .int .i64 a3_1, .int .i64 a3_2] 25 (0, 0)) (bup BK498.out) hb)
 replace HB := Ae_q (bT_q m8_q hb)
 (try clear hb)
 (try clear hb2)
 (try clear hk)
 (try clear hi)
 (try clear ho0)
 refine hK.out _ _ ⟨(bC_q BK497.out 0).trans rfl, (bC_q BK497.out 1).trans rfl, (bC_q BK498.out 0).trans rfl, (bC_q BK498.out 1).trans rfl, (bC_q BK498.out 2).trans rfl⟩ (fun hHeld => ?_)
 clear hK K
 refine nJ_q ?_
 refine one_ (i := 3) (N := some 39) #[true, true, true, true, true, false, true, false, false, false, false, false, false, false] rfl rfl (one_of HT_.out m7_q) (by decide) (fun K hK => ?_)
 refine goes_ Try.func23 m7_q rfl #[.agg #[.int .i64 a1_0, .slice A1_1 l1_1.length c1_1]] (by rfl) rfl rfl m1_q ?_
 with_reducible refine (laws_toKitchen.calls k a1_0 _ _ l1_1 t504 t505 _ ?side1 ?side2 A22.out).mono ?_
 (case side1 => exact m32_q)
 (case side2 => exact m64_q)
 rintro e w' ⟨v506, rfl, ho0, hb⟩
 refine ⟨_, rfl, ?_⟩
 replace HO503 := Ae_q (Kd.S_elder' m43_q (rB_q ho0) hb)
 have HO507 := Ae_q (rL_q ho0 (bZ_q m8_q))
 replace BK497 := Ae_q (bB_q (g := gb497) (o := .cells #[.int .i64 a1_0, .slice A1_1 l1_1.length c1_1] 39 (0, 0)) (bup BK497.out) hb)
 replace BK498 := Ae_q (bB_q (g := gb498) (o := .cells #[.int .i64 a3_0, .int .i64 a3_1, .int .i64 a3_2] 25 (0, 0)) (bup BK498.out) hb)
 replace HB := Ae_q (bT_q m8_q hb)
 (try clear hb)
 (try clear hb2)
 (try clear hk)
 (try clear hi)
 (try clear ho0)
 refine hK.out _ _ ⟨(bC_q BK497.out 0).trans rfl, (bC_q BK497.out 1).trans rfl, (bC_q BK498.out 0).trans rfl, (bC_q BK498.out 1).trans rfl, (bC_q BK498.out 2).trans rfl⟩ (fun hHeld => ?_)
 clear hK K
 refine nJ_q ?_
 refine one_ (i := 5) (N := some 41) #[true, true, true, true, true, true, true, false, false, false, false, false, false, false] rfl rfl (one_of HT_.out m7_q) (by decide) (fun K hK => ?_)
 refine goes_ Try.func13 m7_q rfl #[.slice A2 l2.length c2] (by rfl) rfl rfl m1_q ?_
 with_reducible refine (laws_toIntS.calls k _ _ l2 t508 _ ?side1 ?side2 A23.out).mono ?_
 (case side1 => exact m28_q)
 (case side2 => exact m63_q)
 rintro e w' ⟨v509, rfl, ho0, hb⟩
 refine ⟨_, rfl, ?_⟩
 replace HO503 := Ae_q (Kd.S_elder' m43_q (rB_q ho0) hb)
 have HO510 := Ae_q (rL_q (rW_q ho0 (rT_q (rup HO507.out))) (bZ_q m8_q))
 replace HO507 := Ae_q (rE_q (rup HO507.out) (rB_q ho0) hb)
 replace BK497 := Ae_q (bB_q (g := gb497) (o := .cells #[.int .i64 a1_0, .slice A1_1 l1_1.length c1_1] 39 (0, 0)) (bup BK497.out) hb)
 replace BK498 := Ae_q (bB_q (g := gb498) (o := .cells #[.int .i64 a3_0, .int .i64 a3_1, .int .i64 a3_2] 25 (0, 0)) (bup BK498.out) hb)
 replace HB := Ae_q (bT_q m8_q hb)
 (try clear hb)
 (try clear hb2)
 (try clear hk)
 (try clear hi)
 (try clear ho0)
 refine hK.out _ _ ⟨(bC_q BK497.out 0).trans rfl, (bC_q BK497.out 1).trans rfl, (bC_q BK498.out 0).trans rfl, (bC_q BK498.out 1).trans rfl, (bC_q BK498.out 2).trans rfl⟩ (fun hHeld => ?_)
 clear hK K
 refine nJ_q ?_
 refine one_ (i := 7) (N := some 43) #[true, true, true, true, true, true, true, true, false, false, false, false, false, false] rfl rfl (one_of HT_.out m7_q) (by decide) (fun K hK => ?_)
 refine goes_ Try.func14 m7_q rfl #[.agg #[.int .i64 a3_0, .int .i64 a3_1, .int .i64 a3_2]] (by rfl) rfl rfl m1_q ?_
 with_reducible refine (laws_toOutage.calls a3_0 a3_1 a3_2 t511 t512 t513 _ A24.out).mono ?_
 rintro e w' ⟨rfl, hb⟩
 refine ⟨_, rfl, ?_⟩
 replace HO503 := Ae_q (Kd.S_below m43_q hb)
 replace HO507 := Ae_q (rO_q (rup HO507.out) hb)
 replace HO510 := Ae_q (rO_q (rup HO510.out) hb)
 replace BK497 := Ae_q (bB_q (g := gb497) (o := .cells #[.int .i64 a1_0, .slice A1_1 l1_1.length c1_1] 39 (0, 0)) (bup BK497.out) hb)
 replace BK498 := Ae_q (bB_q (g := gb498) (o := .cells #[.int .i64 a3_0, .int .i64 a3_1, .int .i64 a3_2] 25 (0, 0)) (bup BK498.out) hb)
 replace HB := Ae_q (bT_q m8_q hb)
 (try clear hb)
 (try clear hb2)
 (try clear hk)
 (try clear hi)
 obtain ⟨Ao43, co43, eo43⟩ := Kd.S_slice HO503.out
 (first | subst eo43 | (injection eo43 with f1_ f2_ f3_; have f4_ := f1_.symm; have f5_ := f3_.symm; clear f1_ f2_ f3_; subst f4_; subst f5_))
 obtain ⟨Ao44, co44, eo44⟩ := rS_q HO507.out
 (first | subst eo44 | (injection eo44 with f1_ f2_ f3_; have f4_ := f1_.symm; have f5_ := f3_.symm; clear f1_ f2_ f3_; subst f4_; subst f5_))
 obtain ⟨Ao45, co45, eo45⟩ := rS_q HO510.out
 (first | subst eo45 | (injection eo45 with f1_ f2_ f3_; have f4_ := f1_.symm; have f5_ := f3_.symm; clear f1_ f2_ f3_; subst f4_; subst f5_))
 refine hK.out _ _ ⟨(bC_q BK497.out 0).trans rfl, (bC_q BK497.out 1).trans rfl, (bC_q BK498.out 0).trans rfl, (bC_q BK498.out 1).trans rfl, (bC_q BK498.out 2).trans rfl⟩ (fun hHeld => ?_)
 clear hK K
 refine nJ_q ?_
 refine one_ (i := 8) (N := some 44) #[true, true, true, true, true, true, true, true, true, false, false, false, false, false] rfl rfl (one_of HT_.out m7_q) (by decide) (fun K hK => ?_)
 refine goes_ Try.func29 m7_q rfl #[.slice Ao43 t501.length co43, .agg #[.int .i64 t504, .slice Ao44 t505.length co44], .slice Ao45 t508.length co45, .agg #[.int .i64 t511, .int .i64 t512, .int .i64 t513]] (by rfl) rfl rfl m1_q ?_
 with_reducible refine (spec_OutageRepair.calls k _ _ t501 t504 _ _ t505 _ _ t508 t511 t512 t513 t514 t517 _ ?side1 ?side2 ?side3 ?side4 ?side5 ?side6 A25.out).mono ?_
 (case side1 => repeat (first | exact (Kd.S_reads' HO503.out).2.2 | (with_reducible refine cA_q ?_ _) | (with_reducible refine cN_q ?_ _) | (with_reducible refine cD_q ?_)))
 (case side2 => exact (Kd.S_reads' HO503.out).2.1)
 (case side3 => exact cup (rR_q HO507.out).2.2)
 (case side4 => exact (rR_q HO507.out).2.1)
 (case side5 => exact cup (rR_q HO510.out).2.2)
 (case side6 => exact (rR_q HO510.out).2.1)
 rintro e w' ⟨v515, rfl, ho0, hb⟩
 refine ⟨_, rfl, ?_⟩
 replace HO503 := Ae_q (Kd.S_elder' m43_q (rB_q ho0) hb)
 have HO516 := Ae_q (rL_q (rW_q (rW_q ho0 (rT_q (rup HO507.out))) (rT_q (rup HO510.out))) (bZ_q m8_q))
 replace HO507 := Ae_q (rE_q (rup HO507.out) (rB_q ho0) hb)
 replace HO510 := Ae_q (rE_q (rup HO510.out) (rB_q ho0) hb)
 replace BK497 := Ae_q (bB_q (g := gb497) (o := .cells #[.int .i64 a1_0, .slice A1_1 l1_1.length c1_1] 39 (0, 0)) (bup BK497.out) hb)
 replace BK498 := Ae_q (bB_q (g := gb498) (o := .cells #[.int .i64 a3_0, .int .i64 a3_1, .int .i64 a3_2] 25 (0, 0)) (bup BK498.out) hb)
 replace HB := Ae_q (bT_q m8_q hb)
 (try clear hb)
 (try clear hb2)
 (try clear hk)
 (try clear hi)
 (try clear ho0)
 refine hK.out _ _ ⟨(bC_q BK497.out 0).trans rfl, (bC_q BK497.out 1).trans rfl, (bC_q BK498.out 0).trans rfl, (bC_q BK498.out 1).trans rfl, (bC_q BK498.out 2).trans rfl⟩ (fun hHeld => ?_)
 clear hK K
 refine nJ_q ?_
 refine pJ HT_ 9 35 rfl rfl ?_
 refine pJ HT_ 10 45 rfl rfl ?_
 refine pJ HT_ 11 46 rfl rfl ?_
 refine pJ HT_ 12 10 rfl rfl ?_
 refine pJ HT_ 13 11 rfl rfl ?_
 refine done_ (done_of HT_.out m7_q) ?_
 try go_wp2_with (first | ((with_reducible refine gC_q (f := 12) rfl ?_); refine gL_q (some 48) rfl rfl Try.func12 m7_q rfl #[.slice A0 l0.length c0] rfl m1_q ?_; (with_reducible refine (laws_toStepS.calls k _ _ l0 t518 _ ?side1 ?side2 A26.out).mono ?_); (case side1 => exact m20_q); (case side2 => exact m57_q); rintro e w47 ⟨v519, rfl, ho0, hb⟩; refine ⟨_, rfl, ?_⟩; have HO520 := Ae_q (Kd.S_lower (Kd.S_new' (Kd.S_new' (Kd.S_new' (Kd.S_new' ho0 (Kd.S_lt m43_q)) (rT_q (rup HO507.out))) (rT_q (rup HO510.out))) (rT_q (rup HO516.out))) (bZ_q m8_q)); replace HO503 := Ae_q (Kd.S_elder' m43_q (Kd.S_base ho0) hb); replace HO507 := Ae_q (rO_q (rup HO507.out) hb); replace HO510 := Ae_q (rO_q (rup HO510.out) hb); replace HO516 := Ae_q (rO_q (rup HO516.out) hb); replace BK497 := Ae_q (bB_q (g := gb497) (o := .cells #[.int .i64 a1_0, .slice A1_1 l1_1.length c1_1] 39 (0, 0)) (bup BK497.out) hb); replace BK498 := Ae_q (bB_q (g := gb498) (o := .cells #[.int .i64 a3_0, .int .i64 a3_1, .int .i64 a3_2] 25 (0, 0)) (bup BK498.out) hb); replace HB := Ae_q (bT_q m8_q hb); (try clear hb); (try clear hb2); (try clear hk); (try clear hi); (try clear ho0); have hcz48_0 : cI w47 gb497 0 a1_0 := cZ BK497 0 rfl; have hcz48_1 : w47.cell? ⟨gb497, 1, none⟩ = some (.slice A1_1 l1_1.length c1_1) := (bC_q BK497.out 1).trans rfl; have hfz48_0 := bF_q BK497.out 0; have hfz48_1 := bF_q BK497.out 1) | ((with_reducible refine gC_q (f := 23) rfl ?_); refine gL_q (some 50) rfl rfl Try.func23 m7_q rfl #[.agg #[.int .i64 a1_0, .slice A1_1 l1_1.length c1_1]] rfl m1_q ?_; (with_reducible refine (laws_toKitchen.calls k a1_0 _ _ l1_1 t521 t522 _ ?side1 ?side2 A27.out).mono ?_); (case side1 => exact m32_q); (case side2 => exact m64_q); rintro e w' ⟨v523, rfl, ho0, hb⟩; refine ⟨_, rfl, ?_⟩; replace HO503 := Ae_q (Kd.S_elder' m43_q (rB_q ho0) hb); replace HO520 := Ae_q (Kd.S_elder' m79_q (rB_q ho0) hb); have HO524 := Ae_q (rL_q (rW_q (rW_q (rW_q ho0 (rT_q (rup HO507.out))) (rT_q (rup HO510.out))) (rT_q (rup HO516.out))) (bZ_q m8_q)); replace HO507 := Ae_q (rE_q (rup HO507.out) (rB_q ho0) hb); replace HO510 := Ae_q (rE_q (rup HO510.out) (rB_q ho0) hb); replace HO516 := Ae_q (rE_q (rup HO516.out) (rB_q ho0) hb); replace BK497 := Ae_q (bB_q (g := gb497) (o := .cells #[.int .i64 a1_0, .slice A1_1 l1_1.length c1_1] 39 (0, 0)) (bup BK497.out) hb); replace BK498 := Ae_q (bB_q (g := gb498) (o := .cells #[.int .i64 a3_0, .int .i64 a3_1, .int .i64 a3_2] 25 (0, 0)) (bup BK498.out) hb); replace HB := Ae_q (bT_q m8_q hb); (try clear hb); (try clear hb2); (try clear hk); (try clear hi); (try clear ho0)) | ((with_reducible refine gD_q (N := 13) rfl ?_); refine bE_q ?hg (N := 13) ?hd (cs := #[.int .i64 0, .slice none 0 0]) (t := 43) ?hr ?_; (case hd => rfl); (case hg => rfl); (case hr => exact m6_q); intro gb525 hg w50 hbox hb; replace HO503 := Ae_q (Kd.S_below m43_q hb); replace HO507 := Ae_q (rO_q (rup HO507.out) hb); replace HO510 := Ae_q (rO_q (rup HO510.out) hb); replace HO516 := Ae_q (rO_q (rup HO516.out) hb); replace HO520 := Ae_q (Kd.S_below m79_q hb); replace HO524 := Ae_q (rO_q (rup HO524.out) hb); have BK525 := Ae_q (hbox); have GW525 := Ae_q ((by rw [hg]; exact (bZ_q m8_q) : w.heap.size ≤ gb525)); have GE525 := Ae_q ((by rw [hg]; exact (bZ_q m8_q) : w.heap.size ≤ gb525)); replace HB := Ae_q (bT_q m8_q hb); have NB497_525 := Ae_q ((by rw [hg]; exact nL_q (blk_lt (g := gb497) (o := .cells #[.int .i64 a1_0, .slice A1_1 l1_1.length c1_1] 39 (0, 0)) (bup BK497.out)) : gb497 ≠ gb525)); have NB525_497 := Ae_q ((by rw [hg]; exact nG_q (blk_lt (g := gb497) (o := .cells #[.int .i64 a1_0, .slice A1_1 l1_1.length c1_1] 39 (0, 0)) (bup BK497.out)) : gb525 ≠ gb497)); replace BK497 := Ae_q (bB_q (g := gb497) (o := .cells #[.int .i64 a1_0, .slice A1_1 l1_1.length c1_1] 39 (0, 0)) (bup BK497.out) hb); have NB498_525 := Ae_q ((by rw [hg]; exact nL_q (blk_lt (g := gb498) (o := .cells #[.int .i64 a3_0, .int .i64 a3_1, .int .i64 a3_2] 25 (0, 0)) (bup BK498.out)) : gb498 ≠ gb525)); have NB525_498 := Ae_q ((by rw [hg]; exact nG_q (blk_lt (g := gb498) (o := .cells #[.int .i64 a3_0, .int .i64 a3_1, .int .i64 a3_2] 25 (0, 0)) (bup BK498.out)) : gb525 ≠ gb498)); replace BK498 := Ae_q (bB_q (g := gb498) (o := .cells #[.int .i64 a3_0, .int .i64 a3_1, .int .i64 a3_2] 25 (0, 0)) (bup BK498.out) hb); clear hb hbox hg; have hnb51 := NB525_497.out; have hnc51 := NB497_525.out; have hnb52 := NB525_498.out; have hnc52 := NB498_525.out; have hcz53_0 : cI w50 gb525 0 0 := cZ BK525 0 rfl; have hcz53_1 : w50.cell? ⟨gb525, 1, none⟩ = some (.slice none 0 0) := (bC_q BK525.out 1).trans rfl; have hfz53_0 := bF_q BK525.out 0; have hfz53_1 := bF_q BK525.out 1; obtain ⟨Ao54, co54, eo54⟩ := rS_q HO524.out; subst eo54) | ((with_reducible refine gC_q (f := 13) rfl ?_); refine gL_q (some 52) rfl rfl Try.func13 m7_q rfl #[.slice A2 l2.length c2] rfl m1_q ?_; (with_reducible refine (laws_toIntS.calls k _ _ l2 t526 _ ?side1 ?side2 A28.out).mono ?_); (case side1 => exact cB_q HR2.out m2_q); (case side2 => exact m63_q); rintro e w55 ⟨v527, rfl, ho0, hb⟩; refine ⟨_, rfl, ?_⟩; replace HO503 := Ae_q (Kd.S_elder' (by (with_reducible repeat (first | apply tA_q | apply tN_q | apply tD_q)); exact (Kd.S_mono (Kd.S_far (p := ⟨gb525, 1, none⟩) (Kd.S_far (p := ⟨gb525, 0, none⟩) (Kd.S_types HO503.out BK525.out (by decide)) (fun _ hk => by first | exact hk.2 | exact hk.2 | exact hk.1.2 | exact hk.1.1.2 | exact hk.1.1.1.2 | exact hk.1.1.1.1.2 | exact hk.1.1.1.1.1.2 | exact hk.1 | exact hk.1.1 | exact hk.1.1.1 | exact hk.1.1.1.1 | exact hk.1.1.1.1.1 | exact hk.2.1 | exact hk.2.2) (.int .i64 t521)) (fun _ hk => by first | exact hk.2 | exact hk.2 | exact hk.1.2 | exact hk.1.1.2 | exact hk.1.1.1.2 | exact hk.1.1.1.1.2 | exact hk.1.1.1.1.1.2 | exact hk.1 | exact hk.1.1 | exact hk.1.1.1 | exact hk.1.1.1.1 | exact hk.1.1.1.1.1 | exact hk.2.1 | exact hk.2.2) (.slice Ao54 t522.length co54)) (fun _ h_ => h_.1))) (rB_q ho0) hb); replace HO520 := Ae_q (Kd.S_elder' (by (with_reducible repeat (first | apply tA_q | apply tN_q | apply tD_q)); exact (Kd.S_mono (Kd.S_far (p := ⟨gb525, 1, none⟩) (Kd.S_far (p := ⟨gb525, 0, none⟩) (Kd.S_types HO520.out BK525.out (by decide)) (fun _ hk => by first | exact hk.2 | exact hk.2 | exact hk.1.2 | exact hk.1.1.2 | exact hk.1.1.1.2 | exact hk.1.1.1.1.2 | exact hk.1.1.1.1.1.2 | exact hk.1 | exact hk.1.1 | exact hk.1.1.1 | exact hk.1.1.1.1 | exact hk.1.1.1.1.1 | exact hk.2.1 | exact hk.2.2) (.int .i64 t521)) (fun _ hk => by first | exact hk.2 | exact hk.2 | exact hk.1.2 | exact hk.1.1.2 | exact hk.1.1.1.2 | exact hk.1.1.1.1.2 | exact hk.1.1.1.1.1.2 | exact hk.1 | exact hk.1.1 | exact hk.1.1.1 | exact hk.1.1.1.1 | exact hk.1.1.1.1.1 | exact hk.2.1 | exact hk.2.2) (.slice Ao54 t522.length co54)) (fun _ h_ => h_.1))) (rB_q ho0) hb); have HO528 := Ae_q (rL_q (rW_q (rW_q (rW_q (rW_q ho0 (rT_q (by (with_reducible repeat (first | apply rA_q | apply rN_q | apply rD_q)); exact (rM_q (Kd.R_far (p := ⟨gb525, 1, none⟩) (Kd.R_far (p := ⟨gb525, 0, none⟩) (Kd.R_types HO507.out BK525.out (by decide)) (fun _ hk => by first | exact hk.2 | exact hk.2 | exact hk.1.2 | exact hk.1.1.2 | exact hk.1.1.1.2 | exact hk.1.1.1.1.2 | exact hk.1.1.1.1.1.2 | exact hk.1 | exact hk.1.1 | exact hk.1.1.1 | exact hk.1.1.1.1 | exact hk.1.1.1.1.1 | exact hk.2.1 | exact hk.2.2) (.int .i64 t521)) (fun _ hk => by first | exact hk.2 | exact hk.2 | exact hk.1.2 | exact hk.1.1.2 | exact hk.1.1.1.2 | exact hk.1.1.1.1.2 | exact hk.1.1.1.1.1.2 | exact hk.1 | exact hk.1.1 | exact hk.1.1.1 | exact hk.1.1.1.1 | exact hk.1.1.1.1.1 | exact hk.2.1 | exact hk.2.2) (.slice Ao54 t522.length co54)) (fun _ h_ => h_.1))))) (rT_q (by (with_reducible repeat (first | apply rA_q | apply rN_q | apply rD_q)); exact (rM_q (Kd.R_far (p := ⟨gb525, 1, none⟩) (Kd.R_far (p := ⟨gb525, 0, none⟩) (Kd.R_types HO510.out BK525.out (by decide)) (fun _ hk => by first | exact hk.2 | exact hk.2 | exact hk.1.2 | exact hk.1.1.2 | exact hk.1.1.1.2 | exact hk.1.1.1.1.2 | exact hk.1.1.1.1.1.2 | exact hk.1 | exact hk.1.1 | exact hk.1.1.1 | exact hk.1.1.1.1 | exact hk.1.1.1.1.1 | exact hk.2.1 | exact hk.2.2) (.int .i64 t521)) (fun _ hk => by first | exact hk.2 | exact hk.2 | exact hk.1.2 | exact hk.1.1.2 | exact hk.1.1.1.2 | exact hk.1.1.1.1.2 | exact hk.1.1.1.1.1.2 | exact hk.1 | exact hk.1.1 | exact hk.1.1.1 | exact hk.1.1.1.1 | exact hk.1.1.1.1.1 | exact hk.2.1 | exact hk.2.2) (.slice Ao54 t522.length co54)) (fun _ h_ => h_.1))))) (rT_q (by (with_reducible repeat (first | apply rA_q | apply rN_q | apply rD_q)); exact (rM_q (Kd.R_far (p := ⟨gb525, 1, none⟩) (Kd.R_far (p := ⟨gb525, 0, none⟩) (Kd.R_types HO516.out BK525.out (by decide)) (fun _ hk => by first | exact hk.2 | exact hk.2 | exact hk.1.2 | exact hk.1.1.2 | exact hk.1.1.1.2 | exact hk.1.1.1.1.2 | exact hk.1.1.1.1.1.2 | exact hk.1 | exact hk.1.1 | exact hk.1.1.1 | exact hk.1.1.1.1 | exact hk.1.1.1.1.1 | exact hk.2.1 | exact hk.2.2) (.int .i64 t521)) (fun _ hk => by first | exact hk.2 | exact hk.2 | exact hk.1.2 | exact hk.1.1.2 | exact hk.1.1.1.2 | exact hk.1.1.1.1.2 | exact hk.1.1.1.1.1.2 | exact hk.1 | exact hk.1.1 | exact hk.1.1.1 | exact hk.1.1.1.1 | exact hk.1.1.1.1.1 | exact hk.2.1 | exact hk.2.2) (.slice Ao54 t522.length co54)) (fun _ h_ => h_.1))))) (rT_q (by (with_reducible repeat (first | apply rA_q | apply rN_q | apply rD_q)); exact (rM_q (Kd.R_far (p := ⟨gb525, 1, none⟩) (Kd.R_far (p := ⟨gb525, 0, none⟩) (Kd.R_types HO524.out BK525.out (by decide)) (fun _ hk => by first | exact hk.2 | exact hk.2 | exact hk.1.2 | exact hk.1.1.2 | exact hk.1.1.1.2 | exact hk.1.1.1.1.2 | exact hk.1.1.1.1.1.2 | exact hk.1 | exact hk.1.1 | exact hk.1.1.1 | exact hk.1.1.1.1 | exact hk.1.1.1.1.1 | exact hk.2.1 | exact hk.2.2) (.int .i64 t521)) (fun _ hk => by first | exact hk.2 | exact hk.2 | exact hk.1.2 | exact hk.1.1.2 | exact hk.1.1.1.2 | exact hk.1.1.1.1.2 | exact hk.1.1.1.1.1.2 | exact hk.1 | exact hk.1.1 | exact hk.1.1.1 | exact hk.1.1.1.1 | exact hk.1.1.1.1.1 | exact hk.2.1 | exact hk.2.2) (.slice Ao54 t522.length co54)) (fun _ h_ => h_.1))))) (bZ_q m2_q)); replace HO507 := Ae_q (rE_q (by (with_reducible repeat (first | apply rA_q | apply rN_q | apply rD_q)); exact (rM_q (Kd.R_far (p := ⟨gb525, 1, none⟩) (Kd.R_far (p := ⟨gb525, 0, none⟩) (Kd.R_types HO507.out BK525.out (by decide)) (fun _ hk => by first | exact hk.2 | exact hk.2 | exact hk.1.2 | exact hk.1.1.2 | exact hk.1.1.1.2 | exact hk.1.1.1.1.2 | exact hk.1.1.1.1.1.2 | exact hk.1 | exact hk.1.1 | exact hk.1.1.1 | exact hk.1.1.1.1 | exact hk.1.1.1.1.1 | exact hk.2.1 | exact hk.2.2) (.int .i64 t521)) (fun _ hk => by first | exact hk.2 | exact hk.2 | exact hk.1.2 | exact hk.1.1.2 | exact hk.1.1.1.2 | exact hk.1.1.1.1.2 | exact hk.1.1.1.1.1.2 | exact hk.1 | exact hk.1.1 | exact hk.1.1.1 | exact hk.1.1.1.1 | exact hk.1.1.1.1.1 | exact hk.2.1 | exact hk.2.2) (.slice Ao54 t522.length co54)) (fun _ h_ => h_.1))) (rB_q ho0) hb); replace HO510 := Ae_q (rE_q (by (with_reducible repeat (first | apply rA_q | apply rN_q | apply rD_q)); exact (rM_q (Kd.R_far (p := ⟨gb525, 1, none⟩) (Kd.R_far (p := ⟨gb525, 0, none⟩) (Kd.R_types HO510.out BK525.out (by decide)) (fun _ hk => by first | exact hk.2 | exact hk.2 | exact hk.1.2 | exact hk.1.1.2 | exact hk.1.1.1.2 | exact hk.1.1.1.1.2 | exact hk.1.1.1.1.1.2 | exact hk.1 | exact hk.1.1 | exact hk.1.1.1 | exact hk.1.1.1.1 | exact hk.1.1.1.1.1 | exact hk.2.1 | exact hk.2.2) (.int .i64 t521)) (fun _ hk => by first | exact hk.2 | exact hk.2 | exact hk.1.2 | exact hk.1.1.2 | exact hk.1.1.1.2 | exact hk.1.1.1.1.2 | exact hk.1.1.1.1.1.2 | exact hk.1 | exact hk.1.1 | exact hk.1.1.1 | exact hk.1.1.1.1 | exact hk.1.1.1.1.1 | exact hk.2.1 | exact hk.2.2) (.slice Ao54 t522.length co54)) (fun _ h_ => h_.1))) (rB_q ho0) hb); replace HO516 := Ae_q (rE_q (by (with_reducible repeat (first | apply rA_q | apply rN_q | apply rD_q)); exact (rM_q (Kd.R_far (p := ⟨gb525, 1, none⟩) (Kd.R_far (p := ⟨gb525, 0, none⟩) (Kd.R_types HO516.out BK525.out (by decide)) (fun _ hk => by first | exact hk.2 | exact hk.2 | exact hk.1.2 | exact hk.1.1.2 | exact hk.1.1.1.2 | exact hk.1.1.1.1.2 | exact hk.1.1.1.1.1.2 | exact hk.1 | exact hk.1.1 | exact hk.1.1.1 | exact hk.1.1.1.1 | exact hk.1.1.1.1.1 | exact hk.2.1 | exact hk.2.2) (.int .i64 t521)) (fun _ hk => by first | exact hk.2 | exact hk.2 | exact hk.1.2 | exact hk.1.1.2 | exact hk.1.1.1.2 | exact hk.1.1.1.1.2 | exact hk.1.1.1.1.1.2 | exact hk.1 | exact hk.1.1 | exact hk.1.1.1 | exact hk.1.1.1.1 | exact hk.1.1.1.1.1 | exact hk.2.1 | exact hk.2.2) (.slice Ao54 t522.length co54)) (fun _ h_ => h_.1))) (rB_q ho0) hb); replace HO524 := Ae_q (rE_q (by (with_reducible repeat (first | apply rA_q | apply rN_q | apply rD_q)); exact (rM_q (Kd.R_far (p := ⟨gb525, 1, none⟩) (Kd.R_far (p := ⟨gb525, 0, none⟩) (Kd.R_types HO524.out BK525.out (by decide)) (fun _ hk => by first | exact hk.2 | exact hk.2 | exact hk.1.2 | exact hk.1.1.2 | exact hk.1.1.1.2 | exact hk.1.1.1.1.2 | exact hk.1.1.1.1.1.2 | exact hk.1 | exact hk.1.1 | exact hk.1.1.1 | exact hk.1.1.1.1 | exact hk.1.1.1.1.1 | exact hk.2.1 | exact hk.2.2) (.int .i64 t521)) (fun _ hk => by first | exact hk.2 | exact hk.2 | exact hk.1.2 | exact hk.1.1.2 | exact hk.1.1.1.2 | exact hk.1.1.1.1.2 | exact hk.1.1.1.1.1.2 | exact hk.1 | exact hk.1.1 | exact hk.1.1.1 | exact hk.1.1.1.1 | exact hk.1.1.1.1.1 | exact hk.2.1 | exact hk.2.2) (.slice Ao54 t522.length co54)) (fun _ h_ => h_.1))) (rB_q ho0) hb); replace BK497 := Ae_q (bB_q (g := gb497) (o := .cells #[.int .i64 a1_0, .slice A1_1 l1_1.length c1_1] 39 (0, 0)) (by (with_reducible repeat (first | refine bN_q ?_ _ | refine bW_q ?_ | refine bL_q ?_ _)); refine blk_far ?_ NB497_525.out _; (with_reducible repeat (first | refine bN_q ?_ _ | refine bW_q ?_ | refine bL_q ?_ _)); refine blk_far ?_ NB497_525.out _; (with_reducible repeat (first | refine bN_q ?_ _ | refine bW_q ?_ | refine bL_q ?_ _)); exact BK497.out) hb); replace BK498 := Ae_q (bB_q (g := gb498) (o := .cells #[.int .i64 a3_0, .int .i64 a3_1, .int .i64 a3_2] 25 (0, 0)) (by (with_reducible repeat (first | refine bN_q ?_ _ | refine bW_q ?_ | refine bL_q ?_ _)); refine blk_far ?_ NB498_525.out _; (with_reducible repeat (first | refine bN_q ?_ _ | refine bW_q ?_ | refine bL_q ?_ _)); refine blk_far ?_ NB498_525.out _; (with_reducible repeat (first | refine bN_q ?_ _ | refine bW_q ?_ | refine bL_q ?_ _)); exact BK498.out) hb); replace BK525 := Ae_q (bB_q (g := gb525) (o := .cells #[.int .i64 t521, .slice Ao54 t522.length co54] 43 (0, 0)) (by (with_reducible repeat (first | refine bN_q ?_ _ | refine bW_q ?_ | refine bL_q ?_ _)); refine blk_put (cs := #[.int .i64 t521, .slice none 0 0]) ?_ 1 _ rfl; (with_reducible repeat (first | refine bN_q ?_ _ | refine bW_q ?_ | refine bL_q ?_ _)); refine blk_put (cs := #[.int .i64 0, .slice none 0 0]) ?_ 0 _ rfl; (with_reducible repeat (first | refine bN_q ?_ _ | refine bW_q ?_ | refine bL_q ?_ _)); exact BK525.out) hb); replace HB := Ae_q (bT_q m2_q hb); (try clear hb); (try clear hb2); (try clear hk); (try clear hi); (try clear ho0)))
 replace HO503 := Ae_q (tD_q HO503.out)
 replace HO507 := Ae_q (rD_q HO507.out)
 replace HO510 := Ae_q (rD_q HO510.out)
 replace HO516 := Ae_q (rD_q HO516.out)
 replace HO520 := Ae_q (tD_q HO520.out)
 replace HO524 := Ae_q (rD_q HO524.out)
 replace HO528 := Ae_q (rD_q HO528.out)
 replace BK497 := Ae_q (bW_q BK497.out)
 replace BK498 := Ae_q (bW_q BK498.out)
 replace BK525 := Ae_q (bW_q BK525.out)
 replace HB := Ae_q (bD_q HB.out)
 refine start_ (n := 11) (S := fun w' => w'.cell? ⟨gb525, 0, none⟩ = some (.int .i64 t521) ∧ w'.cell? ⟨gb525, 1, none⟩ = some (.slice Ao54 t522.length co54) ∧ w'.cell? ⟨gb498, 0, none⟩ = some (.int .i64 a3_0) ∧ w'.cell? ⟨gb498, 1, none⟩ = some (.int .i64 a3_1) ∧ w'.cell? ⟨gb498, 2, none⟩ = some (.int .i64 a3_2)) (ds := []) #[false, false, false, false, false, false, false, false, false, false, false] m7_q rfl rfl ⟨(bC_q BK525.out 0).trans rfl, (bC_q BK525.out 1).trans rfl, (bC_q BK498.out 0).trans rfl, (bC_q BK498.out 1).trans rfl, (bC_q BK498.out 2).trans rfl⟩ (fun hHeld => ?_); refine with_tabW laws_FnExactOutageRepair.tab14 laws_FnExactOutageRepair.bits14 (fun HT_ HW_ => ?_)
 generalize w55.drew = w56 at HO503 HO507 HO510 HO516 HO520 HO524 HO528 BK497 BK498 BK525 HB hHeld ⊢
 refine pJ HT_ 0 54 rfl rfl ?_
 refine pJ HT_ 2 56 rfl rfl ?_
 refine take_ (i := 1) (N := some 55) (v := ?_) (a' := ?_) #[true, true, true, false, false, false, false, false, false, false, false] rfl rfl (take_ofW HT_.out HW_.out m7_q) (fun _ _ _ h => h) (Or.inl ⟨by rfl, ?_⟩) hHeld ?_ ?_
 rotate_left
 ·rintro w' ⟨s0, s1, s2, s3, s4⟩
  go_simp
  with_reducible rfl
 rotate_left
 ·simp only [pS_q]
  rfl
 refine take_ (i := 3) (N := some 57) (v := ?_) (a' := ?_) #[true, true, true, true, false, false, false, false, false, false, false] rfl rfl (take_ofW HT_.out HW_.out m7_q) (fun _ _ _ h => h) (Or.inl ⟨by rfl, ?_⟩) hHeld ?_ ?_
 rotate_left
 ·rintro w' ⟨s0, s1, s2, s3, s4⟩
  go_simp
  with_reducible rfl
 rotate_left
 ·simp only [pS_q]
  rfl
 refine one_ (i := 4) (N := some 58) #[true, true, true, true, true, false, false, false, false, false, false] rfl rfl (one_of HT_.out m7_q) (by decide) (fun K hK => ?_)
 refine goes_ Try.func14 m7_q rfl #[.agg #[.int .i64 a3_0, .int .i64 a3_1, .int .i64 a3_2]] (by rfl) rfl rfl m1_q ?_
 with_reducible refine (laws_toOutage.calls a3_0 a3_1 a3_2 t529 t530 t531 _ A29.out).mono ?_
 rintro e w' ⟨rfl, hb⟩
 refine ⟨_, rfl, ?_⟩
 replace HO503 := Ae_q (Kd.S_below m43_q hb)
 replace HO507 := Ae_q (rO_q (rup HO507.out) hb)
 replace HO510 := Ae_q (rO_q (rup HO510.out) hb)
 replace HO516 := Ae_q (rO_q (rup HO516.out) hb)
 replace HO520 := Ae_q (Kd.S_below m79_q hb)
 replace HO524 := Ae_q (rO_q (rup HO524.out) hb)
 replace HO528 := Ae_q (rO_q (rup HO528.out) hb)
 replace BK497 := Ae_q (bB_q (g := gb497) (o := .cells #[.int .i64 a1_0, .slice A1_1 l1_1.length c1_1] 39 (0, 0)) (bup BK497.out) hb)
 replace BK498 := Ae_q (bB_q (g := gb498) (o := .cells #[.int .i64 a3_0, .int .i64 a3_1, .int .i64 a3_2] 25 (0, 0)) (bup BK498.out) hb)
 replace BK525 := Ae_q (bB_q (g := gb525) (o := .cells #[.int .i64 t521, .slice Ao54 t522.length co54] 43 (0, 0)) (bup BK525.out) hb)
 replace HB := Ae_q (bT_q m2_q hb)
 (try clear hb)
 (try clear hb2)
 (try clear hk)
 (try clear hi)
 obtain ⟨Ao58, co58, eo58⟩ := Kd.S_slice HO520.out
 (first | subst eo58 | (injection eo58 with f1_ f2_ f3_; have f4_ := f1_.symm; have f5_ := f3_.symm; clear f1_ f2_ f3_; subst f4_; subst f5_))
 obtain ⟨Ao59, co59, eo59⟩ := rS_q HO528.out
 (first | subst eo59 | (injection eo59 with f1_ f2_ f3_; have f4_ := f1_.symm; have f5_ := f3_.symm; clear f1_ f2_ f3_; subst f4_; subst f5_))
 refine hK.out _ _ ⟨(bC_q BK525.out 0).trans rfl, (bC_q BK525.out 1).trans rfl, (bC_q BK498.out 0).trans rfl, (bC_q BK498.out 1).trans rfl, (bC_q BK498.out 2).trans rfl⟩ (fun hHeld => ?_)
 clear hK K
 refine nJ_q ?_
 refine one_ (i := 5) (N := some 59) #[true, true, true, true, true, true, false, false, false, false, false] rfl rfl (one_of HT_.out m7_q) (by decide) (fun K hK => ?_)
 refine goes_ Try.func28 m7_q rfl #[.slice Ao58 t518.length co58, .agg #[.int .i64 t521, .slice Ao54 t522.length co54], .slice Ao59 t526.length co59, .agg #[.int .i64 t529, .int .i64 t530, .int .i64 t531]] (by rfl) rfl rfl m1_q ?_
 with_reducible refine (impl_OutageRepair.calls k _ _ t518 t521 _ _ t522 _ _ t526 t529 t530 t531 t532 t535 _ ?side1 ?side2 ?side3 ?side4 ?side5 ?side6 A30.out).mono ?_
 (case side1 => repeat (first | exact (Kd.S_reads' HO520.out).2.2 | (with_reducible refine cA_q ?_ _) | (with_reducible refine cN_q ?_ _) | (with_reducible refine cD_q ?_)))
 (case side2 => exact (Kd.S_reads' HO520.out).2.1)
 (case side3 => exact cup (rR_q HO524.out).2.2)
 (case side4 => exact (rR_q HO524.out).2.1)
 (case side5 => exact cup (rR_q HO528.out).2.2)
 (case side6 => exact (rR_q HO528.out).2.1)
 rintro e w' ⟨v533, rfl, ho0, hb⟩
 refine ⟨_, rfl, ?_⟩
 replace HO503 := Ae_q (Kd.S_elder' m43_q (rB_q ho0) hb)
 replace HO520 := Ae_q (Kd.S_elder' m79_q (rB_q ho0) hb)
 have HO534 := Ae_q (rL_q (rW_q (rW_q (rW_q (rW_q (rW_q ho0 (rT_q (rup HO507.out))) (rT_q (rup HO510.out))) (rT_q (rup HO516.out))) (rT_q (rup HO524.out))) (rT_q (rup HO528.out))) (bZ_q m2_q))
 replace HO507 := Ae_q (rE_q (rup HO507.out) (rB_q ho0) hb)
 replace HO510 := Ae_q (rE_q (rup HO510.out) (rB_q ho0) hb)
 replace HO516 := Ae_q (rE_q (rup HO516.out) (rB_q ho0) hb)
 replace HO524 := Ae_q (rE_q (rup HO524.out) (rB_q ho0) hb)
 replace HO528 := Ae_q (rE_q (rup HO528.out) (rB_q ho0) hb)
 replace BK497 := Ae_q (bB_q (g := gb497) (o := .cells #[.int .i64 a1_0, .slice A1_1 l1_1.length c1_1] 39 (0, 0)) (bup BK497.out) hb)
 replace BK498 := Ae_q (bB_q (g := gb498) (o := .cells #[.int .i64 a3_0, .int .i64 a3_1, .int .i64 a3_2] 25 (0, 0)) (bup BK498.out) hb)
 replace BK525 := Ae_q (bB_q (g := gb525) (o := .cells #[.int .i64 t521, .slice Ao54 t522.length co54] 43 (0, 0)) (bup BK525.out) hb)
 replace HB := Ae_q (bT_q m2_q hb)
 (try clear hb)
 (try clear hb2)
 (try clear hk)
 (try clear hi)
 (try clear ho0)
 refine hK.out _ _ ⟨(bC_q BK525.out 0).trans rfl, (bC_q BK525.out 1).trans rfl, (bC_q BK498.out 0).trans rfl, (bC_q BK498.out 1).trans rfl, (bC_q BK498.out 2).trans rfl⟩ (fun hHeld => ?_)
 clear hK K
 refine nJ_q ?_
 refine pJ HT_ 6 53 rfl rfl ?_
 refine pJ HT_ 7 60 rfl rfl ?_
 refine pJ HT_ 8 61 rfl rfl ?_
 refine pJ HT_ 9 15 rfl rfl ?_
 refine pJ HT_ 10 16 rfl rfl ?_
 refine done_ (done_of HT_.out m7_q) ?_
 go_upto_region 15 with (fail)
 go_cut [70] (fun v70 wc => ∃ (kq : Nat) (x70_30 : Bool), v70 = .bool x70_30 ∧ Aside0 (laws_FnExactOutageRepair.j0 kq l0 l2 t514 t517 t518 t526 t532 t535 x70_30 a1_0 l1_1 a3_0 a3_1 a3_2 t521 t522 = some r) ∧ Aside0 (kq ≤ k) ∧ Aside0 (Kd.R kI_q 3 wc w.heap.size (fun k_ => some k_ ≠ ((.slice Ao59 t526.length co59) : Value).ownBlock ∧ some k_ ≠ (v533 : Value).ownBlock ∧ some k_ ≠ ((.slice Ao54 t522.length co54) : Value).ownBlock) v515 t514) ∧ Aside0 (Kd.S k63 63 wc w.heap.size (fun k_ => some k_ ≠ (v515 : Value).ownBlock ∧ some k_ ≠ ((.slice Ao59 t526.length co59) : Value).ownBlock ∧ some k_ ≠ (v533 : Value).ownBlock ∧ some k_ ≠ ((.slice Ao54 t522.length co54) : Value).ownBlock) (.slice Ao58 t518.length co58) t518) ∧ Aside0 (Kd.R kI_q 3 wc w.heap.size (fun k_ => some k_ ≠ (v515 : Value).ownBlock ∧ some k_ ≠ (v533 : Value).ownBlock ∧ some k_ ≠ ((.slice Ao54 t522.length co54) : Value).ownBlock) (.slice Ao59 t526.length co59) t526) ∧ Aside0 (Kd.R kI_q 3 wc w.heap.size (fun k_ => some k_ ≠ (v515 : Value).ownBlock ∧ some k_ ≠ ((.slice Ao59 t526.length co59) : Value).ownBlock ∧ some k_ ≠ ((.slice Ao54 t522.length co54) : Value).ownBlock) v533 t532) ∧ Aside0 (Kd.R kI_q 3 wc w.heap.size (fun k_ => some k_ ≠ (v515 : Value).ownBlock ∧ some k_ ≠ ((.slice Ao59 t526.length co59) : Value).ownBlock ∧ some k_ ≠ (v533 : Value).ownBlock) (.slice Ao54 t522.length co54) t522) ∧ Aside0 (wc.heap[gb497]? = some (.cells #[.int .i64 a1_0, (.slice A1_1 l1_1.length c1_1)] 39 (0, 0))) ∧ Aside0 (wc.heap[gb498]? = some (.cells #[.int .i64 a3_0, .int .i64 a3_1, .int .i64 a3_2] 25 (0, 0))) ∧ Aside0 (wc.heap[gb525]? = some (.cells #[.int .i64 t521, (.slice Ao54 t522.length co54)] 43 (0, 0))) ∧ Aside0 (Below w.heap.size w wc))
 case first =>
  have H := HC31.out
  clear HC31
  replace H := oB_q.mp H
  obtain ⟨t536, A610, H⟩ := H
  replace H : (if t536 = true then (laws_FnExactOutageRepair.j0 k l0 l2 t514 t517 t518 t526 t532 t535 (t535 != t517) a1_0 l1_1 a3_0 a3_1 a3_2 t521 t522) else (laws_FnExactOutageRepair.j0 k l0 l2 t514 t517 t518 t526 t532 t535 true a1_0 l1_1 a3_0 a3_1 a3_2 t521 t522)) = some r := H
  have A61 := Ae_q A610
  clear A610
  by_cases c62 : t536 = true
  ·subst c62
   have H1 : (laws_FnExactOutageRepair.j0 k l0 l2 t514 t517 t518 t526 t532 t535 (t535 != t517) a1_0 l1_1 a3_0 a3_1 a3_2 t521 t522) = some r := by rw [if_pos rfl] at H; exact H
   clear H
   have H := H1
   clear H1
   have H' := Ae_q H
   clear H
   obtain ⟨Ao63, co63, eo63⟩ := rS_q HO534.out
   subst eo63
   obtain ⟨Ao64, co64, eo64⟩ := rS_q HO516.out
   subst eo64
   go_wp2_with (first | ((with_reducible refine gC_q (f := 16) rfl ?_); refine gL_q (some 64) rfl rfl Try.func16 m7_q rfl #[.slice Ao63 t532.length co63, .slice Ao64 t514.length co64] rfl m1_q ?_; (with_reducible refine (laws_eqIntS.calls k _ _ t532 _ _ t514 true _ ?side1 ?side2 ?side3 ?side4 A61.out).mono ?_); (case side1 => exact cup (rR_q HO534.out).2.2); (case side2 => exact (rR_q HO534.out).2.1); (case side3 => exact cup (rR_q HO516.out).2.2); (case side4 => exact (rR_q HO516.out).2.1); rintro e w' ⟨rfl, ⟨nd, rfl⟩⟩; refine ⟨_, rfl, ?_⟩))
   go_meet
   case rel => exact ⟨_, ((t535 != t517)), m5_q, H', ⟨m106_q⟩, ⟨m97_q⟩, ⟨m89_q⟩, ⟨m98_q⟩, ⟨m99_q⟩, ⟨m100_q⟩, ⟨bup BK497.out⟩, ⟨bup BK498.out⟩, ⟨bup BK525.out⟩, ⟨m2_q⟩⟩
  replace c62 := fM_q.mpr c62
  subst c62
  have H1 : (laws_FnExactOutageRepair.j0 k l0 l2 t514 t517 t518 t526 t532 t535 true a1_0 l1_1 a3_0 a3_1 a3_2 t521 t522) = some r := by rw [if_neg (show ¬ (false = true) by decide)] at H; exact H
  clear H
  have H := H1
  clear H1
  have H' := Ae_q H
  clear H
  obtain ⟨Ao65, co65, eo65⟩ := rS_q HO534.out
  subst eo65
  obtain ⟨Ao66, co66, eo66⟩ := rS_q HO516.out
  subst eo66
  go_wp2_with (first | ((with_reducible refine gC_q (f := 16) rfl ?_); refine gL_q (some 64) rfl rfl Try.func16 m7_q rfl #[.slice Ao65 t532.length co65, .slice Ao66 t514.length co66] rfl m1_q ?_; (with_reducible refine (laws_eqIntS.calls k _ _ t532 _ _ t514 false _ ?side1 ?side2 ?side3 ?side4 A61.out).mono ?_); (case side1 => exact cup (rR_q HO534.out).2.2); (case side2 => exact (rR_q HO534.out).2.1); (case side3 => exact cup (rR_q HO516.out).2.2); (case side4 => exact (rR_q HO516.out).2.1); rintro e w' ⟨rfl, ⟨nd, rfl⟩⟩; refine ⟨_, rfl, ?_⟩))
  go_meet
  case rel => exact ⟨_, (true), m5_q, H', ⟨m106_q⟩, ⟨m97_q⟩, ⟨m89_q⟩, ⟨m98_q⟩, ⟨m99_q⟩, ⟨m100_q⟩, ⟨bup BK497.out⟩, ⟨bup BK498.out⟩, ⟨bup BK525.out⟩, ⟨m2_q⟩⟩
 case rest =>
  clear HC31
  try clear c1
  try clear c2
  try clear p2
  try clear c3
  try clear c5
  try clear c6
  try clear c8
  try clear c10
  try clear c12
  try clear c13
  try clear c14
  try clear c14b0
  try clear c16
  try clear c18
  try clear c21
  try clear c23
  try clear c28
  try clear c29
  try clear c35
  try clear c51
  try clear c52
  try clear c62
  try clear hcz19_0
  try clear hcz19_1
  try clear hcz36_0
  try clear hcz36_1
  try clear hcz48_0
  try clear hcz48_1
  try clear hcz53_0
  try clear hcz53_1
  try clear hfz19_0
  try clear hfz19_1
  try clear hfz36_0
  try clear hfz36_1
  try clear hfz48_0
  try clear hfz48_1
  try clear hfz53_0
  try clear hfz53_1
  obtain ⟨kq, x70_30, rfl, HA, HJ30, HO_10, HO_12, HO_14, HO_15, HO_526001, BK497, BK498, BK525, HB⟩ := hcut
  cases kq with
  | zero => exact absurd HA.out (by simp [laws_FnExactOutageRepair.j0])
  | succ kj30 =>
   have H := HA.out
   clear HA
   simp only [laws_FnExactOutageRepair.j0] at H
   by_cases c67 : x70_30 = true
   ·subst c67
    have H1 : (some false) = some r := by rw [if_pos rfl] at H; exact H
    clear H
    have H := H1
    clear H1
    obtain rfl := oI_q H
    go_wp2
    go_ret
    exact ⟨m4_q, m2_q⟩
   replace c67 := fM_q.mpr c67
   subst c67
   have H1 : ((laws_toStepS.f kj30 l0).bind fun t537 => ((laws_eqStepS.f kj30 t518 t537).bind fun t540 => (if t540 = true then ((laws_toKitchen.f kj30 a1_0 l1_1).bind fun bt541 => ((laws_eqKitchen.f kj30 t521 t522 bt541.1 bt541.2).bind fun t545 => (if t545 = true then ((laws_toIntS.f kj30 l2).bind fun t546 => ((laws_eqIntS.f kj30 t526 t546).bind fun t549 => (if t549 = true then ((laws_markKitchen.f kj30 t521 t522 (markStepF t518 1)).bind fun bt550 => ((laws_markIntS.f kj30 t526 bt550.1).bind fun bt552 => (if bt552.1 < 0 then (laws_FnExactOutageRepair.j1 kj30 l0 l2 t514 t517 t532 true a1_0 l1_1 a3_0 a3_1 a3_2) else ((laws_eqIntS.f kj30 t532 t514).bind fun t554 => (if t554 = true then (laws_FnExactOutageRepair.j1 kj30 l0 l2 t514 t517 t532 (t535 != t517) a1_0 l1_1 a3_0 a3_1 a3_2) else (laws_FnExactOutageRepair.j1 kj30 l0 l2 t514 t517 t532 true a1_0 l1_1 a3_0 a3_1 a3_2)))))) else (some false)))) else (some false)))) else (some false)))) = some r := by rw [if_neg (show ¬ (false = true) by decide)] at H; exact H
   clear H
   have H := H1
   clear H1
   replace H := oB_q.mp H
   obtain ⟨t537, A680, H⟩ := H
   replace H : ((laws_eqStepS.f kj30 t518 t537).bind fun t540 => (if t540 = true then ((laws_toKitchen.f kj30 a1_0 l1_1).bind fun bt541 => ((laws_eqKitchen.f kj30 t521 t522 bt541.1 bt541.2).bind fun t545 => (if t545 = true then ((laws_toIntS.f kj30 l2).bind fun t546 => ((laws_eqIntS.f kj30 t526 t546).bind fun t549 => (if t549 = true then ((laws_markKitchen.f kj30 t521 t522 (markStepF t518 1)).bind fun bt550 => ((laws_markIntS.f kj30 t526 bt550.1).bind fun bt552 => (if bt552.1 < 0 then (laws_FnExactOutageRepair.j1 kj30 l0 l2 t514 t517 t532 true a1_0 l1_1 a3_0 a3_1 a3_2) else ((laws_eqIntS.f kj30 t532 t514).bind fun t554 => (if t554 = true then (laws_FnExactOutageRepair.j1 kj30 l0 l2 t514 t517 t532 (t535 != t517) a1_0 l1_1 a3_0 a3_1 a3_2) else (laws_FnExactOutageRepair.j1 kj30 l0 l2 t514 t517 t532 true a1_0 l1_1 a3_0 a3_1 a3_2)))))) else (some false)))) else (some false)))) else (some false))) = some r := H
   have A68 := Ae_q A680
   clear A680
   replace H := oB_q.mp H
   obtain ⟨t540, A690, H⟩ := H
   replace H : (if t540 = true then ((laws_toKitchen.f kj30 a1_0 l1_1).bind fun bt541 => ((laws_eqKitchen.f kj30 t521 t522 bt541.1 bt541.2).bind fun t545 => (if t545 = true then ((laws_toIntS.f kj30 l2).bind fun t546 => ((laws_eqIntS.f kj30 t526 t546).bind fun t549 => (if t549 = true then ((laws_markKitchen.f kj30 t521 t522 (markStepF t518 1)).bind fun bt550 => ((laws_markIntS.f kj30 t526 bt550.1).bind fun bt552 => (if bt552.1 < 0 then (laws_FnExactOutageRepair.j1 kj30 l0 l2 t514 t517 t532 true a1_0 l1_1 a3_0 a3_1 a3_2) else ((laws_eqIntS.f kj30 t532 t514).bind fun t554 => (if t554 = true then (laws_FnExactOutageRepair.j1 kj30 l0 l2 t514 t517 t532 (t535 != t517) a1_0 l1_1 a3_0 a3_1 a3_2) else (laws_FnExactOutageRepair.j1 kj30 l0 l2 t514 t517 t532 true a1_0 l1_1 a3_0 a3_1 a3_2)))))) else (some false)))) else (some false)))) else (some false)) = some r := H
   have A69 := Ae_q A690
   clear A690
   by_cases c70 : t540 = true
   rotate_left
   ·replace c70 := fM_q.mpr c70
    subst c70
    have H1 : (some false) = some r := by rw [if_neg (show ¬ (false = true) by decide)] at H; exact H
    clear H
    have H := H1
    clear H1
    obtain rfl := oI_q H
    go_wp2_with (first | ((with_reducible refine gC_q (f := 12) rfl ?_); refine gL_q (some 73) rfl rfl Try.func12 m7_q rfl #[.slice A0 l0.length c0] rfl m1_q ?_; (with_reducible refine (laws_toStepS.calls kj30 _ _ l0 t537 _ ?side1 ?side2 A68.out).mono ?_); (case side1 => exact m20_q); (case side2 => exact m57_q); rintro e w' ⟨v538, rfl, ho0, hb⟩; refine ⟨_, rfl, ?_⟩; have HO539 := Ae_q (Kd.S_lower (Kd.S_new' (Kd.S_new' (Kd.S_new' (Kd.S_new' (Kd.S_new' ho0 (rT_q (rup HO_10.out))) (Kd.S_lt m13_q)) (rT_q (rup HO_14.out))) (rT_q (rup HO_15.out))) (rT_q (rup HO_526001.out))) (bZ_q m2_q)); replace HO_10 := Ae_q (rO_q (rup HO_10.out) hb); replace HO_12 := Ae_q (Kd.S_elder' m13_q (Kd.S_base ho0) hb); replace HO_14 := Ae_q (rO_q (rup HO_14.out) hb); replace HO_15 := Ae_q (rO_q (rup HO_15.out) hb); replace HO_526001 := Ae_q (rO_q (rup HO_526001.out) hb); replace BK497 := Ae_q (bB_q (g := gb497) (o := .cells #[.int .i64 a1_0, .slice A1_1 l1_1.length c1_1] 39 (0, 0)) (bup BK497.out) hb); replace BK498 := Ae_q (bB_q (g := gb498) (o := .cells #[.int .i64 a3_0, .int .i64 a3_1, .int .i64 a3_2] 25 (0, 0)) (bup BK498.out) hb); replace BK525 := Ae_q (bB_q (g := gb525) (o := .cells #[.int .i64 t521, .slice Ao54 t522.length co54] 43 (0, 0)) (bup BK525.out) hb); replace HB := Ae_q (bT_q m2_q hb); (try clear hb); (try clear hb2); (try clear hk); (try clear hi); (try clear ho0); obtain ⟨Ao154, co154, eo154⟩ := Kd.S_slice HO539.out; subst eo154) | ((with_reducible refine gC_q (f := 17) rfl ?_); refine gL_q (some 74) rfl rfl Try.func17 m7_q rfl #[.slice Ao58 t518.length co58, .slice Ao154 t537.length co154] rfl m1_q ?_; (with_reducible refine (laws_eqStepS.calls kj30 _ _ t518 _ _ t537 false _ ?side1 ?side2 ?side3 ?side4 A69.out).mono ?_); (case side1 => exact m55_q); (case side2 => exact m122_q); (case side3 => exact m56_q); (case side4 => exact m123_q); rintro e w' ⟨rfl, hb⟩; refine ⟨_, rfl, ?_⟩; replace HO_10 := Ae_q (rO_q (rup HO_10.out) hb); replace HO_12 := Ae_q (Kd.S_below m13_q hb); replace HO_14 := Ae_q (rO_q (rup HO_14.out) hb); replace HO_15 := Ae_q (rO_q (rup HO_15.out) hb); replace HO_526001 := Ae_q (rO_q (rup HO_526001.out) hb); replace HO539 := Ae_q (Kd.S_below m31_q hb); replace BK497 := Ae_q (bB_q (g := gb497) (o := .cells #[.int .i64 a1_0, .slice A1_1 l1_1.length c1_1] 39 (0, 0)) (bup BK497.out) hb); replace BK498 := Ae_q (bB_q (g := gb498) (o := .cells #[.int .i64 a3_0, .int .i64 a3_1, .int .i64 a3_2] 25 (0, 0)) (bup BK498.out) hb); replace BK525 := Ae_q (bB_q (g := gb525) (o := .cells #[.int .i64 t521, .slice Ao54 t522.length co54] 43 (0, 0)) (bup BK525.out) hb); replace HB := Ae_q (bT_q m2_q hb); (try clear hb); (try clear hb2); (try clear hk); (try clear hi)) | (go_at_call 18; (refine (laws_markStepS.calls _ _ t518 1 _ w _ (bel HB.out) (Kd.S_R (Kd.S_bound m13_q)) rfl).mono ?_); rintro e w_mk ⟨rfl, hb, hkp⟩; have b0_ := Ae_q (mk_blk (bup BK497.out) hkp (fun hp => mk_tyb (bup BK497.out) hp.2.2.2 (by decide))); have b1_ := Ae_q (mk_blk (bup BK498.out) hkp (fun hp => mk_tyb (bup BK498.out) hp.2.2.2 (by decide))); have b2_ := Ae_q (mk_blk (bup BK525.out) hkp (fun hp => mk_tyb (bup BK525.out) hp.2.2.2 (by decide))); have n0_ := Ae_q (mk_keep rfl (rup HO_10.out) hkp (fun k e hp => by first | exact hp.2 e.symm | exact hp.1.2 e.symm | exact hp.1.1.2 e.symm | exact hp.1.1.1.2 e.symm | exact hp.1.1.1.1.2 e.symm | exact hp.1.1.1.1.1.2 e.symm | exact hp.1.1.1.1.1.1.2 e.symm | exact hp.1.1.1.1.1.1.1.2 e.symm | exact hp.1.1.1.1.1.1.1.1.2 e.symm | exact hp.1.1.1.1.1.1.1.1.1.2 e.symm | exact hp.1 e.symm | (rw [← e] at hp; simp only [ne_eq, not_true_eq_false, and_false, false_and] at hp; done) | exact mk_ty (rup HO_10.out) e hp.2.2.2 (by decide))); have n1_ := Ae_q (mk_keep rfl (rup HO_14.out) hkp (fun k e hp => by first | exact hp.2 e.symm | exact hp.1.2 e.symm | exact hp.1.1.2 e.symm | exact hp.1.1.1.2 e.symm | exact hp.1.1.1.1.2 e.symm | exact hp.1.1.1.1.1.2 e.symm | exact hp.1.1.1.1.1.1.2 e.symm | exact hp.1.1.1.1.1.1.1.2 e.symm | exact hp.1.1.1.1.1.1.1.1.2 e.symm | exact hp.1.1.1.1.1.1.1.1.1.2 e.symm | exact hp.1 e.symm | (rw [← e] at hp; simp only [ne_eq, not_true_eq_false, and_false, false_and] at hp; done) | exact mk_ty (rup HO_14.out) e hp.2.2.2 (by decide))); have n2_ := Ae_q (mk_keep rfl (rup HO_15.out) hkp (fun k e hp => by first | exact hp.2 e.symm | exact hp.1.2 e.symm | exact hp.1.1.2 e.symm | exact hp.1.1.1.2 e.symm | exact hp.1.1.1.1.2 e.symm | exact hp.1.1.1.1.1.2 e.symm | exact hp.1.1.1.1.1.1.2 e.symm | exact hp.1.1.1.1.1.1.1.2 e.symm | exact hp.1.1.1.1.1.1.1.1.2 e.symm | exact hp.1.1.1.1.1.1.1.1.1.2 e.symm | exact hp.1 e.symm | (rw [← e] at hp; simp only [ne_eq, not_true_eq_false, and_false, false_and] at hp; done) | exact mk_ty (rup HO_15.out) e hp.2.2.2 (by decide))); have n3_ := Ae_q (mk_keep rfl (rup HO_526001.out) hkp (fun k e hp => by first | exact hp.2 e.symm | exact hp.1.2 e.symm | exact hp.1.1.2 e.symm | exact hp.1.1.1.2 e.symm | exact hp.1.1.1.1.2 e.symm | exact hp.1.1.1.1.1.2 e.symm | exact hp.1.1.1.1.1.1.2 e.symm | exact hp.1.1.1.1.1.1.1.2 e.symm | exact hp.1.1.1.1.1.1.1.1.2 e.symm | exact hp.1.1.1.1.1.1.1.1.1.2 e.symm | exact hp.1 e.symm | (rw [← e] at hp; simp only [ne_eq, not_true_eq_false, and_false, false_and] at hp; done) | exact mk_ty (rup HO_526001.out) e hp.2.2.2 (by decide))); have nB_ := Ae_q hb; clear HO_10; clear HO_14; clear HO_15; clear HO_526001; clear HO_12; clear HO539; clear HB; clear BK497; have BK497 := b0_; clear b0_; clear BK498; have BK498 := b1_; clear b1_; clear BK525; have BK525 := b2_; clear b2_; have HO_10 := n0_; have HO_14 := n1_; have HO_15 := n2_; have HO_526001 := n3_; have HB := nB_; clear nB_; clear n0_ n1_ n2_ n3_; clear hb; clear hkp))
    go_ret
    exact ⟨m4_q, m2_q⟩
   subst c70
   have H1 : ((laws_toKitchen.f kj30 a1_0 l1_1).bind fun bt541 => ((laws_eqKitchen.f kj30 t521 t522 bt541.1 bt541.2).bind fun t545 => (if t545 = true then ((laws_toIntS.f kj30 l2).bind fun t546 => ((laws_eqIntS.f kj30 t526 t546).bind fun t549 => (if t549 = true then ((laws_markKitchen.f kj30 t521 t522 (markStepF t518 1)).bind fun bt550 => ((laws_markIntS.f kj30 t526 bt550.1).bind fun bt552 => (if bt552.1 < 0 then (laws_FnExactOutageRepair.j1 kj30 l0 l2 t514 t517 t532 true a1_0 l1_1 a3_0 a3_1 a3_2) else ((laws_eqIntS.f kj30 t532 t514).bind fun t554 => (if t554 = true then (laws_FnExactOutageRepair.j1 kj30 l0 l2 t514 t517 t532 (t535 != t517) a1_0 l1_1 a3_0 a3_1 a3_2) else (laws_FnExactOutageRepair.j1 kj30 l0 l2 t514 t517 t532 true a1_0 l1_1 a3_0 a3_1 a3_2)))))) else (some false)))) else (some false)))) = some r := by rw [if_pos rfl] at H; exact H
   clear H
   have H := H1
   clear H1
   replace H := oB_q.mp H
   obtain ⟨⟨t541, t542⟩, A710, H⟩ := H
   replace H : ((laws_eqKitchen.f kj30 t521 t522 t541 t542).bind fun t545 => (if t545 = true then ((laws_toIntS.f kj30 l2).bind fun t546 => ((laws_eqIntS.f kj30 t526 t546).bind fun t549 => (if t549 = true then ((laws_markKitchen.f kj30 t521 t522 (markStepF t518 1)).bind fun bt550 => ((laws_markIntS.f kj30 t526 bt550.1).bind fun bt552 => (if bt552.1 < 0 then (laws_FnExactOutageRepair.j1 kj30 l0 l2 t514 t517 t532 true a1_0 l1_1 a3_0 a3_1 a3_2) else ((laws_eqIntS.f kj30 t532 t514).bind fun t554 => (if t554 = true then (laws_FnExactOutageRepair.j1 kj30 l0 l2 t514 t517 t532 (t535 != t517) a1_0 l1_1 a3_0 a3_1 a3_2) else (laws_FnExactOutageRepair.j1 kj30 l0 l2 t514 t517 t532 true a1_0 l1_1 a3_0 a3_1 a3_2)))))) else (some false)))) else (some false))) = some r := H
   have A71 := Ae_q A710
   clear A710
   replace H := oB_q.mp H
   obtain ⟨t545, A720, H⟩ := H
   replace H : (if t545 = true then ((laws_toIntS.f kj30 l2).bind fun t546 => ((laws_eqIntS.f kj30 t526 t546).bind fun t549 => (if t549 = true then ((laws_markKitchen.f kj30 t521 t522 (markStepF t518 1)).bind fun bt550 => ((laws_markIntS.f kj30 t526 bt550.1).bind fun bt552 => (if bt552.1 < 0 then (laws_FnExactOutageRepair.j1 kj30 l0 l2 t514 t517 t532 true a1_0 l1_1 a3_0 a3_1 a3_2) else ((laws_eqIntS.f kj30 t532 t514).bind fun t554 => (if t554 = true then (laws_FnExactOutageRepair.j1 kj30 l0 l2 t514 t517 t532 (t535 != t517) a1_0 l1_1 a3_0 a3_1 a3_2) else (laws_FnExactOutageRepair.j1 kj30 l0 l2 t514 t517 t532 true a1_0 l1_1 a3_0 a3_1 a3_2)))))) else (some false)))) else (some false)) = some r := H
   have A72 := Ae_q A720
   clear A720
   by_cases c73 : t545 = true
   rotate_left
   ·replace c73 := fM_q.mpr c73
    subst c73
    have H1 : (some false) = some r := by rw [if_neg (show ¬ (false = true) by decide)] at H; exact H
    clear H
    have H := H1
    clear H1
    obtain rfl := oI_q H
    try go_wp2_with (first | ((with_reducible refine gC_q (f := 12) rfl ?_); refine gL_q (some 73) rfl rfl Try.func12 m7_q rfl #[.slice A0 l0.length c0] rfl m1_q ?_; (with_reducible refine (laws_toStepS.calls kj30 _ _ l0 t537 _ ?side1 ?side2 A68.out).mono ?_); (case side1 => exact m20_q); (case side2 => exact m57_q); rintro e w' ⟨v538, rfl, ho0, hb⟩; refine ⟨_, rfl, ?_⟩; have HO539 := Ae_q (Kd.S_lower (Kd.S_new' (Kd.S_new' (Kd.S_new' (Kd.S_new' (Kd.S_new' ho0 (rT_q (rup HO_10.out))) (Kd.S_lt m13_q)) (rT_q (rup HO_14.out))) (rT_q (rup HO_15.out))) (rT_q (rup HO_526001.out))) (bZ_q m2_q)); replace HO_10 := Ae_q (rO_q (rup HO_10.out) hb); replace HO_12 := Ae_q (Kd.S_elder' m13_q (Kd.S_base ho0) hb); replace HO_14 := Ae_q (rO_q (rup HO_14.out) hb); replace HO_15 := Ae_q (rO_q (rup HO_15.out) hb); replace HO_526001 := Ae_q (rO_q (rup HO_526001.out) hb); replace BK497 := Ae_q (bB_q (g := gb497) (o := .cells #[.int .i64 a1_0, .slice A1_1 l1_1.length c1_1] 39 (0, 0)) (bup BK497.out) hb); replace BK498 := Ae_q (bB_q (g := gb498) (o := .cells #[.int .i64 a3_0, .int .i64 a3_1, .int .i64 a3_2] 25 (0, 0)) (bup BK498.out) hb); replace BK525 := Ae_q (bB_q (g := gb525) (o := .cells #[.int .i64 t521, .slice Ao54 t522.length co54] 43 (0, 0)) (bup BK525.out) hb); replace HB := Ae_q (bT_q m2_q hb); (try clear hb); (try clear hb2); (try clear hk); (try clear hi); (try clear ho0); obtain ⟨Ao147, co147, eo147⟩ := Kd.S_slice HO539.out; subst eo147) | ((with_reducible refine gC_q (f := 17) rfl ?_); refine gL_q (some 74) rfl rfl Try.func17 m7_q rfl #[.slice Ao58 t518.length co58, .slice Ao147 t537.length co147] rfl m1_q ?_; (with_reducible refine (laws_eqStepS.calls kj30 _ _ t518 _ _ t537 true _ ?side1 ?side2 ?side3 ?side4 A69.out).mono ?_); (case side1 => exact m55_q); (case side2 => exact m122_q); (case side3 => exact m56_q); (case side4 => exact m123_q); rintro e w148 ⟨rfl, hb⟩; refine ⟨_, rfl, ?_⟩; replace HO_10 := Ae_q (rO_q (rup HO_10.out) hb); replace HO_12 := Ae_q (Kd.S_below m13_q hb); replace HO_14 := Ae_q (rO_q (rup HO_14.out) hb); replace HO_15 := Ae_q (rO_q (rup HO_15.out) hb); replace HO_526001 := Ae_q (rO_q (rup HO_526001.out) hb); replace HO539 := Ae_q (Kd.S_below m31_q hb); replace BK497 := Ae_q (bB_q (g := gb497) (o := .cells #[.int .i64 a1_0, .slice A1_1 l1_1.length c1_1] 39 (0, 0)) (bup BK497.out) hb); replace BK498 := Ae_q (bB_q (g := gb498) (o := .cells #[.int .i64 a3_0, .int .i64 a3_1, .int .i64 a3_2] 25 (0, 0)) (bup BK498.out) hb); replace BK525 := Ae_q (bB_q (g := gb525) (o := .cells #[.int .i64 t521, .slice Ao54 t522.length co54] 43 (0, 0)) (bup BK525.out) hb); replace HB := Ae_q (bT_q m2_q hb); (try clear hb); (try clear hb2); (try clear hk); (try clear hi)) | (go_at_call 18; (refine (laws_markStepS.calls _ _ t518 1 _ w _ (bel HB.out) (Kd.S_R (Kd.S_bound m13_q)) rfl).mono ?_); rintro e w_mk ⟨rfl, hb, hkp⟩; have b0_ := Ae_q (mk_blk (bup BK497.out) hkp (fun hp => mk_tyb (bup BK497.out) hp.2.2.2 (by decide))); have b1_ := Ae_q (mk_blk (bup BK498.out) hkp (fun hp => mk_tyb (bup BK498.out) hp.2.2.2 (by decide))); have b2_ := Ae_q (mk_blk (bup BK525.out) hkp (fun hp => mk_tyb (bup BK525.out) hp.2.2.2 (by decide))); have n0_ := Ae_q (mk_keep rfl (rup HO_10.out) hkp (fun k e hp => by first | exact hp.2 e.symm | exact hp.1.2 e.symm | exact hp.1.1.2 e.symm | exact hp.1.1.1.2 e.symm | exact hp.1.1.1.1.2 e.symm | exact hp.1.1.1.1.1.2 e.symm | exact hp.1.1.1.1.1.1.2 e.symm | exact hp.1.1.1.1.1.1.1.2 e.symm | exact hp.1.1.1.1.1.1.1.1.2 e.symm | exact hp.1.1.1.1.1.1.1.1.1.2 e.symm | exact hp.1 e.symm | (rw [← e] at hp; simp only [ne_eq, not_true_eq_false, and_false, false_and] at hp; done) | exact mk_ty (rup HO_10.out) e hp.2.2.2 (by decide))); have n1_ := Ae_q (mk_keep rfl (rup HO_14.out) hkp (fun k e hp => by first | exact hp.2 e.symm | exact hp.1.2 e.symm | exact hp.1.1.2 e.symm | exact hp.1.1.1.2 e.symm | exact hp.1.1.1.1.2 e.symm | exact hp.1.1.1.1.1.2 e.symm | exact hp.1.1.1.1.1.1.2 e.symm | exact hp.1.1.1.1.1.1.1.2 e.symm | exact hp.1.1.1.1.1.1.1.1.2 e.symm | exact hp.1.1.1.1.1.1.1.1.1.2 e.symm | exact hp.1 e.symm | (rw [← e] at hp; simp only [ne_eq, not_true_eq_false, and_false, false_and] at hp; done) | exact mk_ty (rup HO_14.out) e hp.2.2.2 (by decide))); have n2_ := Ae_q (mk_keep rfl (rup HO_15.out) hkp (fun k e hp => by first | exact hp.2 e.symm | exact hp.1.2 e.symm | exact hp.1.1.2 e.symm | exact hp.1.1.1.2 e.symm | exact hp.1.1.1.1.2 e.symm | exact hp.1.1.1.1.1.2 e.symm | exact hp.1.1.1.1.1.1.2 e.symm | exact hp.1.1.1.1.1.1.1.2 e.symm | exact hp.1.1.1.1.1.1.1.1.2 e.symm | exact hp.1.1.1.1.1.1.1.1.1.2 e.symm | exact hp.1 e.symm | (rw [← e] at hp; simp only [ne_eq, not_true_eq_false, and_false, false_and] at hp; done) | exact mk_ty (rup HO_15.out) e hp.2.2.2 (by decide))); have n3_ := Ae_q (mk_keep rfl (rup HO_526001.out) hkp (fun k e hp => by first | exact hp.2 e.symm | exact hp.1.2 e.symm | exact hp.1.1.2 e.symm | exact hp.1.1.1.2 e.symm | exact hp.1.1.1.1.2 e.symm | exact hp.1.1.1.1.1.2 e.symm | exact hp.1.1.1.1.1.1.2 e.symm | exact hp.1.1.1.1.1.1.1.2 e.symm | exact hp.1.1.1.1.1.1.1.1.2 e.symm | exact hp.1.1.1.1.1.1.1.1.1.2 e.symm | exact hp.1 e.symm | (rw [← e] at hp; simp only [ne_eq, not_true_eq_false, and_false, false_and] at hp; done) | exact mk_ty (rup HO_526001.out) e hp.2.2.2 (by decide))); have nB_ := Ae_q hb; clear HO_10; clear HO_14; clear HO_15; clear HO_526001; clear HO_12; clear HO539; clear HB; clear BK497; have BK497 := b0_; clear b0_; clear BK498; have BK498 := b1_; clear b1_; clear BK525; have BK525 := b2_; clear b2_; have HO_10 := n0_; have HO_14 := n1_; have HO_15 := n2_; have HO_526001 := n3_; have HB := nB_; clear nB_; clear n0_ n1_ n2_ n3_; clear hb; clear hkp))
    replace HO_10 := Ae_q (rD_q HO_10.out)
    replace HO_12 := Ae_q (tD_q HO_12.out)
    replace HO_14 := Ae_q (rD_q HO_14.out)
    replace HO_15 := Ae_q (rD_q HO_15.out)
    replace HO_526001 := Ae_q (rD_q HO_526001.out)
    replace HO539 := Ae_q (tD_q HO539.out)
    replace BK497 := Ae_q (bW_q BK497.out)
    replace BK498 := Ae_q (bW_q BK498.out)
    replace BK525 := Ae_q (bW_q BK525.out)
    replace HB := Ae_q (bD_q HB.out)
    refine start_ (n := 5) (S := fun w' => w'.cell? ⟨gb525, 0, none⟩ = some (.int .i64 t521) ∧ w'.cell? ⟨gb525, 1, none⟩ = some (.slice Ao54 t522.length co54) ∧ w'.cell? ⟨gb497, 0, none⟩ = some (.int .i64 a1_0) ∧ w'.cell? ⟨gb497, 1, none⟩ = some (.slice A1_1 l1_1.length c1_1)) (ds := []) #[false, false, false, false, false] m7_q rfl rfl ⟨(bC_q BK525.out 0).trans rfl, (bC_q BK525.out 1).trans rfl, (bC_q BK497.out 0).trans rfl, (bC_q BK497.out 1).trans rfl⟩ (fun hHeld => ?_)
    generalize w148.drew = w149 at HO_10 HO_12 HO_14 HO_15 HO_526001 HO539 BK497 BK498 BK525 HB hHeld ⊢
    refine take_ (i := 0) (N := some 76) (v := ?_) (a' := ?_) #[true, false, false, false, false] rfl rfl m7_q (fun _ _ _ h => h) (Or.inl ⟨by rfl, ?_⟩) hHeld ?_ ?_
    rotate_left
    ·rintro w' ⟨s0, s1, s2, s3⟩
     go_simp
     with_reducible rfl
    rotate_left
    ·simp only [pS_q]
     rfl
    refine take_ (i := 1) (N := some 77) (v := ?_) (a' := ?_) #[true, true, false, false, false] rfl rfl m7_q (fun _ _ _ h => h) (Or.inl ⟨by rfl, ?_⟩) hHeld ?_ ?_
    rotate_left
    ·rintro w' ⟨s0, s1, s2, s3⟩
     go_simp
     with_reducible rfl
    rotate_left
    ·simp only [pS_q]
     rfl
    refine one_ (i := 2) (N := some 78) #[true, true, true, false, false] rfl rfl m7_q (by decide) (fun K hK => ?_)
    refine goes_ Try.func23 m7_q rfl #[.agg #[.int .i64 a1_0, .slice A1_1 l1_1.length c1_1]] (by rfl) rfl rfl m1_q ?_
    with_reducible refine (laws_toKitchen.calls kj30 a1_0 _ _ l1_1 t541 t542 _ ?side1 ?side2 A71.out).mono ?_
    (case side1 => exact m32_q)
    (case side2 => exact m64_q)
    rintro e w' ⟨v543, rfl, ho0, hb⟩
    refine ⟨_, rfl, ?_⟩
    replace HO_12 := Ae_q (Kd.S_elder' m13_q (rB_q ho0) hb)
    replace HO539 := Ae_q (Kd.S_elder' m31_q (rB_q ho0) hb)
    have HO544 := Ae_q (rL_q (rW_q (rW_q (rW_q (rW_q ho0 (rT_q (rup HO_10.out))) (rT_q (rup HO_14.out))) (rT_q (rup HO_15.out))) (rT_q (rup HO_526001.out))) (bZ_q m2_q))
    replace HO_10 := Ae_q (rE_q (rup HO_10.out) (rB_q ho0) hb)
    replace HO_14 := Ae_q (rE_q (rup HO_14.out) (rB_q ho0) hb)
    replace HO_15 := Ae_q (rE_q (rup HO_15.out) (rB_q ho0) hb)
    replace HO_526001 := Ae_q (rE_q (rup HO_526001.out) (rB_q ho0) hb)
    replace BK497 := Ae_q (bB_q (g := gb497) (o := .cells #[.int .i64 a1_0, .slice A1_1 l1_1.length c1_1] 39 (0, 0)) (bup BK497.out) hb)
    replace BK498 := Ae_q (bB_q (g := gb498) (o := .cells #[.int .i64 a3_0, .int .i64 a3_1, .int .i64 a3_2] 25 (0, 0)) (bup BK498.out) hb)
    replace BK525 := Ae_q (bB_q (g := gb525) (o := .cells #[.int .i64 t521, .slice Ao54 t522.length co54] 43 (0, 0)) (bup BK525.out) hb)
    replace HB := Ae_q (bT_q m2_q hb)
    (try clear hb)
    (try clear hb2)
    (try clear hk)
    (try clear hi)
    (try clear ho0)
    obtain ⟨Ao151, co151, eo151⟩ := rS_q HO544.out
    (first | subst eo151 | (injection eo151 with f1_ f2_ f3_; have f4_ := f1_.symm; have f5_ := f3_.symm; clear f1_ f2_ f3_; subst f4_; subst f5_))
    refine hK.out _ _ ⟨(bC_q BK525.out 0).trans rfl, (bC_q BK525.out 1).trans rfl, (bC_q BK497.out 0).trans rfl, (bC_q BK497.out 1).trans rfl⟩ (fun hHeld => ?_)
    clear hK K
    refine nJ_q ?_
    refine one_ (i := 3) (N := some 79) #[true, true, true, true, false] rfl rfl m7_q (by decide) (fun K hK => ?_)
    refine goes_ Try.func25 m7_q rfl #[.agg #[.int .i64 t521, .slice Ao54 t522.length co54], .agg #[.int .i64 t541, .slice Ao151 t542.length co151]] (by rfl) rfl rfl m1_q ?_
    with_reducible refine (laws_eqKitchen.calls kj30 t521 _ _ t522 t541 _ _ t542 false _ ?side1 ?side2 ?side3 ?side4 A72.out).mono ?_
    (case side1 => exact cup (rR_q HO_526001.out).2.2)
    (case side2 => exact (rR_q HO_526001.out).2.1)
    (case side3 => exact cup (rR_q HO544.out).2.2)
    (case side4 => exact (rR_q HO544.out).2.1)
    rintro e w' ⟨rfl, hb⟩
    refine ⟨_, rfl, ?_⟩
    replace HO_10 := Ae_q (rO_q (rup HO_10.out) hb)
    replace HO_12 := Ae_q (Kd.S_below m13_q hb)
    replace HO_14 := Ae_q (rO_q (rup HO_14.out) hb)
    replace HO_15 := Ae_q (rO_q (rup HO_15.out) hb)
    replace HO_526001 := Ae_q (rO_q (rup HO_526001.out) hb)
    replace HO539 := Ae_q (Kd.S_below m31_q hb)
    replace HO544 := Ae_q (rO_q (rup HO544.out) hb)
    replace BK497 := Ae_q (bB_q (g := gb497) (o := .cells #[.int .i64 a1_0, .slice A1_1 l1_1.length c1_1] 39 (0, 0)) (bup BK497.out) hb)
    replace BK498 := Ae_q (bB_q (g := gb498) (o := .cells #[.int .i64 a3_0, .int .i64 a3_1, .int .i64 a3_2] 25 (0, 0)) (bup BK498.out) hb)
    replace BK525 := Ae_q (bB_q (g := gb525) (o := .cells #[.int .i64 t521, .slice Ao54 t522.length co54] 43 (0, 0)) (bup BK525.out) hb)
    replace HB := Ae_q (bT_q m2_q hb)
    (try clear hb)
    (try clear hb2)
    (try clear hk)
    (try clear hi)
    refine hK.out _ _ ⟨(bC_q BK525.out 0).trans rfl, (bC_q BK525.out 1).trans rfl, (bC_q BK497.out 0).trans rfl, (bC_q BK497.out 1).trans rfl⟩ (fun hHeld => ?_)
    clear hK K
    refine nJ_q ?_
    refine pure_ (i := 4) (N := some 80) (v := ?_) (a' := ?_) #[true, true, true, true, true] rfl rfl m7_q (fun _ _ _ h => h) (Or.inl ⟨by rfl, ?_⟩) ?_ ?_
    rotate_left
    ·intro w'
     go_simp
     with_reducible rfl
    rotate_left
    ·simp only [pS_q]
     rfl
    refine done_ m7_q ?_
    try go_wp2
    go_ret
    exact ⟨m4_q, m2_q⟩
   subst c73
   have H1 : ((laws_toIntS.f kj30 l2).bind fun t546 => ((laws_eqIntS.f kj30 t526 t546).bind fun t549 => (if t549 = true then ((laws_markKitchen.f kj30 t521 t522 (markStepF t518 1)).bind fun bt550 => ((laws_markIntS.f kj30 t526 bt550.1).bind fun bt552 => (if bt552.1 < 0 then (laws_FnExactOutageRepair.j1 kj30 l0 l2 t514 t517 t532 true a1_0 l1_1 a3_0 a3_1 a3_2) else ((laws_eqIntS.f kj30 t532 t514).bind fun t554 => (if t554 = true then (laws_FnExactOutageRepair.j1 kj30 l0 l2 t514 t517 t532 (t535 != t517) a1_0 l1_1 a3_0 a3_1 a3_2) else (laws_FnExactOutageRepair.j1 kj30 l0 l2 t514 t517 t532 true a1_0 l1_1 a3_0 a3_1 a3_2)))))) else (some false)))) = some r := by rw [if_pos rfl] at H; exact H
   clear H
   have H := H1
   clear H1
   replace H := oB_q.mp H
   obtain ⟨t546, A740, H⟩ := H
   replace H : ((laws_eqIntS.f kj30 t526 t546).bind fun t549 => (if t549 = true then ((laws_markKitchen.f kj30 t521 t522 (markStepF t518 1)).bind fun bt550 => ((laws_markIntS.f kj30 t526 bt550.1).bind fun bt552 => (if bt552.1 < 0 then (laws_FnExactOutageRepair.j1 kj30 l0 l2 t514 t517 t532 true a1_0 l1_1 a3_0 a3_1 a3_2) else ((laws_eqIntS.f kj30 t532 t514).bind fun t554 => (if t554 = true then (laws_FnExactOutageRepair.j1 kj30 l0 l2 t514 t517 t532 (t535 != t517) a1_0 l1_1 a3_0 a3_1 a3_2) else (laws_FnExactOutageRepair.j1 kj30 l0 l2 t514 t517 t532 true a1_0 l1_1 a3_0 a3_1 a3_2)))))) else (some false))) = some r := H
   have A74 := Ae_q A740
   clear A740
   replace H := oB_q.mp H
   obtain ⟨t549, A750, H⟩ := H
   replace H : (if t549 = true then ((laws_markKitchen.f kj30 t521 t522 (markStepF t518 1)).bind fun bt550 => ((laws_markIntS.f kj30 t526 bt550.1).bind fun bt552 => (if bt552.1 < 0 then (laws_FnExactOutageRepair.j1 kj30 l0 l2 t514 t517 t532 true a1_0 l1_1 a3_0 a3_1 a3_2) else ((laws_eqIntS.f kj30 t532 t514).bind fun t554 => (if t554 = true then (laws_FnExactOutageRepair.j1 kj30 l0 l2 t514 t517 t532 (t535 != t517) a1_0 l1_1 a3_0 a3_1 a3_2) else (laws_FnExactOutageRepair.j1 kj30 l0 l2 t514 t517 t532 true a1_0 l1_1 a3_0 a3_1 a3_2)))))) else (some false)) = some r := H
   have A75 := Ae_q A750
   clear A750
   by_cases c76 : t549 = true
   rotate_left
   ·replace c76 := fM_q.mpr c76
    subst c76
    have H1 : (some false) = some r := by rw [if_neg (show ¬ (false = true) by decide)] at H; exact H
    clear H
    have H := H1
    clear H1
    obtain rfl := oI_q H
    try go_wp2_with (first | ((with_reducible refine gC_q (f := 12) rfl ?_); refine gL_q (some 73) rfl rfl Try.func12 m7_q rfl #[.slice A0 l0.length c0] rfl m1_q ?_; (with_reducible refine (laws_toStepS.calls kj30 _ _ l0 t537 _ ?side1 ?side2 A68.out).mono ?_); (case side1 => exact m20_q); (case side2 => exact m57_q); rintro e w' ⟨v538, rfl, ho0, hb⟩; refine ⟨_, rfl, ?_⟩; have HO539 := Ae_q (Kd.S_lower (Kd.S_new' (Kd.S_new' (Kd.S_new' (Kd.S_new' (Kd.S_new' ho0 (rT_q (rup HO_10.out))) (Kd.S_lt m13_q)) (rT_q (rup HO_14.out))) (rT_q (rup HO_15.out))) (rT_q (rup HO_526001.out))) (bZ_q m2_q)); replace HO_10 := Ae_q (rO_q (rup HO_10.out) hb); replace HO_12 := Ae_q (Kd.S_elder' m13_q (Kd.S_base ho0) hb); replace HO_14 := Ae_q (rO_q (rup HO_14.out) hb); replace HO_15 := Ae_q (rO_q (rup HO_15.out) hb); replace HO_526001 := Ae_q (rO_q (rup HO_526001.out) hb); replace BK497 := Ae_q (bB_q (g := gb497) (o := .cells #[.int .i64 a1_0, .slice A1_1 l1_1.length c1_1] 39 (0, 0)) (bup BK497.out) hb); replace BK498 := Ae_q (bB_q (g := gb498) (o := .cells #[.int .i64 a3_0, .int .i64 a3_1, .int .i64 a3_2] 25 (0, 0)) (bup BK498.out) hb); replace BK525 := Ae_q (bB_q (g := gb525) (o := .cells #[.int .i64 t521, .slice Ao54 t522.length co54] 43 (0, 0)) (bup BK525.out) hb); replace HB := Ae_q (bT_q m2_q hb); (try clear hb); (try clear hb2); (try clear hk); (try clear hi); (try clear ho0); obtain ⟨Ao138, co138, eo138⟩ := Kd.S_slice HO539.out; subst eo138) | ((with_reducible refine gC_q (f := 17) rfl ?_); refine gL_q (some 74) rfl rfl Try.func17 m7_q rfl #[.slice Ao58 t518.length co58, .slice Ao138 t537.length co138] rfl m1_q ?_; (with_reducible refine (laws_eqStepS.calls kj30 _ _ t518 _ _ t537 true _ ?side1 ?side2 ?side3 ?side4 A69.out).mono ?_); (case side1 => exact m55_q); (case side2 => exact m122_q); (case side3 => exact m56_q); (case side4 => exact m123_q); rintro e w139 ⟨rfl, hb⟩; refine ⟨_, rfl, ?_⟩; replace HO_10 := Ae_q (rO_q (rup HO_10.out) hb); replace HO_12 := Ae_q (Kd.S_below m13_q hb); replace HO_14 := Ae_q (rO_q (rup HO_14.out) hb); replace HO_15 := Ae_q (rO_q (rup HO_15.out) hb); replace HO_526001 := Ae_q (rO_q (rup HO_526001.out) hb); replace HO539 := Ae_q (Kd.S_below m31_q hb); replace BK497 := Ae_q (bB_q (g := gb497) (o := .cells #[.int .i64 a1_0, .slice A1_1 l1_1.length c1_1] 39 (0, 0)) (bup BK497.out) hb); replace BK498 := Ae_q (bB_q (g := gb498) (o := .cells #[.int .i64 a3_0, .int .i64 a3_1, .int .i64 a3_2] 25 (0, 0)) (bup BK498.out) hb); replace BK525 := Ae_q (bB_q (g := gb525) (o := .cells #[.int .i64 t521, .slice Ao54 t522.length co54] 43 (0, 0)) (bup BK525.out) hb); replace HB := Ae_q (bT_q m2_q hb); (try clear hb); (try clear hb2); (try clear hk); (try clear hi)) | (go_at_call 18; (refine (laws_markStepS.calls _ _ t518 1 _ w _ (bel HB.out) (Kd.S_R (Kd.S_bound m13_q)) rfl).mono ?_); rintro e w_mk ⟨rfl, hb, hkp⟩; have b0_ := Ae_q (mk_blk (bup BK497.out) hkp (fun hp => mk_tyb (bup BK497.out) hp.2.2.2 (by decide))); have b1_ := Ae_q (mk_blk (bup BK498.out) hkp (fun hp => mk_tyb (bup BK498.out) hp.2.2.2 (by decide))); have b2_ := Ae_q (mk_blk (bup BK525.out) hkp (fun hp => mk_tyb (bup BK525.out) hp.2.2.2 (by decide))); have n0_ := Ae_q (mk_keep rfl (rup HO_10.out) hkp (fun k e hp => by first | exact hp.2 e.symm | exact hp.1.2 e.symm | exact hp.1.1.2 e.symm | exact hp.1.1.1.2 e.symm | exact hp.1.1.1.1.2 e.symm | exact hp.1.1.1.1.1.2 e.symm | exact hp.1.1.1.1.1.1.2 e.symm | exact hp.1.1.1.1.1.1.1.2 e.symm | exact hp.1.1.1.1.1.1.1.1.2 e.symm | exact hp.1.1.1.1.1.1.1.1.1.2 e.symm | exact hp.1 e.symm | (rw [← e] at hp; simp only [ne_eq, not_true_eq_false, and_false, false_and] at hp; done) | exact mk_ty (rup HO_10.out) e hp.2.2.2 (by decide))); have n1_ := Ae_q (mk_keep rfl (rup HO_14.out) hkp (fun k e hp => by first | exact hp.2 e.symm | exact hp.1.2 e.symm | exact hp.1.1.2 e.symm | exact hp.1.1.1.2 e.symm | exact hp.1.1.1.1.2 e.symm | exact hp.1.1.1.1.1.2 e.symm | exact hp.1.1.1.1.1.1.2 e.symm | exact hp.1.1.1.1.1.1.1.2 e.symm | exact hp.1.1.1.1.1.1.1.1.2 e.symm | exact hp.1.1.1.1.1.1.1.1.1.2 e.symm | exact hp.1 e.symm | (rw [← e] at hp; simp only [ne_eq, not_true_eq_false, and_false, false_and] at hp; done) | exact mk_ty (rup HO_14.out) e hp.2.2.2 (by decide))); have n2_ := Ae_q (mk_keep rfl (rup HO_15.out) hkp (fun k e hp => by first | exact hp.2 e.symm | exact hp.1.2 e.symm | exact hp.1.1.2 e.symm | exact hp.1.1.1.2 e.symm | exact hp.1.1.1.1.2 e.symm | exact hp.1.1.1.1.1.2 e.symm | exact hp.1.1.1.1.1.1.2 e.symm | exact hp.1.1.1.1.1.1.1.2 e.symm | exact hp.1.1.1.1.1.1.1.1.2 e.symm | exact hp.1.1.1.1.1.1.1.1.1.2 e.symm | exact hp.1 e.symm | (rw [← e] at hp; simp only [ne_eq, not_true_eq_false, and_false, false_and] at hp; done) | exact mk_ty (rup HO_15.out) e hp.2.2.2 (by decide))); have n3_ := Ae_q (mk_keep rfl (rup HO_526001.out) hkp (fun k e hp => by first | exact hp.2 e.symm | exact hp.1.2 e.symm | exact hp.1.1.2 e.symm | exact hp.1.1.1.2 e.symm | exact hp.1.1.1.1.2 e.symm | exact hp.1.1.1.1.1.2 e.symm | exact hp.1.1.1.1.1.1.2 e.symm | exact hp.1.1.1.1.1.1.1.2 e.symm | exact hp.1.1.1.1.1.1.1.1.2 e.symm | exact hp.1.1.1.1.1.1.1.1.1.2 e.symm | exact hp.1 e.symm | (rw [← e] at hp; simp only [ne_eq, not_true_eq_false, and_false, false_and] at hp; done) | exact mk_ty (rup HO_526001.out) e hp.2.2.2 (by decide))); have nB_ := Ae_q hb; clear HO_10; clear HO_14; clear HO_15; clear HO_526001; clear HO_12; clear HO539; clear HB; clear BK497; have BK497 := b0_; clear b0_; clear BK498; have BK498 := b1_; clear b1_; clear BK525; have BK525 := b2_; clear b2_; have HO_10 := n0_; have HO_14 := n1_; have HO_15 := n2_; have HO_526001 := n3_; have HB := nB_; clear nB_; clear n0_ n1_ n2_ n3_; clear hb; clear hkp))
    replace HO_10 := Ae_q (rD_q HO_10.out)
    replace HO_12 := Ae_q (tD_q HO_12.out)
    replace HO_14 := Ae_q (rD_q HO_14.out)
    replace HO_15 := Ae_q (rD_q HO_15.out)
    replace HO_526001 := Ae_q (rD_q HO_526001.out)
    replace HO539 := Ae_q (tD_q HO539.out)
    replace BK497 := Ae_q (bW_q BK497.out)
    replace BK498 := Ae_q (bW_q BK498.out)
    replace BK525 := Ae_q (bW_q BK525.out)
    replace HB := Ae_q (bD_q HB.out)
    refine start_ (n := 5) (S := fun w' => w'.cell? ⟨gb525, 0, none⟩ = some (.int .i64 t521) ∧ w'.cell? ⟨gb525, 1, none⟩ = some (.slice Ao54 t522.length co54) ∧ w'.cell? ⟨gb497, 0, none⟩ = some (.int .i64 a1_0) ∧ w'.cell? ⟨gb497, 1, none⟩ = some (.slice A1_1 l1_1.length c1_1)) (ds := []) #[false, false, false, false, false] m7_q rfl rfl ⟨(bC_q BK525.out 0).trans rfl, (bC_q BK525.out 1).trans rfl, (bC_q BK497.out 0).trans rfl, (bC_q BK497.out 1).trans rfl⟩ (fun hHeld => ?_)
    generalize w139.drew = w140 at HO_10 HO_12 HO_14 HO_15 HO_526001 HO539 BK497 BK498 BK525 HB hHeld ⊢
    refine take_ (i := 0) (N := some 76) (v := ?_) (a' := ?_) #[true, false, false, false, false] rfl rfl m7_q (fun _ _ _ h => h) (Or.inl ⟨by rfl, ?_⟩) hHeld ?_ ?_
    rotate_left
    ·rintro w' ⟨s0, s1, s2, s3⟩
     go_simp
     with_reducible rfl
    rotate_left
    ·simp only [pS_q]
     rfl
    refine take_ (i := 1) (N := some 77) (v := ?_) (a' := ?_) #[true, true, false, false, false] rfl rfl m7_q (fun _ _ _ h => h) (Or.inl ⟨by rfl, ?_⟩) hHeld ?_ ?_
    rotate_left
    ·rintro w' ⟨s0, s1, s2, s3⟩
     go_simp
     with_reducible rfl
    rotate_left
    ·simp only [pS_q]
     rfl
    refine one_ (i := 2) (N := some 78) #[true, true, true, false, false] rfl rfl m7_q (by decide) (fun K hK => ?_)
    refine goes_ Try.func23 m7_q rfl #[.agg #[.int .i64 a1_0, .slice A1_1 l1_1.length c1_1]] (by rfl) rfl rfl m1_q ?_
    with_reducible refine (laws_toKitchen.calls kj30 a1_0 _ _ l1_1 t541 t542 _ ?side1 ?side2 A71.out).mono ?_
    (case side1 => exact m32_q)
    (case side2 => exact m64_q)
    rintro e w' ⟨v543, rfl, ho0, hb⟩
    refine ⟨_, rfl, ?_⟩
    replace HO_12 := Ae_q (Kd.S_elder' m13_q (rB_q ho0) hb)
    replace HO539 := Ae_q (Kd.S_elder' m31_q (rB_q ho0) hb)
    have HO544 := Ae_q (rL_q (rW_q (rW_q (rW_q (rW_q ho0 (rT_q (rup HO_10.out))) (rT_q (rup HO_14.out))) (rT_q (rup HO_15.out))) (rT_q (rup HO_526001.out))) (bZ_q m2_q))
    replace HO_10 := Ae_q (rE_q (rup HO_10.out) (rB_q ho0) hb)
    replace HO_14 := Ae_q (rE_q (rup HO_14.out) (rB_q ho0) hb)
    replace HO_15 := Ae_q (rE_q (rup HO_15.out) (rB_q ho0) hb)
    replace HO_526001 := Ae_q (rE_q (rup HO_526001.out) (rB_q ho0) hb)
    replace BK497 := Ae_q (bB_q (g := gb497) (o := .cells #[.int .i64 a1_0, .slice A1_1 l1_1.length c1_1] 39 (0, 0)) (bup BK497.out) hb)
    replace BK498 := Ae_q (bB_q (g := gb498) (o := .cells #[.int .i64 a3_0, .int .i64 a3_1, .int .i64 a3_2] 25 (0, 0)) (bup BK498.out) hb)
    replace BK525 := Ae_q (bB_q (g := gb525) (o := .cells #[.int .i64 t521, .slice Ao54 t522.length co54] 43 (0, 0)) (bup BK525.out) hb)
    replace HB := Ae_q (bT_q m2_q hb)
    (try clear hb)
    (try clear hb2)
    (try clear hk)
    (try clear hi)
    (try clear ho0)
    obtain ⟨Ao142, co142, eo142⟩ := rS_q HO544.out
    (first | subst eo142 | (injection eo142 with f1_ f2_ f3_; have f4_ := f1_.symm; have f5_ := f3_.symm; clear f1_ f2_ f3_; subst f4_; subst f5_))
    refine hK.out _ _ ⟨(bC_q BK525.out 0).trans rfl, (bC_q BK525.out 1).trans rfl, (bC_q BK497.out 0).trans rfl, (bC_q BK497.out 1).trans rfl⟩ (fun hHeld => ?_)
    clear hK K
    refine nJ_q ?_
    refine one_ (i := 3) (N := some 79) #[true, true, true, true, false] rfl rfl m7_q (by decide) (fun K hK => ?_)
    refine goes_ Try.func25 m7_q rfl #[.agg #[.int .i64 t521, .slice Ao54 t522.length co54], .agg #[.int .i64 t541, .slice Ao142 t542.length co142]] (by rfl) rfl rfl m1_q ?_
    with_reducible refine (laws_eqKitchen.calls kj30 t521 _ _ t522 t541 _ _ t542 true _ ?side1 ?side2 ?side3 ?side4 A72.out).mono ?_
    (case side1 => exact cup (rR_q HO_526001.out).2.2)
    (case side2 => exact (rR_q HO_526001.out).2.1)
    (case side3 => exact cup (rR_q HO544.out).2.2)
    (case side4 => exact (rR_q HO544.out).2.1)
    rintro e w' ⟨rfl, hb⟩
    refine ⟨_, rfl, ?_⟩
    replace HO_10 := Ae_q (rO_q (rup HO_10.out) hb)
    replace HO_12 := Ae_q (Kd.S_below m13_q hb)
    replace HO_14 := Ae_q (rO_q (rup HO_14.out) hb)
    replace HO_15 := Ae_q (rO_q (rup HO_15.out) hb)
    replace HO_526001 := Ae_q (rO_q (rup HO_526001.out) hb)
    replace HO539 := Ae_q (Kd.S_below m31_q hb)
    replace HO544 := Ae_q (rO_q (rup HO544.out) hb)
    replace BK497 := Ae_q (bB_q (g := gb497) (o := .cells #[.int .i64 a1_0, .slice A1_1 l1_1.length c1_1] 39 (0, 0)) (bup BK497.out) hb)
    replace BK498 := Ae_q (bB_q (g := gb498) (o := .cells #[.int .i64 a3_0, .int .i64 a3_1, .int .i64 a3_2] 25 (0, 0)) (bup BK498.out) hb)
    replace BK525 := Ae_q (bB_q (g := gb525) (o := .cells #[.int .i64 t521, .slice Ao54 t522.length co54] 43 (0, 0)) (bup BK525.out) hb)
    replace HB := Ae_q (bT_q m2_q hb)
    (try clear hb)
    (try clear hb2)
    (try clear hk)
    (try clear hi)
    refine hK.out _ _ ⟨(bC_q BK525.out 0).trans rfl, (bC_q BK525.out 1).trans rfl, (bC_q BK497.out 0).trans rfl, (bC_q BK497.out 1).trans rfl⟩ (fun hHeld => ?_)
    clear hK K
    refine nJ_q ?_
    refine pure_ (i := 4) (N := some 80) (v := ?_) (a' := ?_) #[true, true, true, true, true] rfl rfl m7_q (fun _ _ _ h => h) (Or.inl ⟨by rfl, ?_⟩) ?_ ?_
    rotate_left
    ·intro w'
     go_simp
     with_reducible rfl
    rotate_left
    ·simp only [pS_q]
     rfl
    refine done_ m7_q ?_
    try go_wp2_with (first | ((with_reducible refine gC_q (f := 13) rfl ?_); refine gL_q (some 83) rfl rfl Try.func13 m7_q rfl #[.slice A2 l2.length c2] rfl m1_q ?_; (with_reducible refine (laws_toIntS.calls kj30 _ _ l2 t546 _ ?side1 ?side2 A74.out).mono ?_); (case side1 => exact m28_q); (case side2 => exact m63_q); rintro e w' ⟨v547, rfl, ho0, hb⟩; refine ⟨_, rfl, ?_⟩; replace HO_12 := Ae_q (Kd.S_elder' m13_q (rB_q ho0) hb); replace HO539 := Ae_q (Kd.S_elder' m31_q (rB_q ho0) hb); have HO548 := Ae_q (rL_q (rW_q (rW_q (rW_q (rW_q (rW_q ho0 (rT_q (rup HO_10.out))) (rT_q (rup HO_14.out))) (rT_q (rup HO_15.out))) (rT_q (rup HO_526001.out))) (rT_q (rup HO544.out))) (bZ_q m2_q)); replace HO_10 := Ae_q (rE_q (rup HO_10.out) (rB_q ho0) hb); replace HO_14 := Ae_q (rE_q (rup HO_14.out) (rB_q ho0) hb); replace HO_15 := Ae_q (rE_q (rup HO_15.out) (rB_q ho0) hb); replace HO_526001 := Ae_q (rE_q (rup HO_526001.out) (rB_q ho0) hb); replace HO544 := Ae_q (rE_q (rup HO544.out) (rB_q ho0) hb); replace BK497 := Ae_q (bB_q (g := gb497) (o := .cells #[.int .i64 a1_0, .slice A1_1 l1_1.length c1_1] 39 (0, 0)) (bup BK497.out) hb); replace BK498 := Ae_q (bB_q (g := gb498) (o := .cells #[.int .i64 a3_0, .int .i64 a3_1, .int .i64 a3_2] 25 (0, 0)) (bup BK498.out) hb); replace BK525 := Ae_q (bB_q (g := gb525) (o := .cells #[.int .i64 t521, .slice Ao54 t522.length co54] 43 (0, 0)) (bup BK525.out) hb); replace HB := Ae_q (bT_q m2_q hb); (try clear hb); (try clear hb2); (try clear hk); (try clear hi); (try clear ho0); obtain ⟨Ao145, co145, eo145⟩ := rS_q HO548.out; subst eo145) | ((with_reducible refine gC_q (f := 16) rfl ?_); refine gL_q (some 84) rfl rfl Try.func16 m7_q rfl #[.slice Ao59 t526.length co59, .slice Ao145 t546.length co145] rfl m1_q ?_; (with_reducible refine (laws_eqIntS.calls kj30 _ _ t526 _ _ t546 false _ ?side1 ?side2 ?side3 ?side4 A75.out).mono ?_); (case side1 => exact cup (rR_q HO_14.out).2.2); (case side2 => exact (rR_q HO_14.out).2.1); (case side3 => exact cup (rR_q HO548.out).2.2); (case side4 => exact (rR_q HO548.out).2.1); rintro e w' ⟨rfl, ⟨nd, rfl⟩⟩; refine ⟨_, rfl, ?_⟩))
    go_ret
    exact ⟨m4_q, m2_q⟩
   subst c76
   have H1 : ((laws_markKitchen.f kj30 t521 t522 (markStepF t518 1)).bind fun bt550 => ((laws_markIntS.f kj30 t526 bt550.1).bind fun bt552 => (if bt552.1 < 0 then (laws_FnExactOutageRepair.j1 kj30 l0 l2 t514 t517 t532 true a1_0 l1_1 a3_0 a3_1 a3_2) else ((laws_eqIntS.f kj30 t532 t514).bind fun t554 => (if t554 = true then (laws_FnExactOutageRepair.j1 kj30 l0 l2 t514 t517 t532 (t535 != t517) a1_0 l1_1 a3_0 a3_1 a3_2) else (laws_FnExactOutageRepair.j1 kj30 l0 l2 t514 t517 t532 true a1_0 l1_1 a3_0 a3_1 a3_2)))))) = some r := by rw [if_pos rfl] at H; exact H
   clear H
   have H := H1
   clear H1
   replace H := oB_q.mp H
   obtain ⟨⟨t550, t551⟩, A770, H⟩ := H
   replace H : ((laws_markIntS.f kj30 t526 t550).bind fun bt552 => (if bt552.1 < 0 then (laws_FnExactOutageRepair.j1 kj30 l0 l2 t514 t517 t532 true a1_0 l1_1 a3_0 a3_1 a3_2) else ((laws_eqIntS.f kj30 t532 t514).bind fun t554 => (if t554 = true then (laws_FnExactOutageRepair.j1 kj30 l0 l2 t514 t517 t532 (t535 != t517) a1_0 l1_1 a3_0 a3_1 a3_2) else (laws_FnExactOutageRepair.j1 kj30 l0 l2 t514 t517 t532 true a1_0 l1_1 a3_0 a3_1 a3_2))))) = some r := H
   have A77 := Ae_q A770
   clear A770
   replace H := oB_q.mp H
   obtain ⟨⟨t552, t553⟩, A780, H⟩ := H
   replace H : (if t552 < 0 then (laws_FnExactOutageRepair.j1 kj30 l0 l2 t514 t517 t532 true a1_0 l1_1 a3_0 a3_1 a3_2) else ((laws_eqIntS.f kj30 t532 t514).bind fun t554 => (if t554 = true then (laws_FnExactOutageRepair.j1 kj30 l0 l2 t514 t517 t532 (t535 != t517) a1_0 l1_1 a3_0 a3_1 a3_2) else (laws_FnExactOutageRepair.j1 kj30 l0 l2 t514 t517 t532 true a1_0 l1_1 a3_0 a3_1 a3_2)))) = some r := H
   have A78 := Ae_q A780
   clear A780
   have HC79 := Ae_q H
   clear H
   try go_wp2_with (first | ((with_reducible refine gC_q (f := 12) rfl ?_); refine gL_q (some 73) rfl rfl Try.func12 m7_q rfl #[.slice A0 l0.length c0] rfl m1_q ?_; (with_reducible refine (laws_toStepS.calls kj30 _ _ l0 t537 _ ?side1 ?side2 A68.out).mono ?_); (case side1 => exact m20_q); (case side2 => exact m57_q); rintro e w' ⟨v538, rfl, ho0, hb⟩; refine ⟨_, rfl, ?_⟩; have HO539 := Ae_q (Kd.S_lower (Kd.S_new' (Kd.S_new' (Kd.S_new' (Kd.S_new' (Kd.S_new' ho0 (rT_q (rup HO_10.out))) (Kd.S_lt m13_q)) (rT_q (rup HO_14.out))) (rT_q (rup HO_15.out))) (rT_q (rup HO_526001.out))) (bZ_q m2_q)); replace HO_10 := Ae_q (rO_q (rup HO_10.out) hb); replace HO_12 := Ae_q (Kd.S_elder' m13_q (Kd.S_base ho0) hb); replace HO_14 := Ae_q (rO_q (rup HO_14.out) hb); replace HO_15 := Ae_q (rO_q (rup HO_15.out) hb); replace HO_526001 := Ae_q (rO_q (rup HO_526001.out) hb); replace BK497 := Ae_q (bB_q (g := gb497) (o := .cells #[.int .i64 a1_0, .slice A1_1 l1_1.length c1_1] 39 (0, 0)) (bup BK497.out) hb); replace BK498 := Ae_q (bB_q (g := gb498) (o := .cells #[.int .i64 a3_0, .int .i64 a3_1, .int .i64 a3_2] 25 (0, 0)) (bup BK498.out) hb); replace BK525 := Ae_q (bB_q (g := gb525) (o := .cells #[.int .i64 t521, .slice Ao54 t522.length co54] 43 (0, 0)) (bup BK525.out) hb); replace HB := Ae_q (bT_q m2_q hb); (try clear hb); (try clear hb2); (try clear hk); (try clear hi); (try clear ho0); obtain ⟨Ao81, co81, eo81⟩ := Kd.S_slice HO539.out; subst eo81) | ((with_reducible refine gC_q (f := 17) rfl ?_); refine gL_q (some 74) rfl rfl Try.func17 m7_q rfl #[.slice Ao58 t518.length co58, .slice Ao81 t537.length co81] rfl m1_q ?_; (with_reducible refine (laws_eqStepS.calls kj30 _ _ t518 _ _ t537 true _ ?side1 ?side2 ?side3 ?side4 A69.out).mono ?_); (case side1 => exact m55_q); (case side2 => exact m122_q); (case side3 => exact m56_q); (case side4 => exact m123_q); rintro e w82 ⟨rfl, hb⟩; refine ⟨_, rfl, ?_⟩; replace HO_10 := Ae_q (rO_q (rup HO_10.out) hb); replace HO_12 := Ae_q (Kd.S_below m13_q hb); replace HO_14 := Ae_q (rO_q (rup HO_14.out) hb); replace HO_15 := Ae_q (rO_q (rup HO_15.out) hb); replace HO_526001 := Ae_q (rO_q (rup HO_526001.out) hb); replace HO539 := Ae_q (Kd.S_below m31_q hb); replace BK497 := Ae_q (bB_q (g := gb497) (o := .cells #[.int .i64 a1_0, .slice A1_1 l1_1.length c1_1] 39 (0, 0)) (bup BK497.out) hb); replace BK498 := Ae_q (bB_q (g := gb498) (o := .cells #[.int .i64 a3_0, .int .i64 a3_1, .int .i64 a3_2] 25 (0, 0)) (bup BK498.out) hb); replace BK525 := Ae_q (bB_q (g := gb525) (o := .cells #[.int .i64 t521, .slice Ao54 t522.length co54] 43 (0, 0)) (bup BK525.out) hb); replace HB := Ae_q (bT_q m2_q hb); (try clear hb); (try clear hb2); (try clear hk); (try clear hi)) | (go_at_call 18; (refine (laws_markStepS.calls _ _ t518 1 _ w _ (bel HB.out) (Kd.S_R (Kd.S_bound m13_q)) rfl).mono ?_); rintro e w_mk ⟨rfl, hb, hkp⟩; have b0_ := Ae_q (mk_blk (bup BK497.out) hkp (fun hp => mk_tyb (bup BK497.out) hp.2.2.2 (by decide))); have b1_ := Ae_q (mk_blk (bup BK498.out) hkp (fun hp => mk_tyb (bup BK498.out) hp.2.2.2 (by decide))); have b2_ := Ae_q (mk_blk (bup BK525.out) hkp (fun hp => mk_tyb (bup BK525.out) hp.2.2.2 (by decide))); have n0_ := Ae_q (mk_keep rfl (rup HO_10.out) hkp (fun k e hp => by first | exact hp.2 e.symm | exact hp.1.2 e.symm | exact hp.1.1.2 e.symm | exact hp.1.1.1.2 e.symm | exact hp.1.1.1.1.2 e.symm | exact hp.1.1.1.1.1.2 e.symm | exact hp.1.1.1.1.1.1.2 e.symm | exact hp.1.1.1.1.1.1.1.2 e.symm | exact hp.1.1.1.1.1.1.1.1.2 e.symm | exact hp.1.1.1.1.1.1.1.1.1.2 e.symm | exact hp.1 e.symm | (rw [← e] at hp; simp only [ne_eq, not_true_eq_false, and_false, false_and] at hp; done) | exact mk_ty (rup HO_10.out) e hp.2.2.2 (by decide))); have n1_ := Ae_q (mk_keep rfl (rup HO_14.out) hkp (fun k e hp => by first | exact hp.2 e.symm | exact hp.1.2 e.symm | exact hp.1.1.2 e.symm | exact hp.1.1.1.2 e.symm | exact hp.1.1.1.1.2 e.symm | exact hp.1.1.1.1.1.2 e.symm | exact hp.1.1.1.1.1.1.2 e.symm | exact hp.1.1.1.1.1.1.1.2 e.symm | exact hp.1.1.1.1.1.1.1.1.2 e.symm | exact hp.1.1.1.1.1.1.1.1.1.2 e.symm | exact hp.1 e.symm | (rw [← e] at hp; simp only [ne_eq, not_true_eq_false, and_false, false_and] at hp; done) | exact mk_ty (rup HO_14.out) e hp.2.2.2 (by decide))); have n2_ := Ae_q (mk_keep rfl (rup HO_15.out) hkp (fun k e hp => by first | exact hp.2 e.symm | exact hp.1.2 e.symm | exact hp.1.1.2 e.symm | exact hp.1.1.1.2 e.symm | exact hp.1.1.1.1.2 e.symm | exact hp.1.1.1.1.1.2 e.symm | exact hp.1.1.1.1.1.1.2 e.symm | exact hp.1.1.1.1.1.1.1.2 e.symm | exact hp.1.1.1.1.1.1.1.1.2 e.symm | exact hp.1.1.1.1.1.1.1.1.1.2 e.symm | exact hp.1 e.symm | (rw [← e] at hp; simp only [ne_eq, not_true_eq_false, and_false, false_and] at hp; done) | exact mk_ty (rup HO_15.out) e hp.2.2.2 (by decide))); have n3_ := Ae_q (mk_keep rfl (rup HO_526001.out) hkp (fun k e hp => by first | exact hp.2 e.symm | exact hp.1.2 e.symm | exact hp.1.1.2 e.symm | exact hp.1.1.1.2 e.symm | exact hp.1.1.1.1.2 e.symm | exact hp.1.1.1.1.1.2 e.symm | exact hp.1.1.1.1.1.1.2 e.symm | exact hp.1.1.1.1.1.1.1.2 e.symm | exact hp.1.1.1.1.1.1.1.1.2 e.symm | exact hp.1.1.1.1.1.1.1.1.1.2 e.symm | exact hp.1 e.symm | (rw [← e] at hp; simp only [ne_eq, not_true_eq_false, and_false, false_and] at hp; done) | exact mk_ty (rup HO_526001.out) e hp.2.2.2 (by decide))); have nB_ := Ae_q hb; clear HO_10; clear HO_14; clear HO_15; clear HO_526001; clear HO_12; clear HO539; clear HB; clear BK497; have BK497 := b0_; clear b0_; clear BK498; have BK498 := b1_; clear b1_; clear BK525; have BK525 := b2_; clear b2_; have HO_10 := n0_; have HO_14 := n1_; have HO_15 := n2_; have HO_526001 := n3_; have HB := nB_; clear nB_; clear n0_ n1_ n2_ n3_; clear hb; clear hkp))
   replace HO_10 := Ae_q (rD_q HO_10.out)
   replace HO_12 := Ae_q (tD_q HO_12.out)
   replace HO_14 := Ae_q (rD_q HO_14.out)
   replace HO_15 := Ae_q (rD_q HO_15.out)
   replace HO_526001 := Ae_q (rD_q HO_526001.out)
   replace HO539 := Ae_q (tD_q HO539.out)
   replace BK497 := Ae_q (bW_q BK497.out)
   replace BK498 := Ae_q (bW_q BK498.out)
   replace BK525 := Ae_q (bW_q BK525.out)
   replace HB := Ae_q (bD_q HB.out)
   refine start_ (n := 5) (S := fun w' => w'.cell? ⟨gb525, 0, none⟩ = some (.int .i64 t521) ∧ w'.cell? ⟨gb525, 1, none⟩ = some (.slice Ao54 t522.length co54) ∧ w'.cell? ⟨gb497, 0, none⟩ = some (.int .i64 a1_0) ∧ w'.cell? ⟨gb497, 1, none⟩ = some (.slice A1_1 l1_1.length c1_1)) (ds := []) #[false, false, false, false, false] m7_q rfl rfl ⟨(bC_q BK525.out 0).trans rfl, (bC_q BK525.out 1).trans rfl, (bC_q BK497.out 0).trans rfl, (bC_q BK497.out 1).trans rfl⟩ (fun hHeld => ?_)
   generalize w82.drew = w83 at HO_10 HO_12 HO_14 HO_15 HO_526001 HO539 BK497 BK498 BK525 HB hHeld ⊢
   refine take_ (i := 0) (N := some 76) (v := ?_) (a' := ?_) #[true, false, false, false, false] rfl rfl m7_q (fun _ _ _ h => h) (Or.inl ⟨by rfl, ?_⟩) hHeld ?_ ?_
   rotate_left
   ·rintro w' ⟨s0, s1, s2, s3⟩
    go_simp
    with_reducible rfl
   rotate_left
   ·simp only [pS_q]
    rfl
   refine take_ (i := 1) (N := some 77) (v := ?_) (a' := ?_) #[true, true, false, false, false] rfl rfl m7_q (fun _ _ _ h => h) (Or.inl ⟨by rfl, ?_⟩) hHeld ?_ ?_
   rotate_left
   ·rintro w' ⟨s0, s1, s2, s3⟩
    go_simp
    with_reducible rfl
   rotate_left
   ·simp only [pS_q]
    rfl
   refine one_ (i := 2) (N := some 78) #[true, true, true, false, false] rfl rfl m7_q (by decide) (fun K hK => ?_)
   refine goes_ Try.func23 m7_q rfl #[.agg #[.int .i64 a1_0, .slice A1_1 l1_1.length c1_1]] (by rfl) rfl rfl m1_q ?_
   with_reducible refine (laws_toKitchen.calls kj30 a1_0 _ _ l1_1 t541 t542 _ ?side1 ?side2 A71.out).mono ?_
   (case side1 => exact m32_q)
   (case side2 => exact m64_q)
   rintro e w' ⟨v543, rfl, ho0, hb⟩
   refine ⟨_, rfl, ?_⟩
   replace HO_12 := Ae_q (Kd.S_elder' m13_q (rB_q ho0) hb)
   replace HO539 := Ae_q (Kd.S_elder' m31_q (rB_q ho0) hb)
   have HO544 := Ae_q (rL_q (rW_q (rW_q (rW_q (rW_q ho0 (rT_q (rup HO_10.out))) (rT_q (rup HO_14.out))) (rT_q (rup HO_15.out))) (rT_q (rup HO_526001.out))) (bZ_q m2_q))
   replace HO_10 := Ae_q (rE_q (rup HO_10.out) (rB_q ho0) hb)
   replace HO_14 := Ae_q (rE_q (rup HO_14.out) (rB_q ho0) hb)
   replace HO_15 := Ae_q (rE_q (rup HO_15.out) (rB_q ho0) hb)
   replace HO_526001 := Ae_q (rE_q (rup HO_526001.out) (rB_q ho0) hb)
   replace BK497 := Ae_q (bB_q (g := gb497) (o := .cells #[.int .i64 a1_0, .slice A1_1 l1_1.length c1_1] 39 (0, 0)) (bup BK497.out) hb)
   replace BK498 := Ae_q (bB_q (g := gb498) (o := .cells #[.int .i64 a3_0, .int .i64 a3_1, .int .i64 a3_2] 25 (0, 0)) (bup BK498.out) hb)
   replace BK525 := Ae_q (bB_q (g := gb525) (o := .cells #[.int .i64 t521, .slice Ao54 t522.length co54] 43 (0, 0)) (bup BK525.out) hb)
   replace HB := Ae_q (bT_q m2_q hb)
   (try clear hb)
   (try clear hb2)
   (try clear hk)
   (try clear hi)
   (try clear ho0)
   obtain ⟨Ao85, co85, eo85⟩ := rS_q HO544.out
   (first | subst eo85 | (injection eo85 with f1_ f2_ f3_; have f4_ := f1_.symm; have f5_ := f3_.symm; clear f1_ f2_ f3_; subst f4_; subst f5_))
   refine hK.out _ _ ⟨(bC_q BK525.out 0).trans rfl, (bC_q BK525.out 1).trans rfl, (bC_q BK497.out 0).trans rfl, (bC_q BK497.out 1).trans rfl⟩ (fun hHeld => ?_)
   clear hK K
   refine nJ_q ?_
   refine one_ (i := 3) (N := some 79) #[true, true, true, true, false] rfl rfl m7_q (by decide) (fun K hK => ?_)
   refine goes_ Try.func25 m7_q rfl #[.agg #[.int .i64 t521, .slice Ao54 t522.length co54], .agg #[.int .i64 t541, .slice Ao85 t542.length co85]] (by rfl) rfl rfl m1_q ?_
   with_reducible refine (laws_eqKitchen.calls kj30 t521 _ _ t522 t541 _ _ t542 true _ ?side1 ?side2 ?side3 ?side4 A72.out).mono ?_
   (case side1 => exact cup (rR_q HO_526001.out).2.2)
   (case side2 => exact (rR_q HO_526001.out).2.1)
   (case side3 => exact cup (rR_q HO544.out).2.2)
   (case side4 => exact (rR_q HO544.out).2.1)
   rintro e w' ⟨rfl, hb⟩
   refine ⟨_, rfl, ?_⟩
   replace HO_10 := Ae_q (rO_q (rup HO_10.out) hb)
   replace HO_12 := Ae_q (Kd.S_below m13_q hb)
   replace HO_14 := Ae_q (rO_q (rup HO_14.out) hb)
   replace HO_15 := Ae_q (rO_q (rup HO_15.out) hb)
   replace HO_526001 := Ae_q (rO_q (rup HO_526001.out) hb)
   replace HO539 := Ae_q (Kd.S_below m31_q hb)
   replace HO544 := Ae_q (rO_q (rup HO544.out) hb)
   replace BK497 := Ae_q (bB_q (g := gb497) (o := .cells #[.int .i64 a1_0, .slice A1_1 l1_1.length c1_1] 39 (0, 0)) (bup BK497.out) hb)
   replace BK498 := Ae_q (bB_q (g := gb498) (o := .cells #[.int .i64 a3_0, .int .i64 a3_1, .int .i64 a3_2] 25 (0, 0)) (bup BK498.out) hb)
   replace BK525 := Ae_q (bB_q (g := gb525) (o := .cells #[.int .i64 t521, .slice Ao54 t522.length co54] 43 (0, 0)) (bup BK525.out) hb)
   replace HB := Ae_q (bT_q m2_q hb)
   (try clear hb)
   (try clear hb2)
   (try clear hk)
   (try clear hi)
   refine hK.out _ _ ⟨(bC_q BK525.out 0).trans rfl, (bC_q BK525.out 1).trans rfl, (bC_q BK497.out 0).trans rfl, (bC_q BK497.out 1).trans rfl⟩ (fun hHeld => ?_)
   clear hK K
   refine nJ_q ?_
   refine pure_ (i := 4) (N := some 80) (v := ?_) (a' := ?_) #[true, true, true, true, true] rfl rfl m7_q (fun _ _ _ h => h) (Or.inl ⟨by rfl, ?_⟩) ?_ ?_
   rotate_left
   ·intro w'
    go_simp
    with_reducible rfl
   rotate_left
   ·simp only [pS_q]
    rfl
   refine done_ m7_q ?_
   go_upto_region 27 with (first | ((with_reducible refine gC_q (f := 13) rfl ?_); refine gL_q (some 83) rfl rfl Try.func13 m7_q rfl #[.slice A2 l2.length c2] rfl m1_q ?_; (with_reducible refine (laws_toIntS.calls kj30 _ _ l2 t546 _ ?side1 ?side2 A74.out).mono ?_); (case side1 => exact m28_q); (case side2 => exact m63_q); rintro e w87 ⟨v547, rfl, ho0, hb⟩; refine ⟨_, rfl, ?_⟩; replace HO_12 := Ae_q (Kd.S_elder' m13_q (rB_q ho0) hb); replace HO539 := Ae_q (Kd.S_elder' m31_q (rB_q ho0) hb); have HO548 := Ae_q (rL_q (rW_q (rW_q (rW_q (rW_q (rW_q ho0 (rT_q (rup HO_10.out))) (rT_q (rup HO_14.out))) (rT_q (rup HO_15.out))) (rT_q (rup HO_526001.out))) (rT_q (rup HO544.out))) (bZ_q m2_q)); replace HO_10 := Ae_q (rE_q (rup HO_10.out) (rB_q ho0) hb); replace HO_14 := Ae_q (rE_q (rup HO_14.out) (rB_q ho0) hb); replace HO_15 := Ae_q (rE_q (rup HO_15.out) (rB_q ho0) hb); replace HO_526001 := Ae_q (rE_q (rup HO_526001.out) (rB_q ho0) hb); replace HO544 := Ae_q (rE_q (rup HO544.out) (rB_q ho0) hb); replace BK497 := Ae_q (bB_q (g := gb497) (o := .cells #[.int .i64 a1_0, .slice A1_1 l1_1.length c1_1] 39 (0, 0)) (bup BK497.out) hb); replace BK498 := Ae_q (bB_q (g := gb498) (o := .cells #[.int .i64 a3_0, .int .i64 a3_1, .int .i64 a3_2] 25 (0, 0)) (bup BK498.out) hb); replace BK525 := Ae_q (bB_q (g := gb525) (o := .cells #[.int .i64 t521, .slice Ao54 t522.length co54] 43 (0, 0)) (bup BK525.out) hb); replace HB := Ae_q (bT_q m2_q hb); (try clear hb); (try clear hb2); (try clear hk); (try clear hi); (try clear ho0); obtain ⟨Ao88, co88, eo88⟩ := rS_q HO548.out; subst eo88) | ((with_reducible refine gC_q (f := 16) rfl ?_); refine gL_q (some 84) rfl rfl Try.func16 m7_q rfl #[.slice Ao59 t526.length co59, .slice Ao88 t546.length co88] rfl m1_q ?_; (with_reducible refine (laws_eqIntS.calls kj30 _ _ t526 _ _ t546 true _ ?side1 ?side2 ?side3 ?side4 A75.out).mono ?_); (case side1 => exact cup (rR_q HO_14.out).2.2); (case side2 => exact (rR_q HO_14.out).2.1); (case side3 => exact cup (rR_q HO548.out).2.2); (case side4 => exact (rR_q HO548.out).2.1); rintro e w' ⟨rfl, ⟨nd, rfl⟩⟩; refine ⟨_, rfl, ?_⟩; have hnb89 := NB525_497.out; have hnc89 := NB497_525.out; have hnb90 := NB525_498.out; have hnc90 := NB498_525.out; have hcz91_0 : cI w87 gb525 0 t521 := cZ BK525 0 rfl; have hcz91_1 : w87.cell? ⟨gb525, 1, none⟩ = some (.slice Ao54 t522.length co54) := (bC_q BK525.out 1).trans rfl; have hfz91_0 := bF_q BK525.out 0; have hfz91_1 := bF_q BK525.out 1) | ((first | ((with_reducible refine gC_q (f := 26) rfl ?_); refine gL_q (some 91) rfl rfl Try.func26 m7_q rfl #[.agg #[.int .i64 t521, .slice Ao54 t522.length co54], .int .i64 (markStepF t518 1)] rfl m1_q ?_; (with_reducible refine (laws_markKitchen.calls kj30 t521 (fun k_ => some k_ = (.slice Ao54 t522.length co54 : Value).ownBlock) (.slice Ao54 t522.length co54) t522 (markStepF t518 1) t550 t551 w _ ?side1 ?side2 A77.out).mono ?_); (case side1 => exact m2_q); (case side2 => exact Kd.R_tight rfl HO_526001.out); rintro e w' ⟨rfl, hy0, hb, hkp⟩; refine ⟨_, rfl, ?_⟩; have n0_ := Ae_q (rM_q (ok' := fun k_ => some k_ ≠ (.slice Ao59 t526.length co59 : Value).ownBlock ∧ some k_ ≠ (v533 : Value).ownBlock ∧ some k_ ≠ (.slice Ao54 t522.length co54 : Value).ownBlock ∧ some k_ ≠ (.slice Ao85 t542.length co85 : Value).ownBlock ∧ some k_ ≠ (.slice Ao88 t546.length co88 : Value).ownBlock) (Kd.R_keptB (HO_10.out) hkp (fun k_ hk_ hs_ => (hk_.1.1.2.2) hs_)) (fun k_ hk_ => ⟨hk_.1.1.1.1, hk_.1.1.1.2.1, hk_.1.1.1.2.2, hk_.1.1.2, hk_.1.2⟩)); have n2_ := Ae_q (rM_q (ok' := fun k_ => some k_ ≠ (v515 : Value).ownBlock ∧ some k_ ≠ (v533 : Value).ownBlock ∧ some k_ ≠ (.slice Ao54 t522.length co54 : Value).ownBlock ∧ some k_ ≠ (.slice Ao85 t542.length co85 : Value).ownBlock ∧ some k_ ≠ (.slice Ao88 t546.length co88 : Value).ownBlock) (Kd.R_keptB (HO_14.out) hkp (fun k_ hk_ hs_ => (hk_.1.1.2.2) hs_)) (fun k_ hk_ => ⟨hk_.1.1.1.1, hk_.1.1.1.2.1, hk_.1.1.1.2.2, hk_.1.1.2, hk_.1.2⟩)); have n3_ := Ae_q (rM_q (ok' := fun k_ => some k_ ≠ (v515 : Value).ownBlock ∧ some k_ ≠ (.slice Ao59 t526.length co59 : Value).ownBlock ∧ some k_ ≠ (.slice Ao54 t522.length co54 : Value).ownBlock ∧ some k_ ≠ (.slice Ao85 t542.length co85 : Value).ownBlock ∧ some k_ ≠ (.slice Ao88 t546.length co88 : Value).ownBlock) (Kd.R_keptB (HO_15.out) hkp (fun k_ hk_ hs_ => (hk_.1.1.2.2) hs_)) (fun k_ hk_ => ⟨hk_.1.1.1.1, hk_.1.1.1.2.1, hk_.1.1.1.2.2, hk_.1.1.2, hk_.1.2⟩)); have n4_ := Ae_q (Kd.R_reok rfl hy0 (fun k_ e_ => HO_526001.out.1 k_ e_)); have n5_ := Ae_q (blk_kept (bup BK497.out) hkp (fun hs_ => (fun e_ => (Kd.R_ne HO_526001.out BK497.out (by decide)) e_) hs_)); have n6_ := Ae_q (blk_kept (bup BK498.out) hkp (fun hs_ => (fun e_ => (Kd.R_ne HO_526001.out BK498.out (by decide)) e_) hs_)); have n7_ := Ae_q (blk_kept (bup BK525.out) hkp (fun hs_ => (fun e_ => (Kd.R_ne HO_526001.out BK525.out (by decide)) e_) hs_)); have n9_ := Ae_q (rM_q (ok' := fun k_ => some k_ ≠ (v515 : Value).ownBlock ∧ some k_ ≠ (.slice Ao59 t526.length co59 : Value).ownBlock ∧ some k_ ≠ (v533 : Value).ownBlock ∧ some k_ ≠ (.slice Ao54 t522.length co54 : Value).ownBlock ∧ some k_ ≠ (.slice Ao88 t546.length co88 : Value).ownBlock) (Kd.R_keptB (HO544.out) hkp (fun k_ hk_ hs_ => (hk_.1.2) hs_)) (fun k_ hk_ => ⟨hk_.1.1.1.1.1.2, hk_.1.1.1.1.2, hk_.1.1.1.2, hk_.1.1.2, hk_.1.2⟩)); have n10_ := Ae_q (rM_q (ok' := fun k_ => some k_ ≠ (v515 : Value).ownBlock ∧ some k_ ≠ (.slice Ao59 t526.length co59 : Value).ownBlock ∧ some k_ ≠ (v533 : Value).ownBlock ∧ some k_ ≠ (.slice Ao54 t522.length co54 : Value).ownBlock ∧ some k_ ≠ (.slice Ao85 t542.length co85 : Value).ownBlock) (Kd.R_keptB (HO548.out) hkp (fun k_ hk_ hs_ => (hk_.1.2) hs_)) (fun k_ hk_ => ⟨hk_.1.1.1.1.1.2, hk_.1.1.1.1.2, hk_.1.1.1.2, hk_.1.1.2, hk_.1.2⟩))) | ((with_reducible refine gC_q (f := 19) rfl ?_); refine gL_q (some 94) rfl rfl Try.func19 m7_q rfl #[.slice Ao59 t526.length co59, .int .i64 t550] rfl m1_q ?_; (with_reducible refine (laws_markIntS.calls kj30 (fun k_ => some k_ = (.slice Ao59 t526.length co59 : Value).ownBlock) (.slice Ao59 t526.length co59) t526 t550 t552 t553 w _ ?side1 ?side2 A78.out).mono ?_); (case side1 => exact m2_q); (case side2 => exact Kd.R_tight rfl HO_14.out); rintro e w' ⟨rfl, hy0, hb, hkp⟩; refine ⟨_, rfl, ?_⟩; have n0_ := Ae_q (rM_q (ok' := fun k_ => some k_ ≠ (.slice Ao59 t526.length co59 : Value).ownBlock ∧ some k_ ≠ (v533 : Value).ownBlock ∧ some k_ ≠ (.slice Ao54 t522.length co54 : Value).ownBlock ∧ some k_ ≠ (.slice Ao85 t542.length co85 : Value).ownBlock ∧ some k_ ≠ (.slice Ao88 t546.length co88 : Value).ownBlock) (Kd.R_keptB (HO_10.out) hkp (fun k_ hk_ hs_ => (hk_.1) hs_)) (fun k_ hk_ => ⟨hk_.1.1, hk_.1.2.1, hk_.1.2.2.1, hk_.1.2.2.2.1, hk_.1.2.2.2.2⟩)); have n2_ := Ae_q (Kd.R_reok rfl hy0 (fun k_ e_ => HO_14.out.1 k_ e_)); have n3_ := Ae_q (rM_q (ok' := fun k_ => some k_ ≠ (v515 : Value).ownBlock ∧ some k_ ≠ (.slice Ao59 t526.length co59 : Value).ownBlock ∧ some k_ ≠ (.slice Ao54 t522.length co54 : Value).ownBlock ∧ some k_ ≠ (.slice Ao85 t542.length co85 : Value).ownBlock ∧ some k_ ≠ (.slice Ao88 t546.length co88 : Value).ownBlock) (Kd.R_keptB (HO_15.out) hkp (fun k_ hk_ hs_ => (hk_.2.1) hs_)) (fun k_ hk_ => ⟨hk_.1.1, hk_.1.2.1, hk_.1.2.2.1, hk_.1.2.2.2.1, hk_.1.2.2.2.2⟩)); have n4_ := Ae_q (rM_q (ok' := fun k_ => some k_ ≠ (v515 : Value).ownBlock ∧ some k_ ≠ (.slice Ao59 t526.length co59 : Value).ownBlock ∧ some k_ ≠ (v533 : Value).ownBlock ∧ some k_ ≠ (.slice Ao85 t542.length co85 : Value).ownBlock ∧ some k_ ≠ (.slice Ao88 t546.length co88 : Value).ownBlock) (Kd.R_keptB (HO_526001.out) hkp (fun k_ hk_ hs_ => (hk_.1.1.2.1) hs_)) (fun k_ hk_ => ⟨hk_.1.1.1.1, hk_.1.1.1.2.1, hk_.1.1.1.2.2, hk_.1.1.2, hk_.1.2⟩)); have n5_ := Ae_q (blk_kept (bup BK497.out) hkp (fun hs_ => (fun e_ => (Kd.R_ne HO_14.out BK497.out (by decide)) e_) hs_)); have n6_ := Ae_q (blk_kept (bup BK498.out) hkp (fun hs_ => (fun e_ => (Kd.R_ne HO_14.out BK498.out (by decide)) e_) hs_)); have n7_ := Ae_q (blk_kept (bup BK525.out) hkp (fun hs_ => (fun e_ => (Kd.R_ne HO_14.out BK525.out (by decide)) e_) hs_)); have n9_ := Ae_q (rM_q (ok' := fun k_ => some k_ ≠ (v515 : Value).ownBlock ∧ some k_ ≠ (.slice Ao59 t526.length co59 : Value).ownBlock ∧ some k_ ≠ (v533 : Value).ownBlock ∧ some k_ ≠ (.slice Ao54 t522.length co54 : Value).ownBlock ∧ some k_ ≠ (.slice Ao88 t546.length co88 : Value).ownBlock) (Kd.R_keptB (HO544.out) hkp (fun k_ hk_ hs_ => (hk_.2.1) hs_)) (fun k_ hk_ => ⟨hk_.1.1, hk_.1.2.1, hk_.1.2.2.1, hk_.1.2.2.2.1, hk_.1.2.2.2.2⟩)); have n10_ := Ae_q (rM_q (ok' := fun k_ => some k_ ≠ (v515 : Value).ownBlock ∧ some k_ ≠ (.slice Ao59 t526.length co59 : Value).ownBlock ∧ some k_ ≠ (v533 : Value).ownBlock ∧ some k_ ≠ (.slice Ao54 t522.length co54 : Value).ownBlock ∧ some k_ ≠ (.slice Ao85 t542.length co85 : Value).ownBlock) (Kd.R_keptB (HO548.out) hkp (fun k_ hk_ hs_ => (hk_.2.1) hs_)) (fun k_ hk_ => ⟨hk_.1.1, hk_.1.2.1, hk_.1.2.2.1, hk_.1.2.2.2.1, hk_.1.2.2.2.2⟩)))); have n11_ := Ae_q (hb); clear HO_10; clear HO_14; clear HO_15; clear HO_526001; clear BK497; clear BK498; clear BK525; clear HO544; clear HO548; clear HB; have HO_10 := n0_; have HO_14 := n2_; have HO_15 := n3_; have HO_526001 := n4_; have BK497 := n5_; have BK498 := n6_; have BK525 := n7_; have HO544 := n9_; have HO548 := n10_; have HB := n11_; clear n0_ n2_ n3_ n4_ n5_ n6_ n7_ n9_ n10_ n11_; (try clear hb); (try clear hkp); (try clear hy0)) | (go_at_call 18; (refine (laws_markStepS.calls _ _ t518 1 _ w _ (bel HB.out) (Kd.S_R (Kd.S_bound m13_q)) rfl).mono ?_); rintro e w_mk ⟨rfl, hb, hkp⟩; have b0_ := Ae_q (mk_blk (bup BK497.out) hkp (fun hp => mk_tyb (bup BK497.out) hp.2.2.2 (by decide))); have b1_ := Ae_q (mk_blk (bup BK498.out) hkp (fun hp => mk_tyb (bup BK498.out) hp.2.2.2 (by decide))); have b2_ := Ae_q (mk_blk (bup BK525.out) hkp (fun hp => mk_tyb (bup BK525.out) hp.2.2.2 (by decide))); have n0_ := Ae_q (mk_keep rfl (rup HO_10.out) hkp (fun k e hp => by first | exact hp.2 e.symm | exact hp.1.2 e.symm | exact hp.1.1.2 e.symm | exact hp.1.1.1.2 e.symm | exact hp.1.1.1.1.2 e.symm | exact hp.1.1.1.1.1.2 e.symm | exact hp.1.1.1.1.1.1.2 e.symm | exact hp.1.1.1.1.1.1.1.2 e.symm | exact hp.1.1.1.1.1.1.1.1.2 e.symm | exact hp.1.1.1.1.1.1.1.1.1.2 e.symm | exact hp.1 e.symm | (rw [← e] at hp; simp only [ne_eq, not_true_eq_false, and_false, false_and] at hp; done) | exact mk_ty (rup HO_10.out) e hp.2.2.2 (by decide))); have n1_ := Ae_q (mk_keep rfl (rup HO_14.out) hkp (fun k e hp => by first | exact hp.2 e.symm | exact hp.1.2 e.symm | exact hp.1.1.2 e.symm | exact hp.1.1.1.2 e.symm | exact hp.1.1.1.1.2 e.symm | exact hp.1.1.1.1.1.2 e.symm | exact hp.1.1.1.1.1.1.2 e.symm | exact hp.1.1.1.1.1.1.1.2 e.symm | exact hp.1.1.1.1.1.1.1.1.2 e.symm | exact hp.1.1.1.1.1.1.1.1.1.2 e.symm | exact hp.1 e.symm | (rw [← e] at hp; simp only [ne_eq, not_true_eq_false, and_false, false_and] at hp; done) | exact mk_ty (rup HO_14.out) e hp.2.2.2 (by decide))); have n2_ := Ae_q (mk_keep rfl (rup HO_15.out) hkp (fun k e hp => by first | exact hp.2 e.symm | exact hp.1.2 e.symm | exact hp.1.1.2 e.symm | exact hp.1.1.1.2 e.symm | exact hp.1.1.1.1.2 e.symm | exact hp.1.1.1.1.1.2 e.symm | exact hp.1.1.1.1.1.1.2 e.symm | exact hp.1.1.1.1.1.1.1.2 e.symm | exact hp.1.1.1.1.1.1.1.1.2 e.symm | exact hp.1.1.1.1.1.1.1.1.1.2 e.symm | exact hp.1 e.symm | (rw [← e] at hp; simp only [ne_eq, not_true_eq_false, and_false, false_and] at hp; done) | exact mk_ty (rup HO_15.out) e hp.2.2.2 (by decide))); have n3_ := Ae_q (mk_keep rfl (rup HO_526001.out) hkp (fun k e hp => by first | exact hp.2 e.symm | exact hp.1.2 e.symm | exact hp.1.1.2 e.symm | exact hp.1.1.1.2 e.symm | exact hp.1.1.1.1.2 e.symm | exact hp.1.1.1.1.1.2 e.symm | exact hp.1.1.1.1.1.1.2 e.symm | exact hp.1.1.1.1.1.1.1.2 e.symm | exact hp.1.1.1.1.1.1.1.1.2 e.symm | exact hp.1.1.1.1.1.1.1.1.1.2 e.symm | exact hp.1 e.symm | (rw [← e] at hp; simp only [ne_eq, not_true_eq_false, and_false, false_and] at hp; done) | exact mk_ty (rup HO_526001.out) e hp.2.2.2 (by decide))); have n4_ := Ae_q (mk_keep rfl (rup HO544.out) hkp (fun k e hp => by first | exact hp.2 e.symm | exact hp.1.2 e.symm | exact hp.1.1.2 e.symm | exact hp.1.1.1.2 e.symm | exact hp.1.1.1.1.2 e.symm | exact hp.1.1.1.1.1.2 e.symm | exact hp.1.1.1.1.1.1.2 e.symm | exact hp.1.1.1.1.1.1.1.2 e.symm | exact hp.1.1.1.1.1.1.1.1.2 e.symm | exact hp.1.1.1.1.1.1.1.1.1.2 e.symm | exact hp.1 e.symm | (rw [← e] at hp; simp only [ne_eq, not_true_eq_false, and_false, false_and] at hp; done) | exact mk_ty (rup HO544.out) e hp.2.2.2 (by decide))); have n5_ := Ae_q (mk_keep rfl (rup HO548.out) hkp (fun k e hp => by first | exact hp.2 e.symm | exact hp.1.2 e.symm | exact hp.1.1.2 e.symm | exact hp.1.1.1.2 e.symm | exact hp.1.1.1.1.2 e.symm | exact hp.1.1.1.1.1.2 e.symm | exact hp.1.1.1.1.1.1.2 e.symm | exact hp.1.1.1.1.1.1.1.2 e.symm | exact hp.1.1.1.1.1.1.1.1.2 e.symm | exact hp.1.1.1.1.1.1.1.1.1.2 e.symm | exact hp.1 e.symm | (rw [← e] at hp; simp only [ne_eq, not_true_eq_false, and_false, false_and] at hp; done) | exact mk_ty (rup HO548.out) e hp.2.2.2 (by decide))); have nB_ := Ae_q hb; clear HO_10; clear HO_14; clear HO_15; clear HO_526001; clear HO544; clear HO548; clear HO_12; clear HO539; clear HB; clear BK497; have BK497 := b0_; clear b0_; clear BK498; have BK498 := b1_; clear b1_; clear BK525; have BK525 := b2_; clear b2_; have HO_10 := n0_; have HO_14 := n1_; have HO_15 := n2_; have HO_526001 := n3_; have HO544 := n4_; have HO548 := n5_; have HB := nB_; clear nB_; clear n0_ n1_ n2_ n3_ n4_ n5_; clear hb; clear hkp; have hcz91_0m : cI w_mk gb525 0 t521 := cZ BK525 0 rfl; have hcz91_1m : w_mk.cell? ⟨gb525, 1, none⟩ = some (.slice Ao54 t522.length co54) := (bC_q BK525.out 1).trans rfl; have hfz91_0m := bF_q BK525.out 0; have hfz91_1m := bF_q BK525.out 1))
   (try simp only [Act.put, sA_q, sZ_q, sS_q])
   go_cut [107] (fun v107 wc => ∃ (kq : Nat) (x107_78 : Bool), v107 = .bool x107_78 ∧ Aside0 (laws_FnExactOutageRepair.j1 kq l0 l2 t514 t517 t532 x107_78 a1_0 l1_1 a3_0 a3_1 a3_2 = some r) ∧ Aside0 (kq ≤ kj30) ∧ Aside0 (Kd.R kI_q 3 wc w.heap.size (fun k_ => some k_ ≠ (v533 : Value).ownBlock ∧ some k_ ≠ ((.slice Ao54 t522.length co54) : Value).ownBlock) v515 t514) ∧ Aside0 (Kd.R kI_q 3 wc w.heap.size (fun k_ => some k_ ≠ (v515 : Value).ownBlock ∧ some k_ ≠ ((.slice Ao54 t522.length co54) : Value).ownBlock) v533 t532) ∧ Aside0 (Kd.R kI_q 3 wc w.heap.size (fun k_ => some k_ ≠ (v515 : Value).ownBlock ∧ some k_ ≠ (v533 : Value).ownBlock) (.slice Ao54 t522.length co54) t551) ∧ Aside0 (wc.heap[gb497]? = some (.cells #[.int .i64 a1_0, (.slice A1_1 l1_1.length c1_1)] 39 (0, 0))) ∧ Aside0 (wc.heap[gb498]? = some (.cells #[.int .i64 a3_0, .int .i64 a3_1, .int .i64 a3_2] 25 (0, 0))) ∧ Aside0 (wc.heap[gb525]? = some (.cells #[.int .i64 t521, (.slice Ao54 t522.length co54)] 43 (0, 0))) ∧ Aside0 (Below w.heap.size w wc))
   case first =>
    have H := HC79.out
    clear HC79
    by_cases c94 : t552 < 0
    ·rw [if_pos c94] at H
     have c94b0 : decide (t552 < 0) = true := dT_q c94
     clear c94
     (first | rw [c94b0] | (simp only [i64_w, i32_w]; rw [c94b0]) | skip)
     have H' := Ae_q H
     clear H
     go_wp2
     go_meet
     case rel => exact ⟨_, (true), m5_q, H', ⟨m118_q⟩, ⟨m73_q⟩, ⟨m75_q⟩, ⟨m72_q⟩, ⟨bup BK497.out⟩, ⟨bup BK498.out⟩, ⟨bup BK525.out⟩, ⟨m2_q⟩⟩
    rw [if_neg c94] at H
    have c94b0 : decide (t552 < 0) = false := dF_q c94
    clear c94
    (first | rw [c94b0] | (simp only [i64_w, i32_w]; rw [c94b0]) | skip)
    replace H := oB_q.mp H
    obtain ⟨t554, A950, H⟩ := H
    replace H : (if t554 = true then (laws_FnExactOutageRepair.j1 kj30 l0 l2 t514 t517 t532 (t535 != t517) a1_0 l1_1 a3_0 a3_1 a3_2) else (laws_FnExactOutageRepair.j1 kj30 l0 l2 t514 t517 t532 true a1_0 l1_1 a3_0 a3_1 a3_2)) = some r := H
    have A95 := Ae_q A950
    clear A950
    by_cases c96 : t554 = true
    ·subst c96
     have H1 : (laws_FnExactOutageRepair.j1 kj30 l0 l2 t514 t517 t532 (t535 != t517) a1_0 l1_1 a3_0 a3_1 a3_2) = some r := by rw [if_pos rfl] at H; exact H
     clear H
     have H := H1
     clear H1
     have H' := Ae_q H
     clear H
     obtain ⟨Ao97, co97, eo97⟩ := rS_q HO_15.out
     subst eo97
     obtain ⟨Ao98, co98, eo98⟩ := rS_q HO_10.out
     subst eo98
     go_wp2_with (first | (go_at_call 16; (with_reducible refine (laws_eqIntS.calls kj30 _ _ t532 _ _ t514 true _ ?side1 ?side2 ?side3 ?side4 A95.out).mono ?_); (case side1 => exact m104_q); (case side2 => exact m124_q); (case side3 => exact m62_q); (case side4 => exact m112_q); rintro e w' ⟨rfl, ⟨nd, rfl⟩⟩))
     go_meet
     case rel => exact ⟨_, ((t535 != t517)), m5_q, H', ⟨m118_q⟩, ⟨m73_q⟩, ⟨m75_q⟩, ⟨m72_q⟩, ⟨bup BK497.out⟩, ⟨bup BK498.out⟩, ⟨bup BK525.out⟩, ⟨m2_q⟩⟩
    replace c96 := fM_q.mpr c96
    subst c96
    have H1 : (laws_FnExactOutageRepair.j1 kj30 l0 l2 t514 t517 t532 true a1_0 l1_1 a3_0 a3_1 a3_2) = some r := by rw [if_neg (show ¬ (false = true) by decide)] at H; exact H
    clear H
    have H := H1
    clear H1
    have H' := Ae_q H
    clear H
    obtain ⟨Ao99, co99, eo99⟩ := rS_q HO_15.out
    subst eo99
    obtain ⟨Ao100, co100, eo100⟩ := rS_q HO_10.out
    subst eo100
    go_wp2_with (first | (go_at_call 16; (with_reducible refine (laws_eqIntS.calls kj30 _ _ t532 _ _ t514 false _ ?side1 ?side2 ?side3 ?side4 A95.out).mono ?_); (case side1 => exact m104_q); (case side2 => exact m124_q); (case side3 => exact m62_q); (case side4 => exact m112_q); rintro e w' ⟨rfl, ⟨nd, rfl⟩⟩))
    go_meet
    case rel => exact ⟨_, (true), m5_q, H', ⟨m118_q⟩, ⟨m73_q⟩, ⟨m75_q⟩, ⟨m72_q⟩, ⟨bup BK497.out⟩, ⟨bup BK498.out⟩, ⟨bup BK525.out⟩, ⟨m2_q⟩⟩
   case rest =>
    clear HC79
    try clear c1
    try clear c2
    try clear p2
    try clear c3
    try clear c5
    try clear c6
    try clear c7
    try clear c8
    try clear c9
    try clear c10
    try clear c12
    try clear c13
    try clear c14
    try clear c14b0
    try clear c16
    try clear c17
    try clear c18
    try clear c19
    try clear c21
    try clear c23
    try clear c25
    try clear c26
    try clear c28
    try clear c29
    try clear c35
    try clear c51
    try clear c52
    try clear c62
    try clear c67
    try clear c70
    try clear c73
    try clear c76
    try clear c89
    try clear c90
    try clear c94
    try clear c94b0
    try clear c96
    try clear hcz19_0
    try clear hcz19_1
    try clear hcz36_0
    try clear hcz36_1
    try clear hcz48_0
    try clear hcz48_1
    try clear hcz53_0
    try clear hcz53_1
    try clear hcz91_0
    try clear hcz91_1
    try clear hfz19_0
    try clear hfz19_1
    try clear hfz36_0
    try clear hfz36_1
    try clear hfz48_0
    try clear hfz48_1
    try clear hfz53_0
    try clear hfz53_1
    try clear hfz91_0
    try clear hfz91_1
    try clear p2
    obtain ⟨kq, x107_78, rfl, HA, HJ78, HO_10, HO_15, HO_526001, BK497, BK498, BK525, HB⟩ := hcut
    have hl526001_78 := (rR_q HO_526001.out).1
    rw [hl526001_78] at HO_526001
    (try simp only [hl526001_78])
    (try simp only [hl526001_78] at BK497)
    (try simp only [hl526001_78] at BK498)
    (try simp only [hl526001_78] at BK525)
    (try simp only [hl526001_78] at HO_10)
    (try simp only [hl526001_78] at HO_15)
    cases kq with
    | zero => exact absurd HA.out (by simp [laws_FnExactOutageRepair.j1])
    | succ kj78 =>
     have H := HA.out
     clear HA
     simp only [laws_FnExactOutageRepair.j1] at H
     by_cases c101 : x107_78 = true
     ·subst c101
      have H1 : (some false) = some r := by rw [if_pos rfl] at H; exact H
      clear H
      have H := H1
      clear H1
      obtain rfl := oI_q H
      go_wp2
      go_ret
      exact ⟨m4_q, m2_q⟩
     replace c101 := fM_q.mpr c101
     subst c101
     have H1 : ((laws_markIntS.f kj78 t532 1).bind fun bt555 => ((laws_heldIntS.f kj78 bt555.2 1).bind fun t557 => (if t557 < 0 then (some false) else (if t557 = bt555.1 then ((laws_toStepS.f kj78 l0).bind fun t558 => ((laws_toKitchen.f kj78 a1_0 l1_1).bind fun bt561 => ((laws_toIntS.f kj78 l2).bind fun t565 => ((laws_toOutage.f a3_0 a3_1 a3_2).bind fun bt568 => ((impl_OutageRepair.f kj78 t558 bt561.1 bt561.2 t565 bt568.1 bt568.2.1 bt568.2.2).bind fun bt571 => ((laws_eqIntS.f kj78 bt571.1 t514).bind fun t575 => (if t575 = true then (laws_FnExactOutageRepair.j2 kj78 bt555.2 bt555.1 (bt571.2 != t517)) else (laws_FnExactOutageRepair.j2 kj78 bt555.2 bt555.1 true)))))))) else (some false))))) = some r := by rw [if_neg (show ¬ (false = true) by decide)] at H; exact H
     clear H
     have H := H1
     clear H1
     replace H := oB_q.mp H
     obtain ⟨⟨t555, t556⟩, A1020, H⟩ := H
     replace H : ((laws_heldIntS.f kj78 t556 1).bind fun t557 => (if t557 < 0 then (some false) else (if t557 = t555 then ((laws_toStepS.f kj78 l0).bind fun t558 => ((laws_toKitchen.f kj78 a1_0 l1_1).bind fun bt561 => ((laws_toIntS.f kj78 l2).bind fun t565 => ((laws_toOutage.f a3_0 a3_1 a3_2).bind fun bt568 => ((impl_OutageRepair.f kj78 t558 bt561.1 bt561.2 t565 bt568.1 bt568.2.1 bt568.2.2).bind fun bt571 => ((laws_eqIntS.f kj78 bt571.1 t514).bind fun t575 => (if t575 = true then (laws_FnExactOutageRepair.j2 kj78 t556 t555 (bt571.2 != t517)) else (laws_FnExactOutageRepair.j2 kj78 t556 t555 true)))))))) else (some false)))) = some r := H
     have A102 := Ae_q A1020
     clear A1020
     replace H := oB_q.mp H
     obtain ⟨t557, A1030, H⟩ := H
     replace H : (if t557 < 0 then (some false) else (if t557 = t555 then ((laws_toStepS.f kj78 l0).bind fun t558 => ((laws_toKitchen.f kj78 a1_0 l1_1).bind fun bt561 => ((laws_toIntS.f kj78 l2).bind fun t565 => ((laws_toOutage.f a3_0 a3_1 a3_2).bind fun bt568 => ((impl_OutageRepair.f kj78 t558 bt561.1 bt561.2 t565 bt568.1 bt568.2.1 bt568.2.2).bind fun bt571 => ((laws_eqIntS.f kj78 bt571.1 t514).bind fun t575 => (if t575 = true then (laws_FnExactOutageRepair.j2 kj78 t556 t555 (bt571.2 != t517)) else (laws_FnExactOutageRepair.j2 kj78 t556 t555 true)))))))) else (some false))) = some r := H
     have A103 := Ae_q A1030
     clear A1030
     by_cases c104 : t557 < 0
     ·rw [if_pos c104] at H
      have c104b0 : decide (t557 < 0) = true := dT_q c104
      clear c104
      obtain rfl := oI_q H
      obtain ⟨Ao105, co105, eo105⟩ := rS_q HO_15.out
      subst eo105
      go_wp2_with (first | ((with_reducible refine gC_q (f := 19) rfl ?_); refine gL_q (some 110) rfl rfl Try.func19 m7_q rfl #[.slice Ao105 t532.length co105, .int .i64 1] rfl m1_q ?_; (with_reducible refine (laws_markIntS.calls kj78 (fun k_ => some k_ = (.slice Ao105 t532.length co105 : Value).ownBlock) (.slice Ao105 t532.length co105) t532 1 t555 t556 w _ ?side1 ?side2 A102.out).mono ?_); (case side1 => exact m2_q); (case side2 => exact Kd.R_tight rfl HO_15.out); rintro e w' ⟨rfl, hy0, hb, hkp⟩; refine ⟨_, rfl, ?_⟩; replace HO_10 := Ae_q (rM_q (ok' := fun k_ => some k_ ≠ (.slice Ao105 t532.length co105 : Value).ownBlock ∧ some k_ ≠ (.slice Ao54 t551.length co54 : Value).ownBlock) (Kd.R_keptB (HO_10.out) hkp (fun k_ hk_ hs_ => (hk_.1) hs_)) (fun k_ hk_ => ⟨hk_.1.1, hk_.1.2⟩)); replace HO_526001 := Ae_q (rM_q (ok' := fun k_ => some k_ ≠ (v515 : Value).ownBlock ∧ some k_ ≠ (.slice Ao105 t532.length co105 : Value).ownBlock) (Kd.R_keptB (HO_526001.out) hkp (fun k_ hk_ hs_ => (hk_.2) hs_)) (fun k_ hk_ => ⟨hk_.1.1, hk_.1.2⟩)); replace BK497 := Ae_q (blk_kept (bup BK497.out) hkp (fun hs_ => (fun e_ => (Kd.R_ne HO_15.out BK497.out (by decide)) e_) hs_)); replace BK498 := Ae_q (blk_kept (bup BK498.out) hkp (fun hs_ => (fun e_ => (Kd.R_ne HO_15.out BK498.out (by decide)) e_) hs_)); replace BK525 := Ae_q (blk_kept (bup BK525.out) hkp (fun hs_ => (fun e_ => (Kd.R_ne HO_15.out BK525.out (by decide)) e_) hs_)); replace HO_15 := Ae_q (Kd.R_reok rfl hy0 (fun k_ e_ => HO_15.out.1 k_ e_)); replace HB := Ae_q (hb); (try clear hb); (try clear hkp); (try clear hy0)) | ((with_reducible refine gC_q (f := 20) rfl ?_); refine gL_q (some 113) rfl rfl Try.func20 m7_q rfl #[.slice Ao105 t556.length co105, .int .i64 1] rfl m60_q ?_; (with_reducible refine (laws_heldIntS.calls kj78 _ _ t556 1 t557 _ ?side1 ?side2 A103.out).mono ?_); (case side1 => exact m104_q); (case side2 => exact m93_q); rintro e w' ⟨rfl, ⟨nd, rfl⟩⟩; refine ⟨_, rfl, ?_⟩))
      go_ret
      exact ⟨m4_q, m2_q⟩
     rw [if_neg c104] at H
     have c104b0 : decide (t557 < 0) = false := dF_q c104
     clear c104
     by_cases c107 : t557 = t555
     rotate_left
     ·rw [if_neg c107] at H
      have c107b0 : (t557 == t555) = false := fN_q.mpr c107
      have c107b1 : (t557 != t555) = true := nI_q.mpr c107
      obtain rfl := oI_q H
      obtain ⟨Ao135, co135, eo135⟩ := rS_q HO_15.out
      subst eo135
      go_wp2_with (first | ((with_reducible refine gC_q (f := 19) rfl ?_); refine gL_q (some 110) rfl rfl Try.func19 m7_q rfl #[.slice Ao135 t532.length co135, .int .i64 1] rfl m1_q ?_; (with_reducible refine (laws_markIntS.calls kj78 (fun k_ => some k_ = (.slice Ao135 t532.length co135 : Value).ownBlock) (.slice Ao135 t532.length co135) t532 1 t555 t556 w _ ?side1 ?side2 A102.out).mono ?_); (case side1 => exact m2_q); (case side2 => exact Kd.R_tight rfl HO_15.out); rintro e w' ⟨rfl, hy0, hb, hkp⟩; refine ⟨_, rfl, ?_⟩; replace HO_10 := Ae_q (rM_q (ok' := fun k_ => some k_ ≠ (.slice Ao135 t532.length co135 : Value).ownBlock ∧ some k_ ≠ (.slice Ao54 t551.length co54 : Value).ownBlock) (Kd.R_keptB (HO_10.out) hkp (fun k_ hk_ hs_ => (hk_.1) hs_)) (fun k_ hk_ => ⟨hk_.1.1, hk_.1.2⟩)); replace HO_526001 := Ae_q (rM_q (ok' := fun k_ => some k_ ≠ (v515 : Value).ownBlock ∧ some k_ ≠ (.slice Ao135 t532.length co135 : Value).ownBlock) (Kd.R_keptB (HO_526001.out) hkp (fun k_ hk_ hs_ => (hk_.2) hs_)) (fun k_ hk_ => ⟨hk_.1.1, hk_.1.2⟩)); replace BK497 := Ae_q (blk_kept (bup BK497.out) hkp (fun hs_ => (fun e_ => (Kd.R_ne HO_15.out BK497.out (by decide)) e_) hs_)); replace BK498 := Ae_q (blk_kept (bup BK498.out) hkp (fun hs_ => (fun e_ => (Kd.R_ne HO_15.out BK498.out (by decide)) e_) hs_)); replace BK525 := Ae_q (blk_kept (bup BK525.out) hkp (fun hs_ => (fun e_ => (Kd.R_ne HO_15.out BK525.out (by decide)) e_) hs_)); replace HO_15 := Ae_q (Kd.R_reok rfl hy0 (fun k_ e_ => HO_15.out.1 k_ e_)); replace HB := Ae_q (hb); (try clear hb); (try clear hkp); (try clear hy0)) | ((with_reducible refine gC_q (f := 20) rfl ?_); refine gL_q (some 113) rfl rfl Try.func20 m7_q rfl #[.slice Ao135 t556.length co135, .int .i64 1] rfl m60_q ?_; (with_reducible refine (laws_heldIntS.calls kj78 _ _ t556 1 t557 _ ?side1 ?side2 A103.out).mono ?_); (case side1 => exact m104_q); (case side2 => exact m93_q); rintro e w' ⟨rfl, ⟨nd, rfl⟩⟩; refine ⟨_, rfl, ?_⟩))
      go_ret
      exact ⟨m4_q, m2_q⟩
     rw [if_pos c107] at H
     have c107b0 : (t557 == t555) = true := beq_iff_eq.mpr c107
     have c107b1 : (t557 != t555) = false := nE_q.mpr c107
     clear c107
     replace H := oB_q.mp H
     obtain ⟨t558, A1080, H⟩ := H
     replace H : ((laws_toKitchen.f kj78 a1_0 l1_1).bind fun bt561 => ((laws_toIntS.f kj78 l2).bind fun t565 => ((laws_toOutage.f a3_0 a3_1 a3_2).bind fun bt568 => ((impl_OutageRepair.f kj78 t558 bt561.1 bt561.2 t565 bt568.1 bt568.2.1 bt568.2.2).bind fun bt571 => ((laws_eqIntS.f kj78 bt571.1 t514).bind fun t575 => (if t575 = true then (laws_FnExactOutageRepair.j2 kj78 t556 t555 (bt571.2 != t517)) else (laws_FnExactOutageRepair.j2 kj78 t556 t555 true))))))) = some r := H
     have A108 := Ae_q A1080
     clear A1080
     replace H := oB_q.mp H
     obtain ⟨⟨t561, t562⟩, A1090, H⟩ := H
     replace H : ((laws_toIntS.f kj78 l2).bind fun t565 => ((laws_toOutage.f a3_0 a3_1 a3_2).bind fun bt568 => ((impl_OutageRepair.f kj78 t558 t561 t562 t565 bt568.1 bt568.2.1 bt568.2.2).bind fun bt571 => ((laws_eqIntS.f kj78 bt571.1 t514).bind fun t575 => (if t575 = true then (laws_FnExactOutageRepair.j2 kj78 t556 t555 (bt571.2 != t517)) else (laws_FnExactOutageRepair.j2 kj78 t556 t555 true)))))) = some r := H
     have A109 := Ae_q A1090
     clear A1090
     replace H := oB_q.mp H
     obtain ⟨t565, A1100, H⟩ := H
     replace H : ((laws_toOutage.f a3_0 a3_1 a3_2).bind fun bt568 => ((impl_OutageRepair.f kj78 t558 t561 t562 t565 bt568.1 bt568.2.1 bt568.2.2).bind fun bt571 => ((laws_eqIntS.f kj78 bt571.1 t514).bind fun t575 => (if t575 = true then (laws_FnExactOutageRepair.j2 kj78 t556 t555 (bt571.2 != t517)) else (laws_FnExactOutageRepair.j2 kj78 t556 t555 true))))) = some r := H
     have A110 := Ae_q A1100
     clear A1100
     replace H := oB_q.mp H
     obtain ⟨⟨t568, t569, t570⟩, A1110, H⟩ := H
     replace H : ((impl_OutageRepair.f kj78 t558 t561 t562 t565 t568 t569 t570).bind fun bt571 => ((laws_eqIntS.f kj78 bt571.1 t514).bind fun t575 => (if t575 = true then (laws_FnExactOutageRepair.j2 kj78 t556 t555 (bt571.2 != t517)) else (laws_FnExactOutageRepair.j2 kj78 t556 t555 true)))) = some r := H
     have A111 := Ae_q A1110
     clear A1110
     replace H := oB_q.mp H
     obtain ⟨⟨t571, t574⟩, A1120, H⟩ := H
     replace H : ((laws_eqIntS.f kj78 t571 t514).bind fun t575 => (if t575 = true then (laws_FnExactOutageRepair.j2 kj78 t556 t555 (t574 != t517)) else (laws_FnExactOutageRepair.j2 kj78 t556 t555 true))) = some r := H
     have A112 := Ae_q A1120
     clear A1120
     have HC113 := Ae_q H
     clear H
     obtain ⟨Ao114, co114, eo114⟩ := rS_q HO_15.out
     subst eo114
     try go_wp2_with (first | ((with_reducible refine gC_q (f := 19) rfl ?_); refine gL_q (some 110) rfl rfl Try.func19 m7_q rfl #[.slice Ao114 t532.length co114, .int .i64 1] rfl m1_q ?_; (with_reducible refine (laws_markIntS.calls kj78 (fun k_ => some k_ = (.slice Ao114 t532.length co114 : Value).ownBlock) (.slice Ao114 t532.length co114) t532 1 t555 t556 w _ ?side1 ?side2 A102.out).mono ?_); (case side1 => exact m2_q); (case side2 => exact Kd.R_tight rfl HO_15.out); rintro e w115 ⟨rfl, hy0, hb, hkp⟩; refine ⟨_, rfl, ?_⟩; replace HO_10 := Ae_q (rM_q (ok' := fun k_ => some k_ ≠ (.slice Ao114 t532.length co114 : Value).ownBlock ∧ some k_ ≠ (.slice Ao54 t551.length co54 : Value).ownBlock) (Kd.R_keptB (HO_10.out) hkp (fun k_ hk_ hs_ => (hk_.1) hs_)) (fun k_ hk_ => ⟨hk_.1.1, hk_.1.2⟩)); replace HO_526001 := Ae_q (rM_q (ok' := fun k_ => some k_ ≠ (v515 : Value).ownBlock ∧ some k_ ≠ (.slice Ao114 t532.length co114 : Value).ownBlock) (Kd.R_keptB (HO_526001.out) hkp (fun k_ hk_ hs_ => (hk_.2) hs_)) (fun k_ hk_ => ⟨hk_.1.1, hk_.1.2⟩)); replace BK497 := Ae_q (blk_kept (bup BK497.out) hkp (fun hs_ => (fun e_ => (Kd.R_ne HO_15.out BK497.out (by decide)) e_) hs_)); replace BK498 := Ae_q (blk_kept (bup BK498.out) hkp (fun hs_ => (fun e_ => (Kd.R_ne HO_15.out BK498.out (by decide)) e_) hs_)); replace BK525 := Ae_q (blk_kept (bup BK525.out) hkp (fun hs_ => (fun e_ => (Kd.R_ne HO_15.out BK525.out (by decide)) e_) hs_)); replace HO_15 := Ae_q (Kd.R_reok rfl hy0 (fun k_ e_ => HO_15.out.1 k_ e_)); replace HB := Ae_q (hb); (try clear hb); (try clear hkp); (try clear hy0)) | ((with_reducible refine gC_q (f := 20) rfl ?_); refine gL_q (some 113) rfl rfl Try.func20 m7_q rfl #[.slice Ao114 t556.length co114, .int .i64 1] rfl m60_q ?_; (with_reducible refine (laws_heldIntS.calls kj78 _ _ t556 1 t557 _ ?side1 ?side2 A103.out).mono ?_); (case side1 => exact m104_q); (case side2 => exact m93_q); rintro e w' ⟨rfl, ⟨nd, rfl⟩⟩; refine ⟨_, rfl, ?_⟩))
     (try (rw [drewN_self w115]; generalize hq_ : World.drewN w115 _ = w115; have n0_ : Aside0 (Kd.R kI_q 3 w115 w.heap.size (fun k_ => some k_ ≠ (.slice Ao114 t532.length co114 : Value).ownBlock ∧ some k_ ≠ (.slice Ao54 t551.length co54 : Value).ownBlock) v515 t514) := ⟨by rw [← hq_]; exact (rup HO_10.out)⟩; have n1_ : Aside0 (Kd.R kI_q 3 w115 w.heap.size (fun k_ => some k_ ≠ (v515 : Value).ownBlock ∧ some k_ ≠ (.slice Ao54 t551.length co54 : Value).ownBlock) (.slice Ao114 t532.length co114) t556) := ⟨by rw [← hq_]; exact (rup HO_15.out)⟩; have n2_ : Aside0 (Kd.R kI_q 3 w115 w.heap.size (fun k_ => some k_ ≠ (v515 : Value).ownBlock ∧ some k_ ≠ (.slice Ao114 t532.length co114 : Value).ownBlock) (.slice Ao54 t551.length co54) t551) := ⟨by rw [← hq_]; exact (rup HO_526001.out)⟩; have n3_ : Aside0 (w115.heap[gb497]? = some (.cells #[.int .i64 a1_0, .slice A1_1 l1_1.length c1_1] 39 (0, 0))) := ⟨by rw [← hq_]; exact (bup BK497.out)⟩; have n4_ : Aside0 (w115.heap[gb498]? = some (.cells #[.int .i64 a3_0, .int .i64 a3_1, .int .i64 a3_2] 25 (0, 0))) := ⟨by rw [← hq_]; exact (bup BK498.out)⟩; have n5_ : Aside0 (w115.heap[gb525]? = some (.cells #[.int .i64 t521, .slice Ao54 t551.length co54] 43 (0, 0))) := ⟨by rw [← hq_]; exact (bup BK525.out)⟩; have n6_ : Aside0 (Below w.heap.size w w115) := ⟨by rw [← hq_]; exact m2_q⟩; clear HO_10 HO_15 HO_526001 BK497 BK498 BK525 HB hq_; have HO_10 := n0_; have HO_15 := n1_; have HO_526001 := n2_; have BK497 := n3_; have BK498 := n4_; have BK525 := n5_; have HB := n6_; clear n0_ n1_ n2_ n3_ n4_ n5_ n6_))
     replace HO_10 := Ae_q (rD_q HO_10.out)
     replace HO_15 := Ae_q (rD_q HO_15.out)
     replace HO_526001 := Ae_q (rD_q HO_526001.out)
     replace BK497 := Ae_q (bW_q BK497.out)
     replace BK498 := Ae_q (bW_q BK498.out)
     replace BK525 := Ae_q (bW_q BK525.out)
     replace HB := Ae_q (bD_q HB.out)
     refine start_ (n := 14) (S := fun w' => w'.cell? ⟨gb497, 0, none⟩ = some (.int .i64 a1_0) ∧ w'.cell? ⟨gb497, 1, none⟩ = some (.slice A1_1 l1_1.length c1_1) ∧ w'.cell? ⟨gb498, 0, none⟩ = some (.int .i64 a3_0) ∧ w'.cell? ⟨gb498, 1, none⟩ = some (.int .i64 a3_1) ∧ w'.cell? ⟨gb498, 2, none⟩ = some (.int .i64 a3_2)) (ds := []) #[false, false, false, false, false, false, false, false, false, false, false, false, false, false] m7_q rfl rfl ⟨(bC_q BK497.out 0).trans rfl, (bC_q BK497.out 1).trans rfl, (bC_q BK498.out 0).trans rfl, (bC_q BK498.out 1).trans rfl, (bC_q BK498.out 2).trans rfl⟩ (fun hHeld => ?_); refine with_tabW laws_FnExactOutageRepair.tab37 laws_FnExactOutageRepair.bits37 (fun HT_ HW_ => ?_)
     generalize w115.drew = w116 at HO_10 HO_15 HO_526001 BK497 BK498 BK525 HB hHeld ⊢
     refine pJ HT_ 0 120 rfl rfl ?_
     refine pJ HT_ 4 124 rfl rfl ?_
     refine take_ (i := 2) (N := some 122) (v := ?_) (a' := ?_) #[true, false, true, false, true, false, false, false, false, false, false, false, false, false] rfl rfl (take_ofW HT_.out HW_.out m7_q) (fun _ _ _ h => h) (Or.inl ⟨by rfl, ?_⟩) hHeld ?_ ?_
     rotate_left
     ·rintro w' ⟨s0, s1, s2, s3, s4⟩
      go_simp
      with_reducible rfl
     rotate_left
     ·simp only [pS_q]
      rfl
     refine take_ (i := 6) (N := some 126) (v := ?_) (a' := ?_) #[true, false, true, false, true, false, true, false, false, false, false, false, false, false] rfl rfl (take_ofW HT_.out HW_.out m7_q) (fun _ _ _ h => h) (Or.inl ⟨by rfl, ?_⟩) hHeld ?_ ?_
     rotate_left
     ·rintro w' ⟨s0, s1, s2, s3, s4⟩
      go_simp
      with_reducible rfl
     rotate_left
     ·simp only [pS_q]
      rfl
     refine one_ (i := 1) (N := some 121) #[true, true, true, false, true, false, true, false, false, false, false, false, false, false] rfl rfl (one_of HT_.out m7_q) (by decide) (fun K hK => ?_)
     refine goes_ Try.func12 m7_q rfl #[.slice A0 l0.length c0] (by rfl) rfl rfl m1_q ?_
     with_reducible refine (laws_toStepS.calls kj78 _ _ l0 t558 _ ?side1 ?side2 A108.out).mono ?_
     (case side1 => exact m20_q)
     (case side2 => exact m57_q)
     rintro e w' ⟨v559, rfl, ho0, hb⟩
     refine ⟨_, rfl, ?_⟩
     have HO560 := Ae_q (Kd.S_lower (Kd.S_new' (Kd.S_new' (Kd.S_new' ho0 (rT_q (rup HO_10.out))) (rT_q (rup HO_15.out))) (rT_q (rup HO_526001.out))) (bZ_q m2_q))
     replace HO_10 := Ae_q (rO_q (rup HO_10.out) hb)
     replace HO_15 := Ae_q (rO_q (rup HO_15.out) hb)
     replace HO_526001 := Ae_q (rO_q (rup HO_526001.out) hb)
     replace BK497 := Ae_q (bB_q (g := gb497) (o := .cells #[.int .i64 a1_0, .slice A1_1 l1_1.length c1_1] 39 (0, 0)) (bup BK497.out) hb)
     replace BK498 := Ae_q (bB_q (g := gb498) (o := .cells #[.int .i64 a3_0, .int .i64 a3_1, .int .i64 a3_2] 25 (0, 0)) (bup BK498.out) hb)
     replace BK525 := Ae_q (bB_q (g := gb525) (o := .cells #[.int .i64 t521, .slice Ao54 t551.length co54] 43 (0, 0)) (bup BK525.out) hb)
     replace HB := Ae_q (bT_q m2_q hb)
     (try clear hb)
     (try clear hb2)
     (try clear hk)
     (try clear hi)
     (try clear ho0)
     refine hK.out _ _ ⟨(bC_q BK497.out 0).trans rfl, (bC_q BK497.out 1).trans rfl, (bC_q BK498.out 0).trans rfl, (bC_q BK498.out 1).trans rfl, (bC_q BK498.out 2).trans rfl⟩ (fun hHeld => ?_)
     clear hK K
     refine nJ_q ?_
     refine one_ (i := 3) (N := some 123) #[true, true, true, true, true, false, true, false, false, false, false, false, false, false] rfl rfl (one_of HT_.out m7_q) (by decide) (fun K hK => ?_)
     refine goes_ Try.func23 m7_q rfl #[.agg #[.int .i64 a1_0, .slice A1_1 l1_1.length c1_1]] (by rfl) rfl rfl m1_q ?_
     with_reducible refine (laws_toKitchen.calls kj78 a1_0 _ _ l1_1 t561 t562 _ ?side1 ?side2 A109.out).mono ?_
     (case side1 => exact m32_q)
     (case side2 => exact m64_q)
     rintro e w' ⟨v563, rfl, ho0, hb⟩
     refine ⟨_, rfl, ?_⟩
     replace HO560 := Ae_q (Kd.S_elder' m80_q (rB_q ho0) hb)
     have HO564 := Ae_q (rL_q (rW_q (rW_q (rW_q ho0 (rT_q (rup HO_10.out))) (rT_q (rup HO_15.out))) (rT_q (rup HO_526001.out))) (bZ_q m2_q))
     replace HO_10 := Ae_q (rE_q (rup HO_10.out) (rB_q ho0) hb)
     replace HO_15 := Ae_q (rE_q (rup HO_15.out) (rB_q ho0) hb)
     replace HO_526001 := Ae_q (rE_q (rup HO_526001.out) (rB_q ho0) hb)
     replace BK497 := Ae_q (bB_q (g := gb497) (o := .cells #[.int .i64 a1_0, .slice A1_1 l1_1.length c1_1] 39 (0, 0)) (bup BK497.out) hb)
     replace BK498 := Ae_q (bB_q (g := gb498) (o := .cells #[.int .i64 a3_0, .int .i64 a3_1, .int .i64 a3_2] 25 (0, 0)) (bup BK498.out) hb)
     replace BK525 := Ae_q (bB_q (g := gb525) (o := .cells #[.int .i64 t521, .slice Ao54 t551.length co54] 43 (0, 0)) (bup BK525.out) hb)
     replace HB := Ae_q (bT_q m2_q hb)
     (try clear hb)
     (try clear hb2)
     (try clear hk)
     (try clear hi)
     (try clear ho0)
     refine hK.out _ _ ⟨(bC_q BK497.out 0).trans rfl, (bC_q BK497.out 1).trans rfl, (bC_q BK498.out 0).trans rfl, (bC_q BK498.out 1).trans rfl, (bC_q BK498.out 2).trans rfl⟩ (fun hHeld => ?_)
     clear hK K
     refine nJ_q ?_
     refine one_ (i := 5) (N := some 125) #[true, true, true, true, true, true, true, false, false, false, false, false, false, false] rfl rfl (one_of HT_.out m7_q) (by decide) (fun K hK => ?_)
     refine goes_ Try.func13 m7_q rfl #[.slice A2 l2.length c2] (by rfl) rfl rfl m1_q ?_
     with_reducible refine (laws_toIntS.calls kj78 _ _ l2 t565 _ ?side1 ?side2 A110.out).mono ?_
     (case side1 => exact m28_q)
     (case side2 => exact m63_q)
     rintro e w' ⟨v566, rfl, ho0, hb⟩
     refine ⟨_, rfl, ?_⟩
     replace HO560 := Ae_q (Kd.S_elder' m80_q (rB_q ho0) hb)
     have HO567 := Ae_q (rL_q (rW_q (rW_q (rW_q (rW_q ho0 (rT_q (rup HO_10.out))) (rT_q (rup HO_15.out))) (rT_q (rup HO_526001.out))) (rT_q (rup HO564.out))) (bZ_q m2_q))
     replace HO_10 := Ae_q (rE_q (rup HO_10.out) (rB_q ho0) hb)
     replace HO_15 := Ae_q (rE_q (rup HO_15.out) (rB_q ho0) hb)
     replace HO_526001 := Ae_q (rE_q (rup HO_526001.out) (rB_q ho0) hb)
     replace HO564 := Ae_q (rE_q (rup HO564.out) (rB_q ho0) hb)
     replace BK497 := Ae_q (bB_q (g := gb497) (o := .cells #[.int .i64 a1_0, .slice A1_1 l1_1.length c1_1] 39 (0, 0)) (bup BK497.out) hb)
     replace BK498 := Ae_q (bB_q (g := gb498) (o := .cells #[.int .i64 a3_0, .int .i64 a3_1, .int .i64 a3_2] 25 (0, 0)) (bup BK498.out) hb)
     replace BK525 := Ae_q (bB_q (g := gb525) (o := .cells #[.int .i64 t521, .slice Ao54 t551.length co54] 43 (0, 0)) (bup BK525.out) hb)
     replace HB := Ae_q (bT_q m2_q hb)
     (try clear hb)
     (try clear hb2)
     (try clear hk)
     (try clear hi)
     (try clear ho0)
     refine hK.out _ _ ⟨(bC_q BK497.out 0).trans rfl, (bC_q BK497.out 1).trans rfl, (bC_q BK498.out 0).trans rfl, (bC_q BK498.out 1).trans rfl, (bC_q BK498.out 2).trans rfl⟩ (fun hHeld => ?_)
     clear hK K
     refine nJ_q ?_
     refine one_ (i := 7) (N := some 127) #[true, true, true, true, true, true, true, true, false, false, false, false, false, false] rfl rfl (one_of HT_.out m7_q) (by decide) (fun K hK => ?_)
     refine goes_ Try.func14 m7_q rfl #[.agg #[.int .i64 a3_0, .int .i64 a3_1, .int .i64 a3_2]] (by rfl) rfl rfl m1_q ?_
     with_reducible refine (laws_toOutage.calls a3_0 a3_1 a3_2 t568 t569 t570 _ A111.out).mono ?_
     rintro e w' ⟨rfl, hb⟩
     refine ⟨_, rfl, ?_⟩
     replace HO_10 := Ae_q (rO_q (rup HO_10.out) hb)
     replace HO_15 := Ae_q (rO_q (rup HO_15.out) hb)
     replace HO_526001 := Ae_q (rO_q (rup HO_526001.out) hb)
     replace HO560 := Ae_q (Kd.S_below m80_q hb)
     replace HO564 := Ae_q (rO_q (rup HO564.out) hb)
     replace HO567 := Ae_q (rO_q (rup HO567.out) hb)
     replace BK497 := Ae_q (bB_q (g := gb497) (o := .cells #[.int .i64 a1_0, .slice A1_1 l1_1.length c1_1] 39 (0, 0)) (bup BK497.out) hb)
     replace BK498 := Ae_q (bB_q (g := gb498) (o := .cells #[.int .i64 a3_0, .int .i64 a3_1, .int .i64 a3_2] 25 (0, 0)) (bup BK498.out) hb)
     replace BK525 := Ae_q (bB_q (g := gb525) (o := .cells #[.int .i64 t521, .slice Ao54 t551.length co54] 43 (0, 0)) (bup BK525.out) hb)
     replace HB := Ae_q (bT_q m2_q hb)
     (try clear hb)
     (try clear hb2)
     (try clear hk)
     (try clear hi)
     obtain ⟨Ao121, co121, eo121⟩ := Kd.S_slice HO560.out
     (first | subst eo121 | (injection eo121 with f1_ f2_ f3_; have f4_ := f1_.symm; have f5_ := f3_.symm; clear f1_ f2_ f3_; subst f4_; subst f5_))
     obtain ⟨Ao122, co122, eo122⟩ := rS_q HO564.out
     (first | subst eo122 | (injection eo122 with f1_ f2_ f3_; have f4_ := f1_.symm; have f5_ := f3_.symm; clear f1_ f2_ f3_; subst f4_; subst f5_))
     obtain ⟨Ao123, co123, eo123⟩ := rS_q HO567.out
     (first | subst eo123 | (injection eo123 with f1_ f2_ f3_; have f4_ := f1_.symm; have f5_ := f3_.symm; clear f1_ f2_ f3_; subst f4_; subst f5_))
     refine hK.out _ _ ⟨(bC_q BK497.out 0).trans rfl, (bC_q BK497.out 1).trans rfl, (bC_q BK498.out 0).trans rfl, (bC_q BK498.out 1).trans rfl, (bC_q BK498.out 2).trans rfl⟩ (fun hHeld => ?_)
     clear hK K
     refine nJ_q ?_
     refine one_ (i := 8) (N := some 128) #[true, true, true, true, true, true, true, true, true, false, false, false, false, false] rfl rfl (one_of HT_.out m7_q) (by decide) (fun K hK => ?_)
     refine goes_ Try.func28 m7_q rfl #[.slice Ao121 t558.length co121, .agg #[.int .i64 t561, .slice Ao122 t562.length co122], .slice Ao123 t565.length co123, .agg #[.int .i64 t568, .int .i64 t569, .int .i64 t570]] (by rfl) rfl rfl m1_q ?_
     with_reducible refine (impl_OutageRepair.calls kj78 _ _ t558 t561 _ _ t562 _ _ t565 t568 t569 t570 t571 t574 _ ?side1 ?side2 ?side3 ?side4 ?side5 ?side6 A112.out).mono ?_
     (case side1 => repeat (first | exact (Kd.S_reads' HO560.out).2.2 | (with_reducible refine cA_q ?_ _) | (with_reducible refine cN_q ?_ _) | (with_reducible refine cD_q ?_)))
     (case side2 => exact (Kd.S_reads' HO560.out).2.1)
     (case side3 => exact cup (rR_q HO564.out).2.2)
     (case side4 => exact (rR_q HO564.out).2.1)
     (case side5 => exact cup (rR_q HO567.out).2.2)
     (case side6 => exact (rR_q HO567.out).2.1)
     rintro e w' ⟨v572, rfl, ho0, hb⟩
     refine ⟨_, rfl, ?_⟩
     replace HO560 := Ae_q (Kd.S_elder' m80_q (rB_q ho0) hb)
     have HO573 := Ae_q (rL_q (rW_q (rW_q (rW_q (rW_q (rW_q ho0 (rT_q (rup HO_10.out))) (rT_q (rup HO_15.out))) (rT_q (rup HO_526001.out))) (rT_q (rup HO564.out))) (rT_q (rup HO567.out))) (bZ_q m2_q))
     replace HO_10 := Ae_q (rE_q (rup HO_10.out) (rB_q ho0) hb)
     replace HO_15 := Ae_q (rE_q (rup HO_15.out) (rB_q ho0) hb)
     replace HO_526001 := Ae_q (rE_q (rup HO_526001.out) (rB_q ho0) hb)
     replace HO564 := Ae_q (rE_q (rup HO564.out) (rB_q ho0) hb)
     replace HO567 := Ae_q (rE_q (rup HO567.out) (rB_q ho0) hb)
     replace BK497 := Ae_q (bB_q (g := gb497) (o := .cells #[.int .i64 a1_0, .slice A1_1 l1_1.length c1_1] 39 (0, 0)) (bup BK497.out) hb)
     replace BK498 := Ae_q (bB_q (g := gb498) (o := .cells #[.int .i64 a3_0, .int .i64 a3_1, .int .i64 a3_2] 25 (0, 0)) (bup BK498.out) hb)
     replace BK525 := Ae_q (bB_q (g := gb525) (o := .cells #[.int .i64 t521, .slice Ao54 t551.length co54] 43 (0, 0)) (bup BK525.out) hb)
     replace HB := Ae_q (bT_q m2_q hb)
     (try clear hb)
     (try clear hb2)
     (try clear hk)
     (try clear hi)
     (try clear ho0)
     refine hK.out _ _ ⟨(bC_q BK497.out 0).trans rfl, (bC_q BK497.out 1).trans rfl, (bC_q BK498.out 0).trans rfl, (bC_q BK498.out 1).trans rfl, (bC_q BK498.out 2).trans rfl⟩ (fun hHeld => ?_)
     clear hK K
     refine nJ_q ?_
     refine pJ HT_ 9 119 rfl rfl ?_
     refine pJ HT_ 10 129 rfl rfl ?_
     refine pJ HT_ 11 130 rfl rfl ?_
     refine pJ HT_ 12 20 rfl rfl ?_
     refine pJ HT_ 13 21 rfl rfl ?_
     refine done_ (done_of HT_.out m7_q) ?_
     go_upto_region 38 with (fail)
     go_cut [139] (fun v139 wc => ∃ (kq : Nat) (x139_112 : Bool), v139 = .bool x139_112 ∧ Aside0 (laws_FnExactOutageRepair.j2 kq t556 t555 x139_112 = some r) ∧ Aside0 (kq ≤ kj78) ∧ Aside0 (Kd.R kI_q 3 wc w.heap.size (fun k_ => some k_ ≠ ((.slice Ao54 t551.length co54) : Value).ownBlock) (.slice Ao114 t532.length co114) t556) ∧ Aside0 (Kd.R kI_q 3 wc w.heap.size (fun k_ => some k_ ≠ ((.slice Ao114 t532.length co114) : Value).ownBlock) (.slice Ao54 t551.length co54) t551) ∧ Aside0 (wc.heap[gb497]? = some (.cells #[.int .i64 a1_0, (.slice A1_1 l1_1.length c1_1)] 39 (0, 0))) ∧ Aside0 (wc.heap[gb498]? = some (.cells #[.int .i64 a3_0, .int .i64 a3_1, .int .i64 a3_2] 25 (0, 0))) ∧ Aside0 (wc.heap[gb525]? = some (.cells #[.int .i64 t521, (.slice Ao54 t551.length co54)] 43 (0, 0))) ∧ Aside0 (Below w.heap.size w wc))
     case first =>
      have H := HC113.out
      clear HC113
      replace H := oB_q.mp H
      obtain ⟨t575, A1250, H⟩ := H
      replace H : (if t575 = true then (laws_FnExactOutageRepair.j2 kj78 t556 t555 (t574 != t517)) else (laws_FnExactOutageRepair.j2 kj78 t556 t555 true)) = some r := H
      have A125 := Ae_q A1250
      clear A1250
      by_cases c126 : t575 = true
      ·subst c126
       have H1 : (laws_FnExactOutageRepair.j2 kj78 t556 t555 (t574 != t517)) = some r := by rw [if_pos rfl] at H; exact H
       clear H
       have H := H1
       clear H1
       have H' := Ae_q H
       clear H
       obtain ⟨Ao127, co127, eo127⟩ := rS_q HO573.out
       subst eo127
       obtain ⟨Ao128, co128, eo128⟩ := rS_q HO_10.out
       subst eo128
       go_wp2_with (first | ((with_reducible refine gC_q (f := 16) rfl ?_); refine gL_q (some 133) rfl rfl Try.func16 m7_q rfl #[.slice Ao127 t571.length co127, .slice Ao128 t514.length co128] rfl m1_q ?_; (with_reducible refine (laws_eqIntS.calls kj78 _ _ t571 _ _ t514 true _ ?side1 ?side2 ?side3 ?side4 A125.out).mono ?_); (case side1 => exact cup (rR_q HO573.out).2.2); (case side2 => exact (rR_q HO573.out).2.1); (case side3 => exact m62_q); (case side4 => exact m112_q); rintro e w' ⟨rfl, ⟨nd, rfl⟩⟩; refine ⟨_, rfl, ?_⟩))
       go_meet
       case rel => exact ⟨_, ((t574 != t517)), m5_q, H', ⟨by have := HJ30.out; have := HJ78.out; first | omega | exact nR_q _⟩, ⟨m45_q⟩, ⟨m44_q⟩, ⟨m94_q⟩, ⟨m95_q⟩, ⟨m96_q⟩, ⟨m2_q⟩⟩
      replace c126 := fM_q.mpr c126
      subst c126
      have H1 : (laws_FnExactOutageRepair.j2 kj78 t556 t555 true) = some r := by rw [if_neg (show ¬ (false = true) by decide)] at H; exact H
      clear H
      have H := H1
      clear H1
      have H' := Ae_q H
      clear H
      obtain ⟨Ao129, co129, eo129⟩ := rS_q HO573.out
      subst eo129
      obtain ⟨Ao130, co130, eo130⟩ := rS_q HO_10.out
      subst eo130
      go_wp2_with (first | ((with_reducible refine gC_q (f := 16) rfl ?_); refine gL_q (some 133) rfl rfl Try.func16 m7_q rfl #[.slice Ao129 t571.length co129, .slice Ao130 t514.length co130] rfl m1_q ?_; (with_reducible refine (laws_eqIntS.calls kj78 _ _ t571 _ _ t514 false _ ?side1 ?side2 ?side3 ?side4 A125.out).mono ?_); (case side1 => exact cup (rR_q HO573.out).2.2); (case side2 => exact (rR_q HO573.out).2.1); (case side3 => exact m62_q); (case side4 => exact m112_q); rintro e w' ⟨rfl, ⟨nd, rfl⟩⟩; refine ⟨_, rfl, ?_⟩))
      go_meet
      case rel => exact ⟨_, (true), m5_q, H', ⟨by have := HJ30.out; have := HJ78.out; first | omega | exact nR_q _⟩, ⟨m45_q⟩, ⟨m44_q⟩, ⟨m94_q⟩, ⟨m95_q⟩, ⟨m96_q⟩, ⟨m2_q⟩⟩
     case rest =>
      clear HC113
      try clear c1
      try clear c2
      try clear p2
      try clear c3
      try clear c5
      try clear c6
      try clear c7
      try clear c8
      try clear c9
      try clear c10
      try clear c12
      try clear c13
      try clear c14
      try clear c14b0
      try clear c16
      try clear c17
      try clear c18
      try clear c19
      try clear c20
      try clear c21
      try clear c23
      try clear c25
      try clear c26
      try clear c28
      try clear c29
      try clear c35
      try clear c51
      try clear c52
      try clear c62
      try clear c67
      try clear c70
      try clear c73
      try clear c76
      try clear c89
      try clear c90
      try clear c94
      try clear c94b0
      try clear c96
      try clear c101
      try clear c104
      try clear c104b0
      try clear c107
      try clear c107b0
      try clear c107b1
      try clear c126
      try clear hcz19_0
      try clear hcz19_1
      try clear hcz36_0
      try clear hcz36_1
      try clear hcz48_0
      try clear hcz48_1
      try clear hcz53_0
      try clear hcz53_1
      try clear hcz91_0
      try clear hcz91_1
      try clear hfz19_0
      try clear hfz19_1
      try clear hfz36_0
      try clear hfz36_1
      try clear hfz48_0
      try clear hfz48_1
      try clear hfz53_0
      try clear hfz53_1
      try clear hfz91_0
      try clear hfz91_1
      try clear p2
      obtain ⟨kq, x139_112, rfl, HA, HJ112, HO_15, HO_526001, BK497, BK498, BK525, HB⟩ := hcut
      have hl15_112 := (rR_q HO_15.out).1
      rw [hl15_112] at HO_15
      (try simp only [hl15_112])
      (try simp only [hl15_112] at BK497)
      (try simp only [hl15_112] at BK498)
      (try simp only [hl15_112] at BK525)
      (try simp only [hl15_112] at HO_526001)
      cases kq with
      | zero => exact absurd HA.out (by simp [laws_FnExactOutageRepair.j2])
      | succ kj112 =>
       have H := HA.out
       clear HA
       simp only [laws_FnExactOutageRepair.j2] at H
       by_cases c131 : x139_112 = true
       ·subst c131
        have H1 : (some false) = some r := by rw [if_pos rfl] at H; exact H
        clear H
        have H := H1
        clear H1
        obtain rfl := oI_q H
        go_wp2
        go_ret
        exact ⟨m4_q, m2_q⟩
       replace c131 := fM_q.mpr c131
       subst c131
       have H1 : ((laws_heldIntS.f kj112 t556 1).bind fun t576 => (if t576 < 0 then (some false) else (if t576 = t555 then (some true) else (some false)))) = some r := by rw [if_neg (show ¬ (false = true) by decide)] at H; exact H
       clear H
       have H := H1
       clear H1
       replace H := oB_q.mp H
       obtain ⟨t576, A1320, H⟩ := H
       replace H : (if t576 < 0 then (some false) else (if t576 = t555 then (some true) else (some false))) = some r := H
       have A132 := Ae_q A1320
       clear A1320
       by_cases c133 : t576 < 0
       ·rw [if_pos c133] at H
        have c133b0 : decide (t576 < 0) = true := dT_q c133
        clear c133
        obtain rfl := oI_q H
        go_wp2_with (first | ((with_reducible refine gC_q (f := 20) rfl ?_); refine gL_q (some 142) rfl rfl Try.func20 m7_q rfl #[.slice Ao114 t556.length co114, .int .i64 1] rfl m1_q ?_; (with_reducible refine (laws_heldIntS.calls kj112 _ _ t556 1 t576 _ ?side1 ?side2 A132.out).mono ?_); (case side1 => exact m104_q); (case side2 => exact m124_q); rintro e w' ⟨rfl, ⟨nd, rfl⟩⟩; refine ⟨_, rfl, ?_⟩))
        go_ret
        exact ⟨m4_q, m2_q⟩
       rw [if_neg c133] at H
       have c133b0 : decide (t576 < 0) = false := dF_q c133
       clear c133
       by_cases c134 : t576 = t555
       ·rw [if_pos c134] at H
        have c134b0 : (t576 == t555) = true := beq_iff_eq.mpr c134
        have c134b1 : (t576 != t555) = false := nE_q.mpr c134
        clear c134
        obtain rfl := oI_q H
        go_wp2_with (first | ((with_reducible refine gC_q (f := 20) rfl ?_); refine gL_q (some 142) rfl rfl Try.func20 m7_q rfl #[.slice Ao114 t556.length co114, .int .i64 1] rfl m1_q ?_; (with_reducible refine (laws_heldIntS.calls kj112 _ _ t556 1 t576 _ ?side1 ?side2 A132.out).mono ?_); (case side1 => exact m104_q); (case side2 => exact m124_q); rintro e w' ⟨rfl, ⟨nd, rfl⟩⟩; refine ⟨_, rfl, ?_⟩))
        go_ret
        exact ⟨m4_q, m2_q⟩
       rw [if_neg c134] at H
       have c134b0 : (t576 == t555) = false := fN_q.mpr c134
       have c134b1 : (t576 != t555) = true := nI_q.mpr c134
       obtain rfl := oI_q H
       go_wp2_with (first | ((with_reducible refine gC_q (f := 20) rfl ?_); refine gL_q (some 142) rfl rfl Try.func20 m7_q rfl #[.slice Ao114 t556.length co114, .int .i64 1] rfl m1_q ?_; (with_reducible refine (laws_heldIntS.calls kj112 _ _ t556 1 t576 _ ?side1 ?side2 A132.out).mono ?_); (case side1 => exact m104_q); (case side2 => exact m124_q); rintro e w' ⟨rfl, ⟨nd, rfl⟩⟩; refine ⟨_, rfl, ?_⟩))
       go_ret
       exact ⟨m4_q, m2_q⟩

def laws_FnExactOutageRepair.Pure : Prop := ∀ (l0 : List (S59)) (a1_0 : Int) (l1_1 : List Int) (l2 : List Int) (a3_0 : Int) (a3_1 : Int) (a3_2 : Int), l0.length ≤ maxLen → (∀ x ∈ l0, x.f3.length ≤ maxLen) → l1_1.length ≤ maxLen → l2.length ≤ maxLen → (∀ x ∈ l2, (Lit.int .i64 x).wf = true) → ∃ k, laws_FnExactOutageRepair.f k l0 a1_0 l1_1 l2 a3_0 a3_1 a3_2 = some true

end Go.Proofs.Ytfnpiacmlahegaa.PRp
