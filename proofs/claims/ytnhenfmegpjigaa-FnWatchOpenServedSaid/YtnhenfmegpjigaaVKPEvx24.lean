import Derived.Test.YtnhenfmegpjigaaVKPEvx0
import Derived.Test.YtnhenfmegpjigaaVKPEvx15
import Derived.Test.YtnhenfmegpjigaaVKPEvx22
import Derived.Test.YtnhenfmegpjigaaVKPEvx23
namespace Go.Proofs.Ytnhenfmegpjigaa.PEv
open Go.RowKit Go.Proofs.YtnhenfmegpjigaaW.PrintWords Go.Proofs.YtnhenfmegpjigaaW.PrintLast Go.Proofs.YtnhenfmegpjigaaW.PrintMore
attribute [local go_sem] max2_int min2_int max_two min_two max_three min_three max_four min_four
set_option linter.unusedVariables false
set_option linter.unusedSimpArgs false

def impl_isWrong.f (l0 : List (S50)) (l1 : List (S27)) (a2_0 : Int) (a2_1 : Int) (a2_2 : Int) (a2_3 : Int) (a2_4 : Int) (a2_5 : Int) : Option (Bool) := (impl_made.f l1 a2_2).bind fun bt514 => (if a2_0 = 1 then (some bt514.2.2.2.2.2.2) else (if a2_0 = 3 then (some (!bt514.2.2.2.2.2.2)) else ((impl_Guest.f l0 a2_3).bind fun t522 => (if bt514.2.2.2.2.2.2 = true then (if (wrap64 (a2_1 - bt514.2.1)) > 120 then (some true) else (if t522 < 0 then (some true) else (if 0 ≤ t522 then (if t522 < (l0.length : Int) then ((impl_GuestMay.f ((rd_T50 l0 t522).f0) ((rd_T50 l0 t522).f1) ((rd_T50 l0 t522).f2) bt514.2.2.2.2.1 bt514.2.2.2.2.2.1).bind fun t524 => (some (!t524))) else (none)) else (none)))) else (some true)))))
def impl_isWrong.T8 : Bool × List (List Nat × List Nat) := (true, [([], []), ([0], [0]), ([1], [1]), ([2], [2]), ([3, 2], [2, 3]), ([2], [2]), ([5, 2], [2, 5]), ([4, 6, 2], [2, 4, 6]), ([7, 2], [2, 7]), ([2, 8], [2, 8]), ([9, 2], [9]), ([10], [10]), ([11, 10], [10, 11]), ([10, 12], [10, 12]), ([13, 10], [13]), ([14], [14]), ([14], [14]), ([15, 16, 14], [14, 15, 16]), ([17, 14], [14, 17]), ([14], [14]), ([19, 14], [14, 19]), ([14], [14]), ([21, 14], [14, 21]), ([18, 20, 22, 14, 14], [14, 18, 20, 22]), ([23, 14], [14, 23]), ([14, 24], [14, 24]), ([25, 23, 0, 1, 2, 3, 4, 5, 6, 7, 8, 9, 10, 11, 12, 13, 14, 15, 16, 17, 18, 19, 20, 21, 22, 23, 24, 25], [25])])
def impl_isWrong.B8 : List Nat := [0, 1, 3, 7, 15, 7, 39, 127, 255, 511, 1023, 2047, 4095, 8191, 16383, 32767, 32767, 131071, 262143, 32767, 557055, 32767, 2129919, 8388607, 16777215, 33554431, 67108863]
theorem impl_isWrong.tab8 : rtab .any (opsOf Try.f55 8) = impl_isWrong.T8 := by kernel_rfl
theorem impl_isWrong.bits8 : waitsOk impl_isWrong.T8.2 impl_isWrong.B8 = true := by kernel_rfl
set_option maxHeartbeats 8000000 in
set_option maxRecDepth 100000 in
theorem impl_isWrong.calls (A0 : Option Addr) (c0 : Nat) (l0 : List (S50)) (A1 : Option Addr) (c1 : Nat) (l1 : List (S27)) (a2_0 : Int) (a2_1 : Int) (a2_2 : Int) (a2_3 : Int) (a2_4 : Int) (a2_5 : Int) (r : Bool) (w : World) (hr0 : Kd.C k50 w A0 l0.length l0) (hc0 : l0.length ≤ c0) (hr1 : Kd.C k27 w A1 l1.length l1) (hc1 : l1.length ≤ c1) (h : impl_isWrong.f l0 l1 a2_0 a2_1 a2_2 a2_3 a2_4 a2_5 = some r) :
    Calls Try.prog 55 #[.slice A0 l0.length c0, .slice A1 l1.length c1, .agg #[.int .i64 a2_0, .int .i64 a2_1, .int .i64 a2_2, .int .i64 a2_3, .int .i64 a2_4, .int .i64 a2_5]] w fun e w' => e = .returned (.bool r) ∧ Below w.heap.size w w' := by
 have hu27 := Try.underlying27
 have hu50 := Try.underlying50
 have HR0 := Ae_q hr0
 have HC0 := Ae_q hc0
 clear hr0 hc0
 have HR1 := Ae_q hr1
 have HC1 := Ae_q hc1
 clear hr1 hc1
 have HB := Ae_q (bR_q w.heap.size w)
 have H : ((impl_made.f l1 a2_2).bind fun bt514 => (if a2_0 = 1 then (some bt514.2.2.2.2.2.2) else (if a2_0 = 3 then (some (!bt514.2.2.2.2.2.2)) else ((impl_Guest.f l0 a2_3).bind fun t522 => (if bt514.2.2.2.2.2.2 = true then (if (wrap64 (a2_1 - bt514.2.1)) > 120 then (some true) else (if t522 < 0 then (some true) else (if 0 ≤ t522 then (if t522 < (l0.length : Int) then ((impl_GuestMay.f ((rd_T50 l0 t522).f0) ((rd_T50 l0 t522).f1) ((rd_T50 l0 t522).f2) bt514.2.2.2.2.1 bt514.2.2.2.2.2.1).bind fun t524 => (some (!t524))) else (none)) else (none)))) else (some true)))))) = some r := h
 clear h
 replace H := oB_q.mp H
 obtain ⟨⟨t514, t515, t516, t517, t518, t519, t520⟩, A40, H⟩ := H
 replace H : (if a2_0 = 1 then (some t520) else (if a2_0 = 3 then (some (!t520)) else ((impl_Guest.f l0 a2_3).bind fun t522 => (if t520 = true then (if (wrap64 (a2_1 - t515)) > 120 then (some true) else (if t522 < 0 then (some true) else (if 0 ≤ t522 then (if t522 < (l0.length : Int) then ((impl_GuestMay.f ((rd_T50 l0 t522).f0) ((rd_T50 l0 t522).f1) ((rd_T50 l0 t522).f2) t518 t519).bind fun t524 => (some (!t524))) else (none)) else (none)))) else (some true))))) = some r := H
 have A4 := Ae_q A40
 clear A40
 by_cases c5 : a2_0 = 1
 ·rw [if_pos c5] at H
  have c5b0 : (a2_0 == 1) = true := beq_iff_eq.mpr c5
  have c5b1 : (a2_0 != 1) = false := nE_q.mpr c5
  clear c5
  obtain rfl := oI_q H
  go_enter Try.func55, Try.ntmps55
  go_wp2_with (first | ((with_reducible refine gD_q (N := 5) rfl ?_); refine bE_q ?hg (N := 5) ?hd (cs := #[.int .i64 a2_0, .int .i64 a2_1, .int .i64 a2_2, .int .i64 a2_3, .int .i64 a2_4, .int .i64 a2_5]) (t := 27) ?hr ?_; (case hd => rfl); (case hg => rfl); (case hr => first | (go_simp; done) | (go_simp; rfl)); intro gb513 hg w6 hbox hb; have n0_ := Ae_q (bT_q (bel HB.out) hb); have n1_ := Ae_q (hbox); have n2_ := Ae_q ((by rw [hg]; exact (bZ_q (bel HB.out)) : w.heap.size ≤ gb513)); have n3_ := Ae_q ((by rw [hg]; exact (bZ_q (bel HB.out)) : w.heap.size ≤ gb513)); clear HB; have HB := n0_; have BK513 := n1_; have GW513 := n2_; have GE513 := n3_; clear n0_ n1_ n2_ n3_; clear hb hbox hg; have hcz7_0 : cI w6 gb513 0 a2_0 := cZ BK513 0 rfl; have hcz7_1 : cI w6 gb513 1 a2_1 := cZ BK513 1 rfl; have hcz7_2 : cI w6 gb513 2 a2_2 := cZ BK513 2 rfl; have hcz7_3 : cI w6 gb513 3 a2_3 := cZ BK513 3 rfl; have hcz7_4 : cI w6 gb513 4 a2_4 := cZ BK513 4 rfl; have hcz7_5 : cI w6 gb513 5 a2_5 := cZ BK513 5 rfl; have hfz7_0 := bF_q BK513.out 0; have hfz7_1 := bF_q BK513.out 1; have hfz7_2 := bF_q BK513.out 2; have hfz7_3 := bF_q BK513.out 3; have hfz7_4 := bF_q BK513.out 4; have hfz7_5 := bF_q BK513.out 5) | ((with_reducible refine gC_q (f := 51) rfl ?_); refine gL_q (some 14) rfl rfl Try.func51 (by kernel_rfl) rfl #[.slice A1 l1.length c1, .int .i64 a2_2] rfl (by (try simp only [lM_q, lC_q, lN_q]); first | done | rfl | (simp only [lD_q, lT_q]; rfl)) ?_; (with_reducible refine (impl_made.calls _ _ l1 a2_2 t514 t515 t516 t517 t518 t519 t520 _ ?side1 ?side2 A4.out).mono ?_); (case side1 => exact cup (cB_q HR1.out HB.out)); (case side2 => exact HC1.out); rintro e w8 ⟨rfl, hb⟩; refine ⟨_, rfl, ?_⟩; have n0_ := Ae_q (bB_q (g := gb513) (o := .cells #[.int .i64 a2_0, .int .i64 a2_1, .int .i64 a2_2, .int .i64 a2_3, .int .i64 a2_4, .int .i64 a2_5] 27 (0, 0)) (bup BK513.out) hb); have n1_ := Ae_q (bT_q (by repeat (with_reducible first | exact HB.out | apply bA_q | apply pB_q | apply bD_q | refine bS_q ?_ GE513.out)) hb); clear BK513; clear HB; have BK513 := n0_; have HB := n1_; clear n0_ n1_; (try clear hb); (try clear hb2); (try clear hk); (try clear hi)) | ((with_reducible refine gD_q (N := 7) rfl ?_); refine bE_q ?hg (N := 7) ?hd (cs := #[.int .i64 0, .int .i64 0, .int .i64 0, .int .i64 0, .int .i64 0, .int .i64 0]) (t := 27) ?hr ?_; (case hd => rfl); (case hg => rfl); (case hr => first | (go_simp; done) | (go_simp; rfl)); intro gb521 hg w9 hbox hb; have n0_ := Ae_q (bB_q (g := gb513) (o := .cells #[.int .i64 a2_0, .int .i64 a2_1, .int .i64 a2_2, .int .i64 a2_3, .int .i64 a2_4, .int .i64 a2_5] 27 (0, 0)) (bup BK513.out) hb); have n1_ := Ae_q (bT_q (by repeat (with_reducible first | exact HB.out | apply bA_q | apply pB_q | apply bD_q | refine bS_q ?_ GE513.out)) hb); have n2_ := Ae_q (hbox); have n3_ := Ae_q ((by rw [hg]; exact (bZ_q (by repeat (with_reducible first | exact HB.out | apply bA_q | apply pB_q | apply bD_q | refine bS_q ?_ GE513.out))) : w.heap.size ≤ gb521)); have n4_ := Ae_q ((by rw [hg]; exact (bZ_q (by repeat (with_reducible first | exact HB.out | apply bA_q | apply pB_q | apply bD_q | refine bS_q ?_ GE513.out))) : w.heap.size ≤ gb521)); have n5_ := Ae_q ((by rw [hg]; exact nL_q (blk_lt (g := gb513) (o := .cells #[.int .i64 a2_0, .int .i64 a2_1, .int .i64 a2_2, .int .i64 a2_3, .int .i64 a2_4, .int .i64 a2_5] 27 (0, 0)) (bup BK513.out)) : gb513 ≠ gb521)); have n6_ := Ae_q ((by rw [hg]; exact nG_q (blk_lt (g := gb513) (o := .cells #[.int .i64 a2_0, .int .i64 a2_1, .int .i64 a2_2, .int .i64 a2_3, .int .i64 a2_4, .int .i64 a2_5] 27 (0, 0)) (bup BK513.out)) : gb521 ≠ gb513)); clear BK513; clear HB; have BK513 := n0_; have HB := n1_; have BK521 := n2_; have GW521 := n3_; have GE521 := n4_; have NB513_521 := n5_; have NB521_513 := n6_; clear n0_ n1_ n2_ n3_ n4_ n5_ n6_; clear hb hbox hg; have hnb10 := NB521_513.out; have hnc10 := NB513_521.out; have hcz11_0 : cI w9 gb521 0 0 := cZ BK521 0 rfl; have hcz11_1 : cI w9 gb521 1 0 := cZ BK521 1 rfl; have hcz11_2 : cI w9 gb521 2 0 := cZ BK521 2 rfl; have hcz11_3 : cI w9 gb521 3 0 := cZ BK521 3 rfl; have hcz11_4 : cI w9 gb521 4 0 := cZ BK521 4 rfl; have hcz11_5 : cI w9 gb521 5 0 := cZ BK521 5 rfl; have hfz11_0 := bF_q BK521.out 0; have hfz11_1 := bF_q BK521.out 1; have hfz11_2 := bF_q BK521.out 2; have hfz11_3 := bF_q BK521.out 3; have hfz11_4 := bF_q BK521.out 4; have hfz11_5 := bF_q BK521.out 5; have hcz12_0 : cI w9 gb513 0 a2_0 := cZ BK513 0 rfl; have hcz12_1 : cI w9 gb513 1 a2_1 := cZ BK513 1 rfl; have hcz12_2 : cI w9 gb513 2 a2_2 := cZ BK513 2 rfl; have hcz12_3 : cI w9 gb513 3 a2_3 := cZ BK513 3 rfl; have hcz12_4 : cI w9 gb513 4 a2_4 := cZ BK513 4 rfl; have hcz12_5 : cI w9 gb513 5 a2_5 := cZ BK513 5 rfl; have hfz12_0 := bF_q BK513.out 0; have hfz12_1 := bF_q BK513.out 1; have hfz12_2 := bF_q BK513.out 2; have hfz12_3 := bF_q BK513.out 3; have hfz12_4 := bF_q BK513.out 4; have hfz12_5 := bF_q BK513.out 5))
  go_ret
  exact ⟨by first | rfl | (simp [eN_q, eS_q] <;> rfl) | (simp [*, eN_q, eS_q] <;> rfl), by repeat (with_reducible first | exact HB.out | apply bA_q | apply pB_q | apply bD_q | refine bS_q ?_ GE513.out | refine bS_q ?_ GE521.out)⟩
 rw [if_neg c5] at H
 have c5b0 : (a2_0 == 1) = false := fN_q.mpr c5
 have c5b1 : (a2_0 != 1) = true := nI_q.mpr c5
 by_cases c13 : a2_0 = 3
 ·rw [if_pos c13] at H
  have c13b0 : (a2_0 == 3) = true := beq_iff_eq.mpr c13
  have c13b1 : (a2_0 != 3) = false := nE_q.mpr c13
  clear c13
  obtain rfl := oI_q H
  go_enter Try.func55, Try.ntmps55
  go_wp2_with (first | ((with_reducible refine gD_q (N := 5) rfl ?_); refine bE_q ?hg (N := 5) ?hd (cs := #[.int .i64 a2_0, .int .i64 a2_1, .int .i64 a2_2, .int .i64 a2_3, .int .i64 a2_4, .int .i64 a2_5]) (t := 27) ?hr ?_; (case hd => rfl); (case hg => rfl); (case hr => first | (go_simp; done) | (go_simp; rfl)); intro gb513 hg w14 hbox hb; have n0_ := Ae_q (bT_q (bel HB.out) hb); have n1_ := Ae_q (hbox); have n2_ := Ae_q ((by rw [hg]; exact (bZ_q (bel HB.out)) : w.heap.size ≤ gb513)); have n3_ := Ae_q ((by rw [hg]; exact (bZ_q (bel HB.out)) : w.heap.size ≤ gb513)); clear HB; have HB := n0_; have BK513 := n1_; have GW513 := n2_; have GE513 := n3_; clear n0_ n1_ n2_ n3_; clear hb hbox hg; have hcz15_0 : cI w14 gb513 0 a2_0 := cZ BK513 0 rfl; have hcz15_1 : cI w14 gb513 1 a2_1 := cZ BK513 1 rfl; have hcz15_2 : cI w14 gb513 2 a2_2 := cZ BK513 2 rfl; have hcz15_3 : cI w14 gb513 3 a2_3 := cZ BK513 3 rfl; have hcz15_4 : cI w14 gb513 4 a2_4 := cZ BK513 4 rfl; have hcz15_5 : cI w14 gb513 5 a2_5 := cZ BK513 5 rfl; have hfz15_0 := bF_q BK513.out 0; have hfz15_1 := bF_q BK513.out 1; have hfz15_2 := bF_q BK513.out 2; have hfz15_3 := bF_q BK513.out 3; have hfz15_4 := bF_q BK513.out 4; have hfz15_5 := bF_q BK513.out 5) | ((with_reducible refine gC_q (f := 51) rfl ?_); refine gL_q (some 14) rfl rfl Try.func51 (by kernel_rfl) rfl #[.slice A1 l1.length c1, .int .i64 a2_2] rfl (by (try simp only [lM_q, lC_q, lN_q]); first | done | rfl | (simp only [lD_q, lT_q]; rfl)) ?_; (with_reducible refine (impl_made.calls _ _ l1 a2_2 t514 t515 t516 t517 t518 t519 t520 _ ?side1 ?side2 A4.out).mono ?_); (case side1 => exact cup (cB_q HR1.out HB.out)); (case side2 => exact HC1.out); rintro e w16 ⟨rfl, hb⟩; refine ⟨_, rfl, ?_⟩; have n0_ := Ae_q (bB_q (g := gb513) (o := .cells #[.int .i64 a2_0, .int .i64 a2_1, .int .i64 a2_2, .int .i64 a2_3, .int .i64 a2_4, .int .i64 a2_5] 27 (0, 0)) (bup BK513.out) hb); have n1_ := Ae_q (bT_q (by repeat (with_reducible first | exact HB.out | apply bA_q | apply pB_q | apply bD_q | refine bS_q ?_ GE513.out)) hb); clear BK513; clear HB; have BK513 := n0_; have HB := n1_; clear n0_ n1_; (try clear hb); (try clear hb2); (try clear hk); (try clear hi)) | ((with_reducible refine gD_q (N := 7) rfl ?_); refine bE_q ?hg (N := 7) ?hd (cs := #[.int .i64 0, .int .i64 0, .int .i64 0, .int .i64 0, .int .i64 0, .int .i64 0]) (t := 27) ?hr ?_; (case hd => rfl); (case hg => rfl); (case hr => first | (go_simp; done) | (go_simp; rfl)); intro gb521 hg w17 hbox hb; have n0_ := Ae_q (bB_q (g := gb513) (o := .cells #[.int .i64 a2_0, .int .i64 a2_1, .int .i64 a2_2, .int .i64 a2_3, .int .i64 a2_4, .int .i64 a2_5] 27 (0, 0)) (bup BK513.out) hb); have n1_ := Ae_q (bT_q (by repeat (with_reducible first | exact HB.out | apply bA_q | apply pB_q | apply bD_q | refine bS_q ?_ GE513.out)) hb); have n2_ := Ae_q (hbox); have n3_ := Ae_q ((by rw [hg]; exact (bZ_q (by repeat (with_reducible first | exact HB.out | apply bA_q | apply pB_q | apply bD_q | refine bS_q ?_ GE513.out))) : w.heap.size ≤ gb521)); have n4_ := Ae_q ((by rw [hg]; exact (bZ_q (by repeat (with_reducible first | exact HB.out | apply bA_q | apply pB_q | apply bD_q | refine bS_q ?_ GE513.out))) : w.heap.size ≤ gb521)); have n5_ := Ae_q ((by rw [hg]; exact nL_q (blk_lt (g := gb513) (o := .cells #[.int .i64 a2_0, .int .i64 a2_1, .int .i64 a2_2, .int .i64 a2_3, .int .i64 a2_4, .int .i64 a2_5] 27 (0, 0)) (bup BK513.out)) : gb513 ≠ gb521)); have n6_ := Ae_q ((by rw [hg]; exact nG_q (blk_lt (g := gb513) (o := .cells #[.int .i64 a2_0, .int .i64 a2_1, .int .i64 a2_2, .int .i64 a2_3, .int .i64 a2_4, .int .i64 a2_5] 27 (0, 0)) (bup BK513.out)) : gb521 ≠ gb513)); clear BK513; clear HB; have BK513 := n0_; have HB := n1_; have BK521 := n2_; have GW521 := n3_; have GE521 := n4_; have NB513_521 := n5_; have NB521_513 := n6_; clear n0_ n1_ n2_ n3_ n4_ n5_ n6_; clear hb hbox hg; have hnb18 := NB521_513.out; have hnc18 := NB513_521.out; have hcz19_0 : cI w17 gb521 0 0 := cZ BK521 0 rfl; have hcz19_1 : cI w17 gb521 1 0 := cZ BK521 1 rfl; have hcz19_2 : cI w17 gb521 2 0 := cZ BK521 2 rfl; have hcz19_3 : cI w17 gb521 3 0 := cZ BK521 3 rfl; have hcz19_4 : cI w17 gb521 4 0 := cZ BK521 4 rfl; have hcz19_5 : cI w17 gb521 5 0 := cZ BK521 5 rfl; have hfz19_0 := bF_q BK521.out 0; have hfz19_1 := bF_q BK521.out 1; have hfz19_2 := bF_q BK521.out 2; have hfz19_3 := bF_q BK521.out 3; have hfz19_4 := bF_q BK521.out 4; have hfz19_5 := bF_q BK521.out 5; have hcz20_0 : cI w17 gb513 0 a2_0 := cZ BK513 0 rfl; have hcz20_1 : cI w17 gb513 1 a2_1 := cZ BK513 1 rfl; have hcz20_2 : cI w17 gb513 2 a2_2 := cZ BK513 2 rfl; have hcz20_3 : cI w17 gb513 3 a2_3 := cZ BK513 3 rfl; have hcz20_4 : cI w17 gb513 4 a2_4 := cZ BK513 4 rfl; have hcz20_5 : cI w17 gb513 5 a2_5 := cZ BK513 5 rfl; have hfz20_0 := bF_q BK513.out 0; have hfz20_1 := bF_q BK513.out 1; have hfz20_2 := bF_q BK513.out 2; have hfz20_3 := bF_q BK513.out 3; have hfz20_4 := bF_q BK513.out 4; have hfz20_5 := bF_q BK513.out 5))
  go_ret
  exact ⟨by first | rfl | (simp [eN_q, eS_q] <;> rfl) | (simp [*, eN_q, eS_q] <;> rfl), by repeat (with_reducible first | exact HB.out | apply bA_q | apply pB_q | apply bD_q | refine bS_q ?_ GE513.out | refine bS_q ?_ GE521.out)⟩
 rw [if_neg c13] at H
 have c13b0 : (a2_0 == 3) = false := fN_q.mpr c13
 have c13b1 : (a2_0 != 3) = true := nI_q.mpr c13
 replace H := oB_q.mp H
 obtain ⟨t522, A210, H⟩ := H
 replace H : (if t520 = true then (if (wrap64 (a2_1 - t515)) > 120 then (some true) else (if t522 < 0 then (some true) else (if 0 ≤ t522 then (if t522 < (l0.length : Int) then ((impl_GuestMay.f ((rd_T50 l0 t522).f0) ((rd_T50 l0 t522).f1) ((rd_T50 l0 t522).f2) t518 t519).bind fun t524 => (some (!t524))) else (none)) else (none)))) else (some true)) = some r := H
 have A21 := Ae_q A210
 clear A210
 by_cases c22 : t520 = true
 rotate_left
 ·replace c22 := fM_q.mpr c22
  subst c22
  have H1 : (some true) = some r := by rw [if_neg (show ¬ (false = true) by decide)] at H; exact H
  clear H
  have H := H1
  clear H1
  obtain rfl := oI_q H
  go_enter Try.func55, Try.ntmps55
  try go_wp2_with (first | ((with_reducible refine gD_q (N := 5) rfl ?_); refine bE_q ?hg (N := 5) ?hd (cs := #[.int .i64 a2_0, .int .i64 a2_1, .int .i64 a2_2, .int .i64 a2_3, .int .i64 a2_4, .int .i64 a2_5]) (t := 27) ?hr ?_; (case hd => rfl); (case hg => rfl); (case hr => first | (go_simp; done) | (go_simp; rfl)); intro gb513 hg w56 hbox hb; have n0_ := Ae_q (bT_q (bel HB.out) hb); have n1_ := Ae_q (hbox); have n2_ := Ae_q ((by rw [hg]; exact (bZ_q (bel HB.out)) : w.heap.size ≤ gb513)); have n3_ := Ae_q ((by rw [hg]; exact (bZ_q (bel HB.out)) : w.heap.size ≤ gb513)); clear HB; have HB := n0_; have BK513 := n1_; have GW513 := n2_; have GE513 := n3_; clear n0_ n1_ n2_ n3_; clear hb hbox hg; have hcz57_0 : cI w56 gb513 0 a2_0 := cZ BK513 0 rfl; have hcz57_1 : cI w56 gb513 1 a2_1 := cZ BK513 1 rfl; have hcz57_2 : cI w56 gb513 2 a2_2 := cZ BK513 2 rfl; have hcz57_3 : cI w56 gb513 3 a2_3 := cZ BK513 3 rfl; have hcz57_4 : cI w56 gb513 4 a2_4 := cZ BK513 4 rfl; have hcz57_5 : cI w56 gb513 5 a2_5 := cZ BK513 5 rfl; have hfz57_0 := bF_q BK513.out 0; have hfz57_1 := bF_q BK513.out 1; have hfz57_2 := bF_q BK513.out 2; have hfz57_3 := bF_q BK513.out 3; have hfz57_4 := bF_q BK513.out 4; have hfz57_5 := bF_q BK513.out 5) | ((with_reducible refine gC_q (f := 51) rfl ?_); refine gL_q (some 14) rfl rfl Try.func51 (by kernel_rfl) rfl #[.slice A1 l1.length c1, .int .i64 a2_2] rfl (by (try simp only [lM_q, lC_q, lN_q]); first | done | rfl | (simp only [lD_q, lT_q]; rfl)) ?_; (with_reducible refine (impl_made.calls _ _ l1 a2_2 t514 t515 t516 t517 t518 t519 false _ ?side1 ?side2 A4.out).mono ?_); (case side1 => exact cup (cB_q HR1.out HB.out)); (case side2 => exact HC1.out); rintro e w58 ⟨rfl, hb⟩; refine ⟨_, rfl, ?_⟩; have n0_ := Ae_q (bB_q (g := gb513) (o := .cells #[.int .i64 a2_0, .int .i64 a2_1, .int .i64 a2_2, .int .i64 a2_3, .int .i64 a2_4, .int .i64 a2_5] 27 (0, 0)) (bup BK513.out) hb); have n1_ := Ae_q (bT_q (by repeat (with_reducible first | exact HB.out | apply bA_q | apply pB_q | apply bD_q | refine bS_q ?_ GE513.out)) hb); clear BK513; clear HB; have BK513 := n0_; have HB := n1_; clear n0_ n1_; (try clear hb); (try clear hb2); (try clear hk); (try clear hi)) | ((with_reducible refine gD_q (N := 7) rfl ?_); refine bE_q ?hg (N := 7) ?hd (cs := #[.int .i64 0, .int .i64 0, .int .i64 0, .int .i64 0, .int .i64 0, .int .i64 0]) (t := 27) ?hr ?_; (case hd => rfl); (case hg => rfl); (case hr => first | (go_simp; done) | (go_simp; rfl)); intro gb521 hg w59 hbox hb; have n0_ := Ae_q (bB_q (g := gb513) (o := .cells #[.int .i64 a2_0, .int .i64 a2_1, .int .i64 a2_2, .int .i64 a2_3, .int .i64 a2_4, .int .i64 a2_5] 27 (0, 0)) (bup BK513.out) hb); have n1_ := Ae_q (bT_q (by repeat (with_reducible first | exact HB.out | apply bA_q | apply pB_q | apply bD_q | refine bS_q ?_ GE513.out)) hb); have n2_ := Ae_q (hbox); have n3_ := Ae_q ((by rw [hg]; exact (bZ_q (by repeat (with_reducible first | exact HB.out | apply bA_q | apply pB_q | apply bD_q | refine bS_q ?_ GE513.out))) : w.heap.size ≤ gb521)); have n4_ := Ae_q ((by rw [hg]; exact (bZ_q (by repeat (with_reducible first | exact HB.out | apply bA_q | apply pB_q | apply bD_q | refine bS_q ?_ GE513.out))) : w.heap.size ≤ gb521)); have n5_ := Ae_q ((by rw [hg]; exact nL_q (blk_lt (g := gb513) (o := .cells #[.int .i64 a2_0, .int .i64 a2_1, .int .i64 a2_2, .int .i64 a2_3, .int .i64 a2_4, .int .i64 a2_5] 27 (0, 0)) (bup BK513.out)) : gb513 ≠ gb521)); have n6_ := Ae_q ((by rw [hg]; exact nG_q (blk_lt (g := gb513) (o := .cells #[.int .i64 a2_0, .int .i64 a2_1, .int .i64 a2_2, .int .i64 a2_3, .int .i64 a2_4, .int .i64 a2_5] 27 (0, 0)) (bup BK513.out)) : gb521 ≠ gb513)); clear BK513; clear HB; have BK513 := n0_; have HB := n1_; have BK521 := n2_; have GW521 := n3_; have GE521 := n4_; have NB513_521 := n5_; have NB521_513 := n6_; clear n0_ n1_ n2_ n3_ n4_ n5_ n6_; clear hb hbox hg; have hnb60 := NB521_513.out; have hnc60 := NB513_521.out; have hcz61_0 : cI w59 gb521 0 0 := cZ BK521 0 rfl; have hcz61_1 : cI w59 gb521 1 0 := cZ BK521 1 rfl; have hcz61_2 : cI w59 gb521 2 0 := cZ BK521 2 rfl; have hcz61_3 : cI w59 gb521 3 0 := cZ BK521 3 rfl; have hcz61_4 : cI w59 gb521 4 0 := cZ BK521 4 rfl; have hcz61_5 : cI w59 gb521 5 0 := cZ BK521 5 rfl; have hfz61_0 := bF_q BK521.out 0; have hfz61_1 := bF_q BK521.out 1; have hfz61_2 := bF_q BK521.out 2; have hfz61_3 := bF_q BK521.out 3; have hfz61_4 := bF_q BK521.out 4; have hfz61_5 := bF_q BK521.out 5; have hcz62_0 : cI w59 gb513 0 a2_0 := cZ BK513 0 rfl; have hcz62_1 : cI w59 gb513 1 a2_1 := cZ BK513 1 rfl; have hcz62_2 : cI w59 gb513 2 a2_2 := cZ BK513 2 rfl; have hcz62_3 : cI w59 gb513 3 a2_3 := cZ BK513 3 rfl; have hcz62_4 : cI w59 gb513 4 a2_4 := cZ BK513 4 rfl; have hcz62_5 : cI w59 gb513 5 a2_5 := cZ BK513 5 rfl; have hfz62_0 := bF_q BK513.out 0; have hfz62_1 := bF_q BK513.out 1; have hfz62_2 := bF_q BK513.out 2; have hfz62_3 := bF_q BK513.out 3; have hfz62_4 := bF_q BK513.out 4; have hfz62_5 := bF_q BK513.out 5) | ((with_reducible refine gC_q (f := 69) rfl ?_); refine gL_q (some 28) rfl rfl Try.func69 (by kernel_rfl) rfl #[.slice A0 l0.length c0, .func (.func 70) #[] #[.pointer (some ⟨gb513, 0, none⟩)]] rfl (by (try simp only [lM_q, lC_q, lN_q]); first | done | rfl | (simp only [lD_q, lT_q]; rfl)) ?_; (with_reducible refine (impl_Guest.calls _ _ l0 a2_3 t522 _ gb513 ?side0 ?side1 ?side2 A21.out).mono ?_); (case side0 => exact Eq.trans (bC_q (t := 27) (cs := #[.int .i64 a2_0, .int .i64 a2_1, .int .i64 a2_2, .int .i64 a2_3, .int .i64 a2_4, .int .i64 a2_5]) (by (with_reducible repeat (first | refine bN_q ?_ _ | refine bW_q ?_ | refine bL_q ?_ _)); refine blk_far ?_ NB513_521.out _; (with_reducible repeat (first | refine bN_q ?_ _ | refine bW_q ?_ | refine bL_q ?_ _)); refine blk_far ?_ NB513_521.out _; (with_reducible repeat (first | refine bN_q ?_ _ | refine bW_q ?_ | refine bL_q ?_ _)); refine blk_far ?_ NB513_521.out _; (with_reducible repeat (first | refine bN_q ?_ _ | refine bW_q ?_ | refine bL_q ?_ _)); refine blk_far ?_ NB513_521.out _; (with_reducible repeat (first | refine bN_q ?_ _ | refine bW_q ?_ | refine bL_q ?_ _)); refine blk_far ?_ NB513_521.out _; (with_reducible repeat (first | refine bN_q ?_ _ | refine bW_q ?_ | refine bL_q ?_ _)); refine blk_far ?_ NB513_521.out _; (with_reducible repeat (first | refine bN_q ?_ _ | refine bW_q ?_ | refine bL_q ?_ _)); exact BK513.out) 3) rfl); (case side1 => exact cB_q HR0.out (by repeat (with_reducible first | exact HB.out | apply bA_q | apply pB_q | apply bD_q | refine bS_q ?_ GE513.out | refine bS_q ?_ GE521.out))); (case side2 => exact HC0.out); rintro e w63 ⟨rfl, hb⟩; refine ⟨_, rfl, ?_⟩; have n0_ := Ae_q (bB_q (g := gb513) (o := .cells #[.int .i64 a2_0, .int .i64 a2_1, .int .i64 a2_2, .int .i64 a2_3, .int .i64 a2_4, .int .i64 a2_5] 27 (0, 0)) (by (with_reducible repeat (first | refine bN_q ?_ _ | refine bW_q ?_ | refine bL_q ?_ _)); refine blk_far ?_ NB513_521.out _; (with_reducible repeat (first | refine bN_q ?_ _ | refine bW_q ?_ | refine bL_q ?_ _)); refine blk_far ?_ NB513_521.out _; (with_reducible repeat (first | refine bN_q ?_ _ | refine bW_q ?_ | refine bL_q ?_ _)); refine blk_far ?_ NB513_521.out _; (with_reducible repeat (first | refine bN_q ?_ _ | refine bW_q ?_ | refine bL_q ?_ _)); refine blk_far ?_ NB513_521.out _; (with_reducible repeat (first | refine bN_q ?_ _ | refine bW_q ?_ | refine bL_q ?_ _)); refine blk_far ?_ NB513_521.out _; (with_reducible repeat (first | refine bN_q ?_ _ | refine bW_q ?_ | refine bL_q ?_ _)); refine blk_far ?_ NB513_521.out _; (with_reducible repeat (first | refine bN_q ?_ _ | refine bW_q ?_ | refine bL_q ?_ _)); exact BK513.out) hb); have n1_ := Ae_q (bB_q (g := gb521) (o := .cells #[.int .i64 t514, .int .i64 t515, .int .i64 t516, .int .i64 t517, .int .i64 t518, .int .i64 t519] 27 (0, 0)) (by (with_reducible repeat (first | refine bN_q ?_ _ | refine bW_q ?_ | refine bL_q ?_ _)); refine blk_put (cs := #[.int .i64 t514, .int .i64 t515, .int .i64 t516, .int .i64 t517, .int .i64 t518, .int .i64 0]) ?_ 5 _ rfl; (with_reducible repeat (first | refine bN_q ?_ _ | refine bW_q ?_ | refine bL_q ?_ _)); refine blk_put (cs := #[.int .i64 t514, .int .i64 t515, .int .i64 t516, .int .i64 t517, .int .i64 0, .int .i64 0]) ?_ 4 _ rfl; (with_reducible repeat (first | refine bN_q ?_ _ | refine bW_q ?_ | refine bL_q ?_ _)); refine blk_put (cs := #[.int .i64 t514, .int .i64 t515, .int .i64 t516, .int .i64 0, .int .i64 0, .int .i64 0]) ?_ 3 _ rfl; (with_reducible repeat (first | refine bN_q ?_ _ | refine bW_q ?_ | refine bL_q ?_ _)); refine blk_put (cs := #[.int .i64 t514, .int .i64 t515, .int .i64 0, .int .i64 0, .int .i64 0, .int .i64 0]) ?_ 2 _ rfl; (with_reducible repeat (first | refine bN_q ?_ _ | refine bW_q ?_ | refine bL_q ?_ _)); refine blk_put (cs := #[.int .i64 t514, .int .i64 0, .int .i64 0, .int .i64 0, .int .i64 0, .int .i64 0]) ?_ 1 _ rfl; (with_reducible repeat (first | refine bN_q ?_ _ | refine bW_q ?_ | refine bL_q ?_ _)); refine blk_put (cs := #[.int .i64 0, .int .i64 0, .int .i64 0, .int .i64 0, .int .i64 0, .int .i64 0]) ?_ 0 _ rfl; (with_reducible repeat (first | refine bN_q ?_ _ | refine bW_q ?_ | refine bL_q ?_ _)); exact BK521.out) hb); have n2_ := Ae_q (bT_q (by repeat (with_reducible first | exact HB.out | apply bA_q | apply pB_q | apply bD_q | refine bS_q ?_ GE513.out | refine bS_q ?_ GE521.out)) hb); clear BK513; clear BK521; clear HB; have BK513 := n0_; have BK521 := n1_; have HB := n2_; clear n0_ n1_ n2_; (try clear hb); (try clear hb2); (try clear hk); (try clear hi)))
  have n0_ := Ae_q (bW_q BK513.out)
  have n1_ := Ae_q (bW_q BK521.out)
  have n2_ := Ae_q (bD_q HB.out)
  clear BK513
  clear BK521
  clear HB
  have BK513 := n0_
  have BK521 := n1_
  have HB := n2_
  clear n0_ n1_ n2_
  refine start_ (n := 27) (S := fun w' => True) (ds := []) #[false, false, false, false, false, false, false, false, false, false, false, false, false, false, false, false, false, false, false, false, false, false, false, false, false, false, false] (by kernel_rfl) rfl rfl trivial (fun hHeld => ?_); refine with_tabW impl_isWrong.tab8 impl_isWrong.bits8 (fun HT_ HW_ => ?_)
  generalize w63.drew = w64 at BK513 BK521 HB hHeld ⊢
  refine pI (v := ?_) (a' := ?_) HT_ 0 29 rfl rfl (by kernel_rfl) (fun _ _ _ h => h) (by rfl) ?_ ?_ ?_
  rotate_left
  ·intro w'
   go_simp
   with_reducible rfl
  rotate_left
  ·simp only [pS_q]
   rfl
  refine pI (v := ?_) (a' := ?_) HT_ 1 30 rfl rfl (by kernel_rfl) (fun _ _ _ h => h) (by rfl) ?_ ?_ ?_
  rotate_left
  ·intro w'
   go_simp
   with_reducible rfl
  rotate_left
  ·simp only [pS_q]
   rfl
  refine pI (v := ?_) (a' := ?_) HT_ 2 31 rfl rfl (by kernel_rfl) (fun _ _ _ h => h) (by rfl) ?_ ?_ ?_
  rotate_left
  ·intro w'
   go_simp
   with_reducible rfl
  rotate_left
  ·simp only [pS_q]
   rfl
  refine pU (a' := ?_) HT_ 3 32 rfl rfl (by kernel_rfl) (fun _ _ _ h => h) (by rfl) ?_ ?_
  rotate_left
  ·simp only [pS_q]
   rfl
  refine pU (a' := ?_) HT_ 4 33 rfl rfl (by kernel_rfl) (fun _ _ _ h => h) (by rfl) ?_ ?_
  rotate_left
  ·simp only [pS_q]
   rfl
  refine pU (a' := ?_) HT_ 5 34 rfl rfl (by kernel_rfl) (fun _ _ _ h => h) (by rfl) ?_ ?_
  rotate_left
  ·simp only [pS_q]
   rfl
  refine pU (a' := ?_) HT_ 6 35 rfl rfl (by kernel_rfl) (fun _ _ _ h => h) (by rfl) ?_ ?_
  rotate_left
  ·simp only [pS_q]
   rfl
  refine pU (a' := ?_) HT_ 7 36 rfl rfl (by kernel_rfl) (fun _ _ _ h => h) (by rfl) ?_ ?_
  rotate_left
  ·simp only [pS_q]
   rfl
  refine pU (a' := ?_) HT_ 8 37 rfl rfl (by kernel_rfl) (fun _ _ _ h => h) (by rfl) ?_ ?_
  rotate_left
  ·simp only [pS_q]
   rfl
  refine pI (v := ?_) (a' := ?_) HT_ 9 38 rfl rfl (by kernel_rfl) (fun _ _ _ h => h) (by rfl) ?_ ?_ ?_
  rotate_left
  ·intro w'
   go_simp
   with_reducible rfl
  rotate_left
  ·simp only [pS_q]
   rfl
  refine pI (v := ?_) (a' := ?_) HT_ 10 39 rfl rfl (by kernel_rfl) (fun _ _ _ h => h) (by rfl) ?_ ?_ ?_
  rotate_left
  ·intro w'
   go_simp
   with_reducible rfl
  rotate_left
  ·simp only [pS_q]
   rfl
  refine pU (a' := ?_) HT_ 11 40 rfl rfl (by kernel_rfl) (fun _ _ _ h => h) (by rfl) ?_ ?_
  rotate_left
  ·simp only [pS_q]
   rfl
  refine pU (a' := ?_) HT_ 12 41 rfl rfl (by kernel_rfl) (fun _ _ _ h => h) (by rfl) ?_ ?_
  rotate_left
  ·simp only [pS_q]
   rfl
  refine pI (v := ?_) (a' := ?_) HT_ 13 42 rfl rfl (by kernel_rfl) (fun _ _ _ h => h) (by rfl) ?_ ?_ ?_
  rotate_left
  ·intro w'
   go_simp
   with_reducible rfl
  rotate_left
  ·simp only [pS_q]
   rfl
  refine pI (v := ?_) (a' := ?_) HT_ 14 43 rfl rfl (by kernel_rfl) (fun _ _ _ h => h) (by rfl) ?_ ?_ ?_
  rotate_left
  ·intro w'
   go_simp
   with_reducible rfl
  rotate_left
  ·simp only [pS_q]
   rfl
  refine pU (a' := ?_) HT_ 15 44 rfl rfl (by kernel_rfl) (fun _ _ _ h => h) (by rfl) ?_ ?_
  rotate_left
  ·simp only [pS_q]
   rfl
  refine pU (a' := ?_) HT_ 16 45 rfl rfl (by kernel_rfl) (fun _ _ _ h => h) (by rfl) ?_ ?_
  rotate_left
  ·simp only [pS_q]
   rfl
  refine pU (a' := ?_) HT_ 17 46 rfl rfl (by kernel_rfl) (fun _ _ _ h => h) (by rfl) ?_ ?_
  rotate_left
  ·simp only [pS_q]
   rfl
  refine pU (a' := ?_) HT_ 18 47 rfl rfl (by kernel_rfl) (fun _ _ _ h => h) (by rfl) ?_ ?_
  rotate_left
  ·simp only [pS_q]
   rfl
  refine pU (a' := ?_) HT_ 19 48 rfl rfl (by kernel_rfl) (fun _ _ _ h => h) (by rfl) ?_ ?_
  rotate_left
  ·simp only [pS_q]
   rfl
  refine pU (a' := ?_) HT_ 20 49 rfl rfl (by kernel_rfl) (fun _ _ _ h => h) (by rfl) ?_ ?_
  rotate_left
  ·simp only [pS_q]
   rfl
  refine pU (a' := ?_) HT_ 21 50 rfl rfl (by kernel_rfl) (fun _ _ _ h => h) (by rfl) ?_ ?_
  rotate_left
  ·simp only [pS_q]
   rfl
  refine pU (a' := ?_) HT_ 22 51 rfl rfl (by kernel_rfl) (fun _ _ _ h => h) (by rfl) ?_ ?_
  rotate_left
  ·simp only [pS_q]
   rfl
  refine pU (a' := ?_) HT_ 23 52 rfl rfl (by kernel_rfl) (fun _ _ _ h => h) (by rfl) ?_ ?_
  rotate_left
  ·simp only [pS_q]
   rfl
  refine pU (a' := ?_) HT_ 24 53 rfl rfl (by kernel_rfl) (fun _ _ _ h => h) (by rfl) ?_ ?_
  rotate_left
  ·simp only [pS_q]
   rfl
  refine pI (v := ?_) (a' := ?_) HT_ 25 54 rfl rfl (by kernel_rfl) (fun _ _ _ h => h) (by rfl) ?_ ?_ ?_
  rotate_left
  ·intro w'
   go_simp
   with_reducible rfl
  rotate_left
  ·simp only [pS_q]
   rfl
  refine pI (v := ?_) (a' := ?_) HT_ 26 6 rfl rfl (by kernel_rfl) (fun _ _ _ h => h) (by rfl) ?_ ?_ ?_
  rotate_left
  ·intro w'
   go_simp
   with_reducible rfl
  rotate_left
  ·simp only [pS_q]
   rfl
  refine done_ (done_of HT_.out (by kernel_rfl)) ?_
  try go_wp2
  go_ret
  exact ⟨by first | rfl | (simp [eN_q, eS_q] <;> rfl) | (simp [*, eN_q, eS_q] <;> rfl), by repeat (with_reducible first | exact HB.out | apply bA_q | apply pB_q | apply bD_q | refine bS_q ?_ GE513.out | refine bS_q ?_ GE521.out)⟩
 subst c22
 have H1 : (if (wrap64 (a2_1 - t515)) > 120 then (some true) else (if t522 < 0 then (some true) else (if 0 ≤ t522 then (if t522 < (l0.length : Int) then ((impl_GuestMay.f ((rd_T50 l0 t522).f0) ((rd_T50 l0 t522).f1) ((rd_T50 l0 t522).f2) t518 t519).bind fun t524 => (some (!t524))) else (none)) else (none)))) = some r := by rw [if_pos rfl] at H; exact H
 clear H
 have H := H1
 clear H1
 by_cases c23 : (wrap64 (a2_1 - t515)) > 120
 ·rw [if_pos c23] at H
  have c23b0 : decide (120 < (wrap64 (a2_1 - t515))) = true := dT_q c23
  clear c23
  obtain rfl := oI_q H
  go_enter Try.func55, Try.ntmps55
  try go_wp2_with (first | ((with_reducible refine gD_q (N := 5) rfl ?_); refine bE_q ?hg (N := 5) ?hd (cs := #[.int .i64 a2_0, .int .i64 a2_1, .int .i64 a2_2, .int .i64 a2_3, .int .i64 a2_4, .int .i64 a2_5]) (t := 27) ?hr ?_; (case hd => rfl); (case hg => rfl); (case hr => first | (go_simp; done) | (go_simp; rfl)); intro gb513 hg w24 hbox hb; have n0_ := Ae_q (bT_q (bel HB.out) hb); have n1_ := Ae_q (hbox); have n2_ := Ae_q ((by rw [hg]; exact (bZ_q (bel HB.out)) : w.heap.size ≤ gb513)); have n3_ := Ae_q ((by rw [hg]; exact (bZ_q (bel HB.out)) : w.heap.size ≤ gb513)); clear HB; have HB := n0_; have BK513 := n1_; have GW513 := n2_; have GE513 := n3_; clear n0_ n1_ n2_ n3_; clear hb hbox hg; have hcz25_0 : cI w24 gb513 0 a2_0 := cZ BK513 0 rfl; have hcz25_1 : cI w24 gb513 1 a2_1 := cZ BK513 1 rfl; have hcz25_2 : cI w24 gb513 2 a2_2 := cZ BK513 2 rfl; have hcz25_3 : cI w24 gb513 3 a2_3 := cZ BK513 3 rfl; have hcz25_4 : cI w24 gb513 4 a2_4 := cZ BK513 4 rfl; have hcz25_5 : cI w24 gb513 5 a2_5 := cZ BK513 5 rfl; have hfz25_0 := bF_q BK513.out 0; have hfz25_1 := bF_q BK513.out 1; have hfz25_2 := bF_q BK513.out 2; have hfz25_3 := bF_q BK513.out 3; have hfz25_4 := bF_q BK513.out 4; have hfz25_5 := bF_q BK513.out 5) | ((with_reducible refine gC_q (f := 51) rfl ?_); refine gL_q (some 14) rfl rfl Try.func51 (by kernel_rfl) rfl #[.slice A1 l1.length c1, .int .i64 a2_2] rfl (by (try simp only [lM_q, lC_q, lN_q]); first | done | rfl | (simp only [lD_q, lT_q]; rfl)) ?_; (with_reducible refine (impl_made.calls _ _ l1 a2_2 t514 t515 t516 t517 t518 t519 true _ ?side1 ?side2 A4.out).mono ?_); (case side1 => exact cup (cB_q HR1.out HB.out)); (case side2 => exact HC1.out); rintro e w26 ⟨rfl, hb⟩; refine ⟨_, rfl, ?_⟩; have n0_ := Ae_q (bB_q (g := gb513) (o := .cells #[.int .i64 a2_0, .int .i64 a2_1, .int .i64 a2_2, .int .i64 a2_3, .int .i64 a2_4, .int .i64 a2_5] 27 (0, 0)) (bup BK513.out) hb); have n1_ := Ae_q (bT_q (by repeat (with_reducible first | exact HB.out | apply bA_q | apply pB_q | apply bD_q | refine bS_q ?_ GE513.out)) hb); clear BK513; clear HB; have BK513 := n0_; have HB := n1_; clear n0_ n1_; (try clear hb); (try clear hb2); (try clear hk); (try clear hi)) | ((with_reducible refine gD_q (N := 7) rfl ?_); refine bE_q ?hg (N := 7) ?hd (cs := #[.int .i64 0, .int .i64 0, .int .i64 0, .int .i64 0, .int .i64 0, .int .i64 0]) (t := 27) ?hr ?_; (case hd => rfl); (case hg => rfl); (case hr => first | (go_simp; done) | (go_simp; rfl)); intro gb521 hg w27 hbox hb; have n0_ := Ae_q (bB_q (g := gb513) (o := .cells #[.int .i64 a2_0, .int .i64 a2_1, .int .i64 a2_2, .int .i64 a2_3, .int .i64 a2_4, .int .i64 a2_5] 27 (0, 0)) (bup BK513.out) hb); have n1_ := Ae_q (bT_q (by repeat (with_reducible first | exact HB.out | apply bA_q | apply pB_q | apply bD_q | refine bS_q ?_ GE513.out)) hb); have n2_ := Ae_q (hbox); have n3_ := Ae_q ((by rw [hg]; exact (bZ_q (by repeat (with_reducible first | exact HB.out | apply bA_q | apply pB_q | apply bD_q | refine bS_q ?_ GE513.out))) : w.heap.size ≤ gb521)); have n4_ := Ae_q ((by rw [hg]; exact (bZ_q (by repeat (with_reducible first | exact HB.out | apply bA_q | apply pB_q | apply bD_q | refine bS_q ?_ GE513.out))) : w.heap.size ≤ gb521)); have n5_ := Ae_q ((by rw [hg]; exact nL_q (blk_lt (g := gb513) (o := .cells #[.int .i64 a2_0, .int .i64 a2_1, .int .i64 a2_2, .int .i64 a2_3, .int .i64 a2_4, .int .i64 a2_5] 27 (0, 0)) (bup BK513.out)) : gb513 ≠ gb521)); have n6_ := Ae_q ((by rw [hg]; exact nG_q (blk_lt (g := gb513) (o := .cells #[.int .i64 a2_0, .int .i64 a2_1, .int .i64 a2_2, .int .i64 a2_3, .int .i64 a2_4, .int .i64 a2_5] 27 (0, 0)) (bup BK513.out)) : gb521 ≠ gb513)); clear BK513; clear HB; have BK513 := n0_; have HB := n1_; have BK521 := n2_; have GW521 := n3_; have GE521 := n4_; have NB513_521 := n5_; have NB521_513 := n6_; clear n0_ n1_ n2_ n3_ n4_ n5_ n6_; clear hb hbox hg; have hnb28 := NB521_513.out; have hnc28 := NB513_521.out; have hcz29_0 : cI w27 gb521 0 0 := cZ BK521 0 rfl; have hcz29_1 : cI w27 gb521 1 0 := cZ BK521 1 rfl; have hcz29_2 : cI w27 gb521 2 0 := cZ BK521 2 rfl; have hcz29_3 : cI w27 gb521 3 0 := cZ BK521 3 rfl; have hcz29_4 : cI w27 gb521 4 0 := cZ BK521 4 rfl; have hcz29_5 : cI w27 gb521 5 0 := cZ BK521 5 rfl; have hfz29_0 := bF_q BK521.out 0; have hfz29_1 := bF_q BK521.out 1; have hfz29_2 := bF_q BK521.out 2; have hfz29_3 := bF_q BK521.out 3; have hfz29_4 := bF_q BK521.out 4; have hfz29_5 := bF_q BK521.out 5; have hcz30_0 : cI w27 gb513 0 a2_0 := cZ BK513 0 rfl; have hcz30_1 : cI w27 gb513 1 a2_1 := cZ BK513 1 rfl; have hcz30_2 : cI w27 gb513 2 a2_2 := cZ BK513 2 rfl; have hcz30_3 : cI w27 gb513 3 a2_3 := cZ BK513 3 rfl; have hcz30_4 : cI w27 gb513 4 a2_4 := cZ BK513 4 rfl; have hcz30_5 : cI w27 gb513 5 a2_5 := cZ BK513 5 rfl; have hfz30_0 := bF_q BK513.out 0; have hfz30_1 := bF_q BK513.out 1; have hfz30_2 := bF_q BK513.out 2; have hfz30_3 := bF_q BK513.out 3; have hfz30_4 := bF_q BK513.out 4; have hfz30_5 := bF_q BK513.out 5) | ((with_reducible refine gC_q (f := 69) rfl ?_); refine gL_q (some 28) rfl rfl Try.func69 (by kernel_rfl) rfl #[.slice A0 l0.length c0, .func (.func 70) #[] #[.pointer (some ⟨gb513, 0, none⟩)]] rfl (by (try simp only [lM_q, lC_q, lN_q]); first | done | rfl | (simp only [lD_q, lT_q]; rfl)) ?_; (with_reducible refine (impl_Guest.calls _ _ l0 a2_3 t522 _ gb513 ?side0 ?side1 ?side2 A21.out).mono ?_); (case side0 => exact Eq.trans (bC_q (t := 27) (cs := #[.int .i64 a2_0, .int .i64 a2_1, .int .i64 a2_2, .int .i64 a2_3, .int .i64 a2_4, .int .i64 a2_5]) (by (with_reducible repeat (first | refine bN_q ?_ _ | refine bW_q ?_ | refine bL_q ?_ _)); refine blk_far ?_ NB513_521.out _; (with_reducible repeat (first | refine bN_q ?_ _ | refine bW_q ?_ | refine bL_q ?_ _)); refine blk_far ?_ NB513_521.out _; (with_reducible repeat (first | refine bN_q ?_ _ | refine bW_q ?_ | refine bL_q ?_ _)); refine blk_far ?_ NB513_521.out _; (with_reducible repeat (first | refine bN_q ?_ _ | refine bW_q ?_ | refine bL_q ?_ _)); refine blk_far ?_ NB513_521.out _; (with_reducible repeat (first | refine bN_q ?_ _ | refine bW_q ?_ | refine bL_q ?_ _)); refine blk_far ?_ NB513_521.out _; (with_reducible repeat (first | refine bN_q ?_ _ | refine bW_q ?_ | refine bL_q ?_ _)); refine blk_far ?_ NB513_521.out _; (with_reducible repeat (first | refine bN_q ?_ _ | refine bW_q ?_ | refine bL_q ?_ _)); exact BK513.out) 3) rfl); (case side1 => exact cB_q HR0.out (by repeat (with_reducible first | exact HB.out | apply bA_q | apply pB_q | apply bD_q | refine bS_q ?_ GE513.out | refine bS_q ?_ GE521.out))); (case side2 => exact HC0.out); rintro e w31 ⟨rfl, hb⟩; refine ⟨_, rfl, ?_⟩; have n0_ := Ae_q (bB_q (g := gb513) (o := .cells #[.int .i64 a2_0, .int .i64 a2_1, .int .i64 a2_2, .int .i64 a2_3, .int .i64 a2_4, .int .i64 a2_5] 27 (0, 0)) (by (with_reducible repeat (first | refine bN_q ?_ _ | refine bW_q ?_ | refine bL_q ?_ _)); refine blk_far ?_ NB513_521.out _; (with_reducible repeat (first | refine bN_q ?_ _ | refine bW_q ?_ | refine bL_q ?_ _)); refine blk_far ?_ NB513_521.out _; (with_reducible repeat (first | refine bN_q ?_ _ | refine bW_q ?_ | refine bL_q ?_ _)); refine blk_far ?_ NB513_521.out _; (with_reducible repeat (first | refine bN_q ?_ _ | refine bW_q ?_ | refine bL_q ?_ _)); refine blk_far ?_ NB513_521.out _; (with_reducible repeat (first | refine bN_q ?_ _ | refine bW_q ?_ | refine bL_q ?_ _)); refine blk_far ?_ NB513_521.out _; (with_reducible repeat (first | refine bN_q ?_ _ | refine bW_q ?_ | refine bL_q ?_ _)); refine blk_far ?_ NB513_521.out _; (with_reducible repeat (first | refine bN_q ?_ _ | refine bW_q ?_ | refine bL_q ?_ _)); exact BK513.out) hb); have n1_ := Ae_q (bB_q (g := gb521) (o := .cells #[.int .i64 t514, .int .i64 t515, .int .i64 t516, .int .i64 t517, .int .i64 t518, .int .i64 t519] 27 (0, 0)) (by (with_reducible repeat (first | refine bN_q ?_ _ | refine bW_q ?_ | refine bL_q ?_ _)); refine blk_put (cs := #[.int .i64 t514, .int .i64 t515, .int .i64 t516, .int .i64 t517, .int .i64 t518, .int .i64 0]) ?_ 5 _ rfl; (with_reducible repeat (first | refine bN_q ?_ _ | refine bW_q ?_ | refine bL_q ?_ _)); refine blk_put (cs := #[.int .i64 t514, .int .i64 t515, .int .i64 t516, .int .i64 t517, .int .i64 0, .int .i64 0]) ?_ 4 _ rfl; (with_reducible repeat (first | refine bN_q ?_ _ | refine bW_q ?_ | refine bL_q ?_ _)); refine blk_put (cs := #[.int .i64 t514, .int .i64 t515, .int .i64 t516, .int .i64 0, .int .i64 0, .int .i64 0]) ?_ 3 _ rfl; (with_reducible repeat (first | refine bN_q ?_ _ | refine bW_q ?_ | refine bL_q ?_ _)); refine blk_put (cs := #[.int .i64 t514, .int .i64 t515, .int .i64 0, .int .i64 0, .int .i64 0, .int .i64 0]) ?_ 2 _ rfl; (with_reducible repeat (first | refine bN_q ?_ _ | refine bW_q ?_ | refine bL_q ?_ _)); refine blk_put (cs := #[.int .i64 t514, .int .i64 0, .int .i64 0, .int .i64 0, .int .i64 0, .int .i64 0]) ?_ 1 _ rfl; (with_reducible repeat (first | refine bN_q ?_ _ | refine bW_q ?_ | refine bL_q ?_ _)); refine blk_put (cs := #[.int .i64 0, .int .i64 0, .int .i64 0, .int .i64 0, .int .i64 0, .int .i64 0]) ?_ 0 _ rfl; (with_reducible repeat (first | refine bN_q ?_ _ | refine bW_q ?_ | refine bL_q ?_ _)); exact BK521.out) hb); have n2_ := Ae_q (bT_q (by repeat (with_reducible first | exact HB.out | apply bA_q | apply pB_q | apply bD_q | refine bS_q ?_ GE513.out | refine bS_q ?_ GE521.out)) hb); clear BK513; clear BK521; clear HB; have BK513 := n0_; have BK521 := n1_; have HB := n2_; clear n0_ n1_ n2_; (try clear hb); (try clear hb2); (try clear hk); (try clear hi)))
  have n0_ := Ae_q (bW_q BK513.out)
  have n1_ := Ae_q (bW_q BK521.out)
  have n2_ := Ae_q (bD_q HB.out)
  clear BK513
  clear BK521
  clear HB
  have BK513 := n0_
  have BK521 := n1_
  have HB := n2_
  clear n0_ n1_ n2_
  refine start_ (n := 27) (S := fun w' => w'.cell? ⟨gb513, 0, none⟩ = some (.int .i64 a2_0) ∧ w'.cell? ⟨gb513, 1, none⟩ = some (.int .i64 a2_1) ∧ w'.cell? ⟨gb513, 2, none⟩ = some (.int .i64 a2_2) ∧ w'.cell? ⟨gb513, 3, none⟩ = some (.int .i64 a2_3) ∧ w'.cell? ⟨gb513, 4, none⟩ = some (.int .i64 a2_4) ∧ w'.cell? ⟨gb513, 5, none⟩ = some (.int .i64 a2_5) ∧ w'.cell? ⟨gb521, 0, none⟩ = some (.int .i64 t514) ∧ w'.cell? ⟨gb521, 1, none⟩ = some (.int .i64 t515) ∧ w'.cell? ⟨gb521, 2, none⟩ = some (.int .i64 t516) ∧ w'.cell? ⟨gb521, 3, none⟩ = some (.int .i64 t517) ∧ w'.cell? ⟨gb521, 4, none⟩ = some (.int .i64 t518) ∧ w'.cell? ⟨gb521, 5, none⟩ = some (.int .i64 t519)) (ds := []) #[false, false, false, false, false, false, false, false, false, false, false, false, false, false, false, false, false, false, false, false, false, false, false, false, false, false, false] (by kernel_rfl) rfl rfl ⟨(bC_q BK513.out 0).trans rfl, (bC_q BK513.out 1).trans rfl, (bC_q BK513.out 2).trans rfl, (bC_q BK513.out 3).trans rfl, (bC_q BK513.out 4).trans rfl, (bC_q BK513.out 5).trans rfl, (bC_q BK521.out 0).trans rfl, (bC_q BK521.out 1).trans rfl, (bC_q BK521.out 2).trans rfl, (bC_q BK521.out 3).trans rfl, (bC_q BK521.out 4).trans rfl, (bC_q BK521.out 5).trans rfl⟩ (fun hHeld => ?_); refine with_tabW impl_isWrong.tab8 impl_isWrong.bits8 (fun HT_ HW_ => ?_)
  generalize w31.drew = w32 at BK513 BK521 HB hHeld ⊢
  refine pI (v := ?_) (a' := ?_) HT_ 0 29 rfl rfl (by kernel_rfl) (fun _ _ _ h => h) (by rfl) ?_ ?_ ?_
  rotate_left
  ·intro w'
   go_simp
   with_reducible rfl
  rotate_left
  ·simp only [pS_q]
   rfl
  refine pI (v := ?_) (a' := ?_) HT_ 1 30 rfl rfl (by kernel_rfl) (fun _ _ _ h => h) (by rfl) ?_ ?_ ?_
  rotate_left
  ·intro w'
   go_simp
   with_reducible rfl
  rotate_left
  ·simp only [pS_q]
   rfl
  refine pI (v := ?_) (a' := ?_) HT_ 2 31 rfl rfl (by kernel_rfl) (fun _ _ _ h => h) (by rfl) ?_ ?_ ?_
  rotate_left
  ·intro w'
   go_simp
   with_reducible rfl
  rotate_left
  ·simp only [pS_q]
   rfl
  refine pI (v := ?_) (a' := ?_) HT_ 3 32 rfl rfl (by kernel_rfl) (fun _ _ _ h => h) (by rfl) ?_ ?_ ?_
  rotate_left
  ·intro w'
   go_simp
   with_reducible rfl
  rotate_left
  ·simp only [pS_q]
   rfl
  refine pI (v := ?_) (a' := ?_) HT_ 5 34 rfl rfl (by kernel_rfl) (fun _ _ _ h => h) (by rfl) ?_ ?_ ?_
  rotate_left
  ·intro w'
   go_simp
   with_reducible rfl
  rotate_left
  ·simp only [pS_q]
   rfl
  refine take_ (i := 4) (N := some 33) (v := ?_) (a' := ?_) #[true, true, true, true, true, true, false, false, false, false, false, false, false, false, false, false, false, false, false, false, false, false, false, false, false, false, false] rfl rfl (take_ofW HT_.out HW_.out (by kernel_rfl)) (fun _ _ _ h => h) (Or.inl ⟨by rfl, ?_⟩) hHeld ?_ ?_
  rotate_left
  ·rintro w' ⟨s0, s1, s2, s3, s4, s5, s6, s7, s8, s9, s10, s11⟩
   go_simp
   with_reducible rfl
  rotate_left
  ·simp only [pS_q]
   rfl
  refine take_ (i := 6) (N := some 35) (v := ?_) (a' := ?_) #[true, true, true, true, true, true, true, false, false, false, false, false, false, false, false, false, false, false, false, false, false, false, false, false, false, false, false] rfl rfl (take_ofW HT_.out HW_.out (by kernel_rfl)) (fun _ _ _ h => h) (Or.inl ⟨by rfl, ?_⟩) hHeld ?_ ?_
  rotate_left
  ·rintro w' ⟨s0, s1, s2, s3, s4, s5, s6, s7, s8, s9, s10, s11⟩
   go_simp
   with_reducible rfl
  rotate_left
  ·simp only [pS_q]
   rfl
  refine pI (v := ?_) (a' := ?_) HT_ 7 36 rfl rfl (by kernel_rfl) (fun _ _ _ h => h) (by rfl) ?_ ?_ ?_
  rotate_left
  ·intro w'
   go_simp
   with_reducible rfl
  rotate_left
  ·simp only [pS_q]
   rfl
  refine pI (v := ?_) (a' := ?_) HT_ 8 37 rfl rfl (by kernel_rfl) (fun _ _ _ h => h) (by rfl) ?_ ?_ ?_
  rotate_left
  ·intro w'
   go_simp
   with_reducible rfl
  rotate_left
  ·simp only [pS_q]
   rfl
  refine pI (v := ?_) (a' := ?_) HT_ 9 38 rfl rfl (by kernel_rfl) (fun _ _ _ h => h) (by rfl) ?_ ?_ ?_
  rotate_left
  ·intro w'
   go_simp
   with_reducible rfl
  rotate_left
  ·simp only [pS_q]
   rfl
  refine pI (v := ?_) (a' := ?_) HT_ 10 39 rfl rfl (by kernel_rfl) (fun _ _ _ h => h) (by rfl) ?_ ?_ ?_
  rotate_left
  ·intro w'
   go_simp
   with_reducible rfl
  rotate_left
  ·simp only [pS_q]
   rfl
  refine pU (a' := ?_) HT_ 11 40 rfl rfl (by kernel_rfl) (fun _ _ _ h => h) (by rfl) ?_ ?_
  rotate_left
  ·simp only [pS_q]
   rfl
  refine pU (a' := ?_) HT_ 12 41 rfl rfl (by kernel_rfl) (fun _ _ _ h => h) (by rfl) ?_ ?_
  rotate_left
  ·simp only [pS_q]
   rfl
  refine pI (v := ?_) (a' := ?_) HT_ 13 42 rfl rfl (by kernel_rfl) (fun _ _ _ h => h) (by rfl) ?_ ?_ ?_
  rotate_left
  ·intro w'
   go_simp
   with_reducible rfl
  rotate_left
  ·simp only [pS_q]
   rfl
  refine pI (v := ?_) (a' := ?_) HT_ 14 43 rfl rfl (by kernel_rfl) (fun _ _ _ h => h) (by rfl) ?_ ?_ ?_
  rotate_left
  ·intro w'
   go_simp
   with_reducible rfl
  rotate_left
  ·simp only [pS_q]
   rfl
  refine pU (a' := ?_) HT_ 15 44 rfl rfl (by kernel_rfl) (fun _ _ _ h => h) (by rfl) ?_ ?_
  rotate_left
  ·simp only [pS_q]
   rfl
  refine pU (a' := ?_) HT_ 16 45 rfl rfl (by kernel_rfl) (fun _ _ _ h => h) (by rfl) ?_ ?_
  rotate_left
  ·simp only [pS_q]
   rfl
  refine pU (a' := ?_) HT_ 17 46 rfl rfl (by kernel_rfl) (fun _ _ _ h => h) (by rfl) ?_ ?_
  rotate_left
  ·simp only [pS_q]
   rfl
  refine pU (a' := ?_) HT_ 18 47 rfl rfl (by kernel_rfl) (fun _ _ _ h => h) (by rfl) ?_ ?_
  rotate_left
  ·simp only [pS_q]
   rfl
  refine pU (a' := ?_) HT_ 19 48 rfl rfl (by kernel_rfl) (fun _ _ _ h => h) (by rfl) ?_ ?_
  rotate_left
  ·simp only [pS_q]
   rfl
  refine pU (a' := ?_) HT_ 20 49 rfl rfl (by kernel_rfl) (fun _ _ _ h => h) (by rfl) ?_ ?_
  rotate_left
  ·simp only [pS_q]
   rfl
  refine pU (a' := ?_) HT_ 21 50 rfl rfl (by kernel_rfl) (fun _ _ _ h => h) (by rfl) ?_ ?_
  rotate_left
  ·simp only [pS_q]
   rfl
  refine pU (a' := ?_) HT_ 22 51 rfl rfl (by kernel_rfl) (fun _ _ _ h => h) (by rfl) ?_ ?_
  rotate_left
  ·simp only [pS_q]
   rfl
  refine pU (a' := ?_) HT_ 23 52 rfl rfl (by kernel_rfl) (fun _ _ _ h => h) (by rfl) ?_ ?_
  rotate_left
  ·simp only [pS_q]
   rfl
  refine pU (a' := ?_) HT_ 24 53 rfl rfl (by kernel_rfl) (fun _ _ _ h => h) (by rfl) ?_ ?_
  rotate_left
  ·simp only [pS_q]
   rfl
  refine pI (v := ?_) (a' := ?_) HT_ 25 54 rfl rfl (by kernel_rfl) (fun _ _ _ h => h) (by rfl) ?_ ?_ ?_
  rotate_left
  ·intro w'
   go_simp
   with_reducible rfl
  rotate_left
  ·simp only [pS_q]
   rfl
  refine pI (v := ?_) (a' := ?_) HT_ 26 6 rfl rfl (by kernel_rfl) (fun _ _ _ h => h) (by rfl) ?_ ?_ ?_
  rotate_left
  ·intro w'
   go_simp
   with_reducible rfl
  rotate_left
  ·simp only [pS_q]
   rfl
  refine done_ (done_of HT_.out (by kernel_rfl)) ?_
  try go_wp2
  go_ret
  exact ⟨by first | rfl | (simp [eN_q, eS_q] <;> rfl) | (simp [*, eN_q, eS_q] <;> rfl), by repeat (with_reducible first | exact HB.out | apply bA_q | apply pB_q | apply bD_q | refine bS_q ?_ GE513.out | refine bS_q ?_ GE521.out)⟩
 rw [if_neg c23] at H
 have c23b0 : decide (120 < (wrap64 (a2_1 - t515))) = false := dF_q c23
 clear c23
 by_cases c33 : t522 < 0
 ·rw [if_pos c33] at H
  have c33b0 : decide (t522 < 0) = true := dT_q c33
  clear c33
  obtain rfl := oI_q H
  go_enter Try.func55, Try.ntmps55
  try go_wp2_with (first | ((with_reducible refine gD_q (N := 5) rfl ?_); refine bE_q ?hg (N := 5) ?hd (cs := #[.int .i64 a2_0, .int .i64 a2_1, .int .i64 a2_2, .int .i64 a2_3, .int .i64 a2_4, .int .i64 a2_5]) (t := 27) ?hr ?_; (case hd => rfl); (case hg => rfl); (case hr => first | (go_simp; done) | (go_simp; rfl)); intro gb513 hg w34 hbox hb; have n0_ := Ae_q (bT_q (bel HB.out) hb); have n1_ := Ae_q (hbox); have n2_ := Ae_q ((by rw [hg]; exact (bZ_q (bel HB.out)) : w.heap.size ≤ gb513)); have n3_ := Ae_q ((by rw [hg]; exact (bZ_q (bel HB.out)) : w.heap.size ≤ gb513)); clear HB; have HB := n0_; have BK513 := n1_; have GW513 := n2_; have GE513 := n3_; clear n0_ n1_ n2_ n3_; clear hb hbox hg; have hcz35_0 : cI w34 gb513 0 a2_0 := cZ BK513 0 rfl; have hcz35_1 : cI w34 gb513 1 a2_1 := cZ BK513 1 rfl; have hcz35_2 : cI w34 gb513 2 a2_2 := cZ BK513 2 rfl; have hcz35_3 : cI w34 gb513 3 a2_3 := cZ BK513 3 rfl; have hcz35_4 : cI w34 gb513 4 a2_4 := cZ BK513 4 rfl; have hcz35_5 : cI w34 gb513 5 a2_5 := cZ BK513 5 rfl; have hfz35_0 := bF_q BK513.out 0; have hfz35_1 := bF_q BK513.out 1; have hfz35_2 := bF_q BK513.out 2; have hfz35_3 := bF_q BK513.out 3; have hfz35_4 := bF_q BK513.out 4; have hfz35_5 := bF_q BK513.out 5) | ((with_reducible refine gC_q (f := 51) rfl ?_); refine gL_q (some 14) rfl rfl Try.func51 (by kernel_rfl) rfl #[.slice A1 l1.length c1, .int .i64 a2_2] rfl (by (try simp only [lM_q, lC_q, lN_q]); first | done | rfl | (simp only [lD_q, lT_q]; rfl)) ?_; (with_reducible refine (impl_made.calls _ _ l1 a2_2 t514 t515 t516 t517 t518 t519 true _ ?side1 ?side2 A4.out).mono ?_); (case side1 => exact cup (cB_q HR1.out HB.out)); (case side2 => exact HC1.out); rintro e w36 ⟨rfl, hb⟩; refine ⟨_, rfl, ?_⟩; have n0_ := Ae_q (bB_q (g := gb513) (o := .cells #[.int .i64 a2_0, .int .i64 a2_1, .int .i64 a2_2, .int .i64 a2_3, .int .i64 a2_4, .int .i64 a2_5] 27 (0, 0)) (bup BK513.out) hb); have n1_ := Ae_q (bT_q (by repeat (with_reducible first | exact HB.out | apply bA_q | apply pB_q | apply bD_q | refine bS_q ?_ GE513.out)) hb); clear BK513; clear HB; have BK513 := n0_; have HB := n1_; clear n0_ n1_; (try clear hb); (try clear hb2); (try clear hk); (try clear hi)) | ((with_reducible refine gD_q (N := 7) rfl ?_); refine bE_q ?hg (N := 7) ?hd (cs := #[.int .i64 0, .int .i64 0, .int .i64 0, .int .i64 0, .int .i64 0, .int .i64 0]) (t := 27) ?hr ?_; (case hd => rfl); (case hg => rfl); (case hr => first | (go_simp; done) | (go_simp; rfl)); intro gb521 hg w37 hbox hb; have n0_ := Ae_q (bB_q (g := gb513) (o := .cells #[.int .i64 a2_0, .int .i64 a2_1, .int .i64 a2_2, .int .i64 a2_3, .int .i64 a2_4, .int .i64 a2_5] 27 (0, 0)) (bup BK513.out) hb); have n1_ := Ae_q (bT_q (by repeat (with_reducible first | exact HB.out | apply bA_q | apply pB_q | apply bD_q | refine bS_q ?_ GE513.out)) hb); have n2_ := Ae_q (hbox); have n3_ := Ae_q ((by rw [hg]; exact (bZ_q (by repeat (with_reducible first | exact HB.out | apply bA_q | apply pB_q | apply bD_q | refine bS_q ?_ GE513.out))) : w.heap.size ≤ gb521)); have n4_ := Ae_q ((by rw [hg]; exact (bZ_q (by repeat (with_reducible first | exact HB.out | apply bA_q | apply pB_q | apply bD_q | refine bS_q ?_ GE513.out))) : w.heap.size ≤ gb521)); have n5_ := Ae_q ((by rw [hg]; exact nL_q (blk_lt (g := gb513) (o := .cells #[.int .i64 a2_0, .int .i64 a2_1, .int .i64 a2_2, .int .i64 a2_3, .int .i64 a2_4, .int .i64 a2_5] 27 (0, 0)) (bup BK513.out)) : gb513 ≠ gb521)); have n6_ := Ae_q ((by rw [hg]; exact nG_q (blk_lt (g := gb513) (o := .cells #[.int .i64 a2_0, .int .i64 a2_1, .int .i64 a2_2, .int .i64 a2_3, .int .i64 a2_4, .int .i64 a2_5] 27 (0, 0)) (bup BK513.out)) : gb521 ≠ gb513)); clear BK513; clear HB; have BK513 := n0_; have HB := n1_; have BK521 := n2_; have GW521 := n3_; have GE521 := n4_; have NB513_521 := n5_; have NB521_513 := n6_; clear n0_ n1_ n2_ n3_ n4_ n5_ n6_; clear hb hbox hg; have hnb38 := NB521_513.out; have hnc38 := NB513_521.out; have hcz39_0 : cI w37 gb521 0 0 := cZ BK521 0 rfl; have hcz39_1 : cI w37 gb521 1 0 := cZ BK521 1 rfl; have hcz39_2 : cI w37 gb521 2 0 := cZ BK521 2 rfl; have hcz39_3 : cI w37 gb521 3 0 := cZ BK521 3 rfl; have hcz39_4 : cI w37 gb521 4 0 := cZ BK521 4 rfl; have hcz39_5 : cI w37 gb521 5 0 := cZ BK521 5 rfl; have hfz39_0 := bF_q BK521.out 0; have hfz39_1 := bF_q BK521.out 1; have hfz39_2 := bF_q BK521.out 2; have hfz39_3 := bF_q BK521.out 3; have hfz39_4 := bF_q BK521.out 4; have hfz39_5 := bF_q BK521.out 5; have hcz40_0 : cI w37 gb513 0 a2_0 := cZ BK513 0 rfl; have hcz40_1 : cI w37 gb513 1 a2_1 := cZ BK513 1 rfl; have hcz40_2 : cI w37 gb513 2 a2_2 := cZ BK513 2 rfl; have hcz40_3 : cI w37 gb513 3 a2_3 := cZ BK513 3 rfl; have hcz40_4 : cI w37 gb513 4 a2_4 := cZ BK513 4 rfl; have hcz40_5 : cI w37 gb513 5 a2_5 := cZ BK513 5 rfl; have hfz40_0 := bF_q BK513.out 0; have hfz40_1 := bF_q BK513.out 1; have hfz40_2 := bF_q BK513.out 2; have hfz40_3 := bF_q BK513.out 3; have hfz40_4 := bF_q BK513.out 4; have hfz40_5 := bF_q BK513.out 5) | ((with_reducible refine gC_q (f := 69) rfl ?_); refine gL_q (some 28) rfl rfl Try.func69 (by kernel_rfl) rfl #[.slice A0 l0.length c0, .func (.func 70) #[] #[.pointer (some ⟨gb513, 0, none⟩)]] rfl (by (try simp only [lM_q, lC_q, lN_q]); first | done | rfl | (simp only [lD_q, lT_q]; rfl)) ?_; (with_reducible refine (impl_Guest.calls _ _ l0 a2_3 t522 _ gb513 ?side0 ?side1 ?side2 A21.out).mono ?_); (case side0 => exact Eq.trans (bC_q (t := 27) (cs := #[.int .i64 a2_0, .int .i64 a2_1, .int .i64 a2_2, .int .i64 a2_3, .int .i64 a2_4, .int .i64 a2_5]) (by (with_reducible repeat (first | refine bN_q ?_ _ | refine bW_q ?_ | refine bL_q ?_ _)); refine blk_far ?_ NB513_521.out _; (with_reducible repeat (first | refine bN_q ?_ _ | refine bW_q ?_ | refine bL_q ?_ _)); refine blk_far ?_ NB513_521.out _; (with_reducible repeat (first | refine bN_q ?_ _ | refine bW_q ?_ | refine bL_q ?_ _)); refine blk_far ?_ NB513_521.out _; (with_reducible repeat (first | refine bN_q ?_ _ | refine bW_q ?_ | refine bL_q ?_ _)); refine blk_far ?_ NB513_521.out _; (with_reducible repeat (first | refine bN_q ?_ _ | refine bW_q ?_ | refine bL_q ?_ _)); refine blk_far ?_ NB513_521.out _; (with_reducible repeat (first | refine bN_q ?_ _ | refine bW_q ?_ | refine bL_q ?_ _)); refine blk_far ?_ NB513_521.out _; (with_reducible repeat (first | refine bN_q ?_ _ | refine bW_q ?_ | refine bL_q ?_ _)); exact BK513.out) 3) rfl); (case side1 => exact cB_q HR0.out (by repeat (with_reducible first | exact HB.out | apply bA_q | apply pB_q | apply bD_q | refine bS_q ?_ GE513.out | refine bS_q ?_ GE521.out))); (case side2 => exact HC0.out); rintro e w41 ⟨rfl, hb⟩; refine ⟨_, rfl, ?_⟩; have n0_ := Ae_q (bB_q (g := gb513) (o := .cells #[.int .i64 a2_0, .int .i64 a2_1, .int .i64 a2_2, .int .i64 a2_3, .int .i64 a2_4, .int .i64 a2_5] 27 (0, 0)) (by (with_reducible repeat (first | refine bN_q ?_ _ | refine bW_q ?_ | refine bL_q ?_ _)); refine blk_far ?_ NB513_521.out _; (with_reducible repeat (first | refine bN_q ?_ _ | refine bW_q ?_ | refine bL_q ?_ _)); refine blk_far ?_ NB513_521.out _; (with_reducible repeat (first | refine bN_q ?_ _ | refine bW_q ?_ | refine bL_q ?_ _)); refine blk_far ?_ NB513_521.out _; (with_reducible repeat (first | refine bN_q ?_ _ | refine bW_q ?_ | refine bL_q ?_ _)); refine blk_far ?_ NB513_521.out _; (with_reducible repeat (first | refine bN_q ?_ _ | refine bW_q ?_ | refine bL_q ?_ _)); refine blk_far ?_ NB513_521.out _; (with_reducible repeat (first | refine bN_q ?_ _ | refine bW_q ?_ | refine bL_q ?_ _)); refine blk_far ?_ NB513_521.out _; (with_reducible repeat (first | refine bN_q ?_ _ | refine bW_q ?_ | refine bL_q ?_ _)); exact BK513.out) hb); have n1_ := Ae_q (bB_q (g := gb521) (o := .cells #[.int .i64 t514, .int .i64 t515, .int .i64 t516, .int .i64 t517, .int .i64 t518, .int .i64 t519] 27 (0, 0)) (by (with_reducible repeat (first | refine bN_q ?_ _ | refine bW_q ?_ | refine bL_q ?_ _)); refine blk_put (cs := #[.int .i64 t514, .int .i64 t515, .int .i64 t516, .int .i64 t517, .int .i64 t518, .int .i64 0]) ?_ 5 _ rfl; (with_reducible repeat (first | refine bN_q ?_ _ | refine bW_q ?_ | refine bL_q ?_ _)); refine blk_put (cs := #[.int .i64 t514, .int .i64 t515, .int .i64 t516, .int .i64 t517, .int .i64 0, .int .i64 0]) ?_ 4 _ rfl; (with_reducible repeat (first | refine bN_q ?_ _ | refine bW_q ?_ | refine bL_q ?_ _)); refine blk_put (cs := #[.int .i64 t514, .int .i64 t515, .int .i64 t516, .int .i64 0, .int .i64 0, .int .i64 0]) ?_ 3 _ rfl; (with_reducible repeat (first | refine bN_q ?_ _ | refine bW_q ?_ | refine bL_q ?_ _)); refine blk_put (cs := #[.int .i64 t514, .int .i64 t515, .int .i64 0, .int .i64 0, .int .i64 0, .int .i64 0]) ?_ 2 _ rfl; (with_reducible repeat (first | refine bN_q ?_ _ | refine bW_q ?_ | refine bL_q ?_ _)); refine blk_put (cs := #[.int .i64 t514, .int .i64 0, .int .i64 0, .int .i64 0, .int .i64 0, .int .i64 0]) ?_ 1 _ rfl; (with_reducible repeat (first | refine bN_q ?_ _ | refine bW_q ?_ | refine bL_q ?_ _)); refine blk_put (cs := #[.int .i64 0, .int .i64 0, .int .i64 0, .int .i64 0, .int .i64 0, .int .i64 0]) ?_ 0 _ rfl; (with_reducible repeat (first | refine bN_q ?_ _ | refine bW_q ?_ | refine bL_q ?_ _)); exact BK521.out) hb); have n2_ := Ae_q (bT_q (by repeat (with_reducible first | exact HB.out | apply bA_q | apply pB_q | apply bD_q | refine bS_q ?_ GE513.out | refine bS_q ?_ GE521.out)) hb); clear BK513; clear BK521; clear HB; have BK513 := n0_; have BK521 := n1_; have HB := n2_; clear n0_ n1_ n2_; (try clear hb); (try clear hb2); (try clear hk); (try clear hi)))
  have n0_ := Ae_q (bW_q BK513.out)
  have n1_ := Ae_q (bW_q BK521.out)
  have n2_ := Ae_q (bD_q HB.out)
  clear BK513
  clear BK521
  clear HB
  have BK513 := n0_
  have BK521 := n1_
  have HB := n2_
  clear n0_ n1_ n2_
  refine start_ (n := 27) (S := fun w' => w'.cell? ⟨gb513, 0, none⟩ = some (.int .i64 a2_0) ∧ w'.cell? ⟨gb513, 1, none⟩ = some (.int .i64 a2_1) ∧ w'.cell? ⟨gb513, 2, none⟩ = some (.int .i64 a2_2) ∧ w'.cell? ⟨gb513, 3, none⟩ = some (.int .i64 a2_3) ∧ w'.cell? ⟨gb513, 4, none⟩ = some (.int .i64 a2_4) ∧ w'.cell? ⟨gb513, 5, none⟩ = some (.int .i64 a2_5) ∧ w'.cell? ⟨gb521, 0, none⟩ = some (.int .i64 t514) ∧ w'.cell? ⟨gb521, 1, none⟩ = some (.int .i64 t515) ∧ w'.cell? ⟨gb521, 2, none⟩ = some (.int .i64 t516) ∧ w'.cell? ⟨gb521, 3, none⟩ = some (.int .i64 t517) ∧ w'.cell? ⟨gb521, 4, none⟩ = some (.int .i64 t518) ∧ w'.cell? ⟨gb521, 5, none⟩ = some (.int .i64 t519)) (ds := []) #[false, false, false, false, false, false, false, false, false, false, false, false, false, false, false, false, false, false, false, false, false, false, false, false, false, false, false] (by kernel_rfl) rfl rfl ⟨(bC_q BK513.out 0).trans rfl, (bC_q BK513.out 1).trans rfl, (bC_q BK513.out 2).trans rfl, (bC_q BK513.out 3).trans rfl, (bC_q BK513.out 4).trans rfl, (bC_q BK513.out 5).trans rfl, (bC_q BK521.out 0).trans rfl, (bC_q BK521.out 1).trans rfl, (bC_q BK521.out 2).trans rfl, (bC_q BK521.out 3).trans rfl, (bC_q BK521.out 4).trans rfl, (bC_q BK521.out 5).trans rfl⟩ (fun hHeld => ?_); refine with_tabW impl_isWrong.tab8 impl_isWrong.bits8 (fun HT_ HW_ => ?_)
  generalize w41.drew = w42 at BK513 BK521 HB hHeld ⊢
  refine pI (v := ?_) (a' := ?_) HT_ 0 29 rfl rfl (by kernel_rfl) (fun _ _ _ h => h) (by rfl) ?_ ?_ ?_
  rotate_left
  ·intro w'
   go_simp
   with_reducible rfl
  rotate_left
  ·simp only [pS_q]
   rfl
  refine pI (v := ?_) (a' := ?_) HT_ 1 30 rfl rfl (by kernel_rfl) (fun _ _ _ h => h) (by rfl) ?_ ?_ ?_
  rotate_left
  ·intro w'
   go_simp
   with_reducible rfl
  rotate_left
  ·simp only [pS_q]
   rfl
  refine pI (v := ?_) (a' := ?_) HT_ 2 31 rfl rfl (by kernel_rfl) (fun _ _ _ h => h) (by rfl) ?_ ?_ ?_
  rotate_left
  ·intro w'
   go_simp
   with_reducible rfl
  rotate_left
  ·simp only [pS_q]
   rfl
  refine pI (v := ?_) (a' := ?_) HT_ 3 32 rfl rfl (by kernel_rfl) (fun _ _ _ h => h) (by rfl) ?_ ?_ ?_
  rotate_left
  ·intro w'
   go_simp
   with_reducible rfl
  rotate_left
  ·simp only [pS_q]
   rfl
  refine pI (v := ?_) (a' := ?_) HT_ 5 34 rfl rfl (by kernel_rfl) (fun _ _ _ h => h) (by rfl) ?_ ?_ ?_
  rotate_left
  ·intro w'
   go_simp
   with_reducible rfl
  rotate_left
  ·simp only [pS_q]
   rfl
  refine take_ (i := 4) (N := some 33) (v := ?_) (a' := ?_) #[true, true, true, true, true, true, false, false, false, false, false, false, false, false, false, false, false, false, false, false, false, false, false, false, false, false, false] rfl rfl (take_ofW HT_.out HW_.out (by kernel_rfl)) (fun _ _ _ h => h) (Or.inl ⟨by rfl, ?_⟩) hHeld ?_ ?_
  rotate_left
  ·rintro w' ⟨s0, s1, s2, s3, s4, s5, s6, s7, s8, s9, s10, s11⟩
   go_simp
   with_reducible rfl
  rotate_left
  ·simp only [pS_q]
   rfl
  refine take_ (i := 6) (N := some 35) (v := ?_) (a' := ?_) #[true, true, true, true, true, true, true, false, false, false, false, false, false, false, false, false, false, false, false, false, false, false, false, false, false, false, false] rfl rfl (take_ofW HT_.out HW_.out (by kernel_rfl)) (fun _ _ _ h => h) (Or.inl ⟨by rfl, ?_⟩) hHeld ?_ ?_
  rotate_left
  ·rintro w' ⟨s0, s1, s2, s3, s4, s5, s6, s7, s8, s9, s10, s11⟩
   go_simp
   with_reducible rfl
  rotate_left
  ·simp only [pS_q]
   rfl
  refine pI (v := ?_) (a' := ?_) HT_ 7 36 rfl rfl (by kernel_rfl) (fun _ _ _ h => h) (by rfl) ?_ ?_ ?_
  rotate_left
  ·intro w'
   go_simp
   with_reducible rfl
  rotate_left
  ·simp only [pS_q]
   rfl
  refine pI (v := ?_) (a' := ?_) HT_ 8 37 rfl rfl (by kernel_rfl) (fun _ _ _ h => h) (by rfl) ?_ ?_ ?_
  rotate_left
  ·intro w'
   go_simp
   with_reducible rfl
  rotate_left
  ·simp only [pS_q]
   rfl
  refine pI (v := ?_) (a' := ?_) HT_ 9 38 rfl rfl (by kernel_rfl) (fun _ _ _ h => h) (by rfl) ?_ ?_ ?_
  rotate_left
  ·intro w'
   go_simp
   with_reducible rfl
  rotate_left
  ·simp only [pS_q]
   rfl
  refine pI (v := ?_) (a' := ?_) HT_ 10 39 rfl rfl (by kernel_rfl) (fun _ _ _ h => h) (by rfl) ?_ ?_ ?_
  rotate_left
  ·intro w'
   go_simp
   with_reducible rfl
  rotate_left
  ·simp only [pS_q]
   rfl
  refine pI (v := ?_) (a' := ?_) HT_ 11 40 rfl rfl (by kernel_rfl) (fun _ _ _ h => h) (by rfl) ?_ ?_ ?_
  rotate_left
  ·intro w'
   go_simp
   with_reducible rfl
  rotate_left
  ·simp only [pS_q]
   rfl
  refine pI (v := ?_) (a' := ?_) HT_ 12 41 rfl rfl (by kernel_rfl) (fun _ _ _ h => h) (by rfl) ?_ ?_ ?_
  rotate_left
  ·intro w'
   go_simp
   with_reducible rfl
  rotate_left
  ·simp only [pS_q]
   rfl
  refine pI (v := ?_) (a' := ?_) HT_ 13 42 rfl rfl (by kernel_rfl) (fun _ _ _ h => h) (by rfl) ?_ ?_ ?_
  rotate_left
  ·intro w'
   go_simp
   with_reducible rfl
  rotate_left
  ·simp only [pS_q]
   rfl
  refine pI (v := ?_) (a' := ?_) HT_ 14 43 rfl rfl (by kernel_rfl) (fun _ _ _ h => h) (by rfl) ?_ ?_ ?_
  rotate_left
  ·intro w'
   go_simp
   with_reducible rfl
  rotate_left
  ·simp only [pS_q]
   rfl
  refine pU (a' := ?_) HT_ 15 44 rfl rfl (by kernel_rfl) (fun _ _ _ h => h) (by rfl) ?_ ?_
  rotate_left
  ·simp only [pS_q]
   rfl
  refine pU (a' := ?_) HT_ 16 45 rfl rfl (by kernel_rfl) (fun _ _ _ h => h) (by rfl) ?_ ?_
  rotate_left
  ·simp only [pS_q]
   rfl
  refine pU (a' := ?_) HT_ 17 46 rfl rfl (by kernel_rfl) (fun _ _ _ h => h) (by rfl) ?_ ?_
  rotate_left
  ·simp only [pS_q]
   rfl
  refine pU (a' := ?_) HT_ 18 47 rfl rfl (by kernel_rfl) (fun _ _ _ h => h) (by rfl) ?_ ?_
  rotate_left
  ·simp only [pS_q]
   rfl
  refine pU (a' := ?_) HT_ 19 48 rfl rfl (by kernel_rfl) (fun _ _ _ h => h) (by rfl) ?_ ?_
  rotate_left
  ·simp only [pS_q]
   rfl
  refine pU (a' := ?_) HT_ 20 49 rfl rfl (by kernel_rfl) (fun _ _ _ h => h) (by rfl) ?_ ?_
  rotate_left
  ·simp only [pS_q]
   rfl
  refine pU (a' := ?_) HT_ 21 50 rfl rfl (by kernel_rfl) (fun _ _ _ h => h) (by rfl) ?_ ?_
  rotate_left
  ·simp only [pS_q]
   rfl
  refine pU (a' := ?_) HT_ 22 51 rfl rfl (by kernel_rfl) (fun _ _ _ h => h) (by rfl) ?_ ?_
  rotate_left
  ·simp only [pS_q]
   rfl
  refine pU (a' := ?_) HT_ 23 52 rfl rfl (by kernel_rfl) (fun _ _ _ h => h) (by rfl) ?_ ?_
  rotate_left
  ·simp only [pS_q]
   rfl
  refine pU (a' := ?_) HT_ 24 53 rfl rfl (by kernel_rfl) (fun _ _ _ h => h) (by rfl) ?_ ?_
  rotate_left
  ·simp only [pS_q]
   rfl
  refine pI (v := ?_) (a' := ?_) HT_ 25 54 rfl rfl (by kernel_rfl) (fun _ _ _ h => h) (by rfl) ?_ ?_ ?_
  rotate_left
  ·intro w'
   go_simp
   with_reducible rfl
  rotate_left
  ·simp only [pS_q]
   rfl
  refine pI (v := ?_) (a' := ?_) HT_ 26 6 rfl rfl (by kernel_rfl) (fun _ _ _ h => h) (by rfl) ?_ ?_ ?_
  rotate_left
  ·intro w'
   go_simp
   with_reducible rfl
  rotate_left
  ·simp only [pS_q]
   rfl
  refine done_ (done_of HT_.out (by kernel_rfl)) ?_
  try go_wp2
  go_ret
  exact ⟨by first | rfl | (simp [eN_q, eS_q] <;> rfl) | (simp [*, eN_q, eS_q] <;> rfl), by repeat (with_reducible first | exact HB.out | apply bA_q | apply pB_q | apply bD_q | refine bS_q ?_ GE513.out | refine bS_q ?_ GE521.out)⟩
 rw [if_neg c33] at H
 have c33b0 : decide (t522 < 0) = false := dF_q c33
 clear c33
 by_cases c43 : 0 ≤ t522
 rotate_left
 ·rw [if_neg c43] at H
  exact absurd H (by simp)
 rw [if_pos c43] at H
 have c43b0 : decide (0 ≤ t522) = true := dT_q c43
 clear c43
 by_cases c44 : t522 < (l0.length : Int)
 rotate_left
 ·rw [if_neg c44] at H
  exact absurd H (by simp)
 rw [if_pos c44] at H
 have c44b0 : decide (t522 < (l0.length : Int)) = true := dT_q c44
 clear c44
 replace H := oB_q.mp H
 obtain ⟨t524, A450, H⟩ := H
 replace H : (some (!t524)) = some r := H
 have A45 := Ae_q A450
 clear A450
 obtain rfl := oI_q H
 go_enter Try.func55, Try.ntmps55
 try go_wp2_with (first | ((with_reducible refine gD_q (N := 5) rfl ?_); refine bE_q ?hg (N := 5) ?hd (cs := #[.int .i64 a2_0, .int .i64 a2_1, .int .i64 a2_2, .int .i64 a2_3, .int .i64 a2_4, .int .i64 a2_5]) (t := 27) ?hr ?_; (case hd => rfl); (case hg => rfl); (case hr => first | (go_simp; done) | (go_simp; rfl)); intro gb513 hg w46 hbox hb; have n0_ := Ae_q (bT_q (bel HB.out) hb); have n1_ := Ae_q (hbox); have n2_ := Ae_q ((by rw [hg]; exact (bZ_q (bel HB.out)) : w.heap.size ≤ gb513)); have n3_ := Ae_q ((by rw [hg]; exact (bZ_q (bel HB.out)) : w.heap.size ≤ gb513)); clear HB; have HB := n0_; have BK513 := n1_; have GW513 := n2_; have GE513 := n3_; clear n0_ n1_ n2_ n3_; clear hb hbox hg; have hcz47_0 : cI w46 gb513 0 a2_0 := cZ BK513 0 rfl; have hcz47_1 : cI w46 gb513 1 a2_1 := cZ BK513 1 rfl; have hcz47_2 : cI w46 gb513 2 a2_2 := cZ BK513 2 rfl; have hcz47_3 : cI w46 gb513 3 a2_3 := cZ BK513 3 rfl; have hcz47_4 : cI w46 gb513 4 a2_4 := cZ BK513 4 rfl; have hcz47_5 : cI w46 gb513 5 a2_5 := cZ BK513 5 rfl; have hfz47_0 := bF_q BK513.out 0; have hfz47_1 := bF_q BK513.out 1; have hfz47_2 := bF_q BK513.out 2; have hfz47_3 := bF_q BK513.out 3; have hfz47_4 := bF_q BK513.out 4; have hfz47_5 := bF_q BK513.out 5) | ((with_reducible refine gC_q (f := 51) rfl ?_); refine gL_q (some 14) rfl rfl Try.func51 (by kernel_rfl) rfl #[.slice A1 l1.length c1, .int .i64 a2_2] rfl (by (try simp only [lM_q, lC_q, lN_q]); first | done | rfl | (simp only [lD_q, lT_q]; rfl)) ?_; (with_reducible refine (impl_made.calls _ _ l1 a2_2 t514 t515 t516 t517 t518 t519 true _ ?side1 ?side2 A4.out).mono ?_); (case side1 => exact cup (cB_q HR1.out HB.out)); (case side2 => exact HC1.out); rintro e w48 ⟨rfl, hb⟩; refine ⟨_, rfl, ?_⟩; have n0_ := Ae_q (bB_q (g := gb513) (o := .cells #[.int .i64 a2_0, .int .i64 a2_1, .int .i64 a2_2, .int .i64 a2_3, .int .i64 a2_4, .int .i64 a2_5] 27 (0, 0)) (bup BK513.out) hb); have n1_ := Ae_q (bT_q (by repeat (with_reducible first | exact HB.out | apply bA_q | apply pB_q | apply bD_q | refine bS_q ?_ GE513.out)) hb); clear BK513; clear HB; have BK513 := n0_; have HB := n1_; clear n0_ n1_; (try clear hb); (try clear hb2); (try clear hk); (try clear hi)) | ((with_reducible refine gD_q (N := 7) rfl ?_); refine bE_q ?hg (N := 7) ?hd (cs := #[.int .i64 0, .int .i64 0, .int .i64 0, .int .i64 0, .int .i64 0, .int .i64 0]) (t := 27) ?hr ?_; (case hd => rfl); (case hg => rfl); (case hr => first | (go_simp; done) | (go_simp; rfl)); intro gb521 hg w49 hbox hb; have n0_ := Ae_q (bB_q (g := gb513) (o := .cells #[.int .i64 a2_0, .int .i64 a2_1, .int .i64 a2_2, .int .i64 a2_3, .int .i64 a2_4, .int .i64 a2_5] 27 (0, 0)) (bup BK513.out) hb); have n1_ := Ae_q (bT_q (by repeat (with_reducible first | exact HB.out | apply bA_q | apply pB_q | apply bD_q | refine bS_q ?_ GE513.out)) hb); have n2_ := Ae_q (hbox); have n3_ := Ae_q ((by rw [hg]; exact (bZ_q (by repeat (with_reducible first | exact HB.out | apply bA_q | apply pB_q | apply bD_q | refine bS_q ?_ GE513.out))) : w.heap.size ≤ gb521)); have n4_ := Ae_q ((by rw [hg]; exact (bZ_q (by repeat (with_reducible first | exact HB.out | apply bA_q | apply pB_q | apply bD_q | refine bS_q ?_ GE513.out))) : w.heap.size ≤ gb521)); have n5_ := Ae_q ((by rw [hg]; exact nL_q (blk_lt (g := gb513) (o := .cells #[.int .i64 a2_0, .int .i64 a2_1, .int .i64 a2_2, .int .i64 a2_3, .int .i64 a2_4, .int .i64 a2_5] 27 (0, 0)) (bup BK513.out)) : gb513 ≠ gb521)); have n6_ := Ae_q ((by rw [hg]; exact nG_q (blk_lt (g := gb513) (o := .cells #[.int .i64 a2_0, .int .i64 a2_1, .int .i64 a2_2, .int .i64 a2_3, .int .i64 a2_4, .int .i64 a2_5] 27 (0, 0)) (bup BK513.out)) : gb521 ≠ gb513)); clear BK513; clear HB; have BK513 := n0_; have HB := n1_; have BK521 := n2_; have GW521 := n3_; have GE521 := n4_; have NB513_521 := n5_; have NB521_513 := n6_; clear n0_ n1_ n2_ n3_ n4_ n5_ n6_; clear hb hbox hg; have hnb50 := NB521_513.out; have hnc50 := NB513_521.out; have hcz51_0 : cI w49 gb521 0 0 := cZ BK521 0 rfl; have hcz51_1 : cI w49 gb521 1 0 := cZ BK521 1 rfl; have hcz51_2 : cI w49 gb521 2 0 := cZ BK521 2 rfl; have hcz51_3 : cI w49 gb521 3 0 := cZ BK521 3 rfl; have hcz51_4 : cI w49 gb521 4 0 := cZ BK521 4 rfl; have hcz51_5 : cI w49 gb521 5 0 := cZ BK521 5 rfl; have hfz51_0 := bF_q BK521.out 0; have hfz51_1 := bF_q BK521.out 1; have hfz51_2 := bF_q BK521.out 2; have hfz51_3 := bF_q BK521.out 3; have hfz51_4 := bF_q BK521.out 4; have hfz51_5 := bF_q BK521.out 5; have hcz52_0 : cI w49 gb513 0 a2_0 := cZ BK513 0 rfl; have hcz52_1 : cI w49 gb513 1 a2_1 := cZ BK513 1 rfl; have hcz52_2 : cI w49 gb513 2 a2_2 := cZ BK513 2 rfl; have hcz52_3 : cI w49 gb513 3 a2_3 := cZ BK513 3 rfl; have hcz52_4 : cI w49 gb513 4 a2_4 := cZ BK513 4 rfl; have hcz52_5 : cI w49 gb513 5 a2_5 := cZ BK513 5 rfl; have hfz52_0 := bF_q BK513.out 0; have hfz52_1 := bF_q BK513.out 1; have hfz52_2 := bF_q BK513.out 2; have hfz52_3 := bF_q BK513.out 3; have hfz52_4 := bF_q BK513.out 4; have hfz52_5 := bF_q BK513.out 5) | ((with_reducible refine gC_q (f := 69) rfl ?_); refine gL_q (some 28) rfl rfl Try.func69 (by kernel_rfl) rfl #[.slice A0 l0.length c0, .func (.func 70) #[] #[.pointer (some ⟨gb513, 0, none⟩)]] rfl (by (try simp only [lM_q, lC_q, lN_q]); first | done | rfl | (simp only [lD_q, lT_q]; rfl)) ?_; (with_reducible refine (impl_Guest.calls _ _ l0 a2_3 t522 _ gb513 ?side0 ?side1 ?side2 A21.out).mono ?_); (case side0 => exact Eq.trans (bC_q (t := 27) (cs := #[.int .i64 a2_0, .int .i64 a2_1, .int .i64 a2_2, .int .i64 a2_3, .int .i64 a2_4, .int .i64 a2_5]) (by (with_reducible repeat (first | refine bN_q ?_ _ | refine bW_q ?_ | refine bL_q ?_ _)); refine blk_far ?_ NB513_521.out _; (with_reducible repeat (first | refine bN_q ?_ _ | refine bW_q ?_ | refine bL_q ?_ _)); refine blk_far ?_ NB513_521.out _; (with_reducible repeat (first | refine bN_q ?_ _ | refine bW_q ?_ | refine bL_q ?_ _)); refine blk_far ?_ NB513_521.out _; (with_reducible repeat (first | refine bN_q ?_ _ | refine bW_q ?_ | refine bL_q ?_ _)); refine blk_far ?_ NB513_521.out _; (with_reducible repeat (first | refine bN_q ?_ _ | refine bW_q ?_ | refine bL_q ?_ _)); refine blk_far ?_ NB513_521.out _; (with_reducible repeat (first | refine bN_q ?_ _ | refine bW_q ?_ | refine bL_q ?_ _)); refine blk_far ?_ NB513_521.out _; (with_reducible repeat (first | refine bN_q ?_ _ | refine bW_q ?_ | refine bL_q ?_ _)); exact BK513.out) 3) rfl); (case side1 => exact cB_q HR0.out (by repeat (with_reducible first | exact HB.out | apply bA_q | apply pB_q | apply bD_q | refine bS_q ?_ GE513.out | refine bS_q ?_ GE521.out))); (case side2 => exact HC0.out); rintro e w53 ⟨rfl, hb⟩; refine ⟨_, rfl, ?_⟩; have n0_ := Ae_q (bB_q (g := gb513) (o := .cells #[.int .i64 a2_0, .int .i64 a2_1, .int .i64 a2_2, .int .i64 a2_3, .int .i64 a2_4, .int .i64 a2_5] 27 (0, 0)) (by (with_reducible repeat (first | refine bN_q ?_ _ | refine bW_q ?_ | refine bL_q ?_ _)); refine blk_far ?_ NB513_521.out _; (with_reducible repeat (first | refine bN_q ?_ _ | refine bW_q ?_ | refine bL_q ?_ _)); refine blk_far ?_ NB513_521.out _; (with_reducible repeat (first | refine bN_q ?_ _ | refine bW_q ?_ | refine bL_q ?_ _)); refine blk_far ?_ NB513_521.out _; (with_reducible repeat (first | refine bN_q ?_ _ | refine bW_q ?_ | refine bL_q ?_ _)); refine blk_far ?_ NB513_521.out _; (with_reducible repeat (first | refine bN_q ?_ _ | refine bW_q ?_ | refine bL_q ?_ _)); refine blk_far ?_ NB513_521.out _; (with_reducible repeat (first | refine bN_q ?_ _ | refine bW_q ?_ | refine bL_q ?_ _)); refine blk_far ?_ NB513_521.out _; (with_reducible repeat (first | refine bN_q ?_ _ | refine bW_q ?_ | refine bL_q ?_ _)); exact BK513.out) hb); have n1_ := Ae_q (bB_q (g := gb521) (o := .cells #[.int .i64 t514, .int .i64 t515, .int .i64 t516, .int .i64 t517, .int .i64 t518, .int .i64 t519] 27 (0, 0)) (by (with_reducible repeat (first | refine bN_q ?_ _ | refine bW_q ?_ | refine bL_q ?_ _)); refine blk_put (cs := #[.int .i64 t514, .int .i64 t515, .int .i64 t516, .int .i64 t517, .int .i64 t518, .int .i64 0]) ?_ 5 _ rfl; (with_reducible repeat (first | refine bN_q ?_ _ | refine bW_q ?_ | refine bL_q ?_ _)); refine blk_put (cs := #[.int .i64 t514, .int .i64 t515, .int .i64 t516, .int .i64 t517, .int .i64 0, .int .i64 0]) ?_ 4 _ rfl; (with_reducible repeat (first | refine bN_q ?_ _ | refine bW_q ?_ | refine bL_q ?_ _)); refine blk_put (cs := #[.int .i64 t514, .int .i64 t515, .int .i64 t516, .int .i64 0, .int .i64 0, .int .i64 0]) ?_ 3 _ rfl; (with_reducible repeat (first | refine bN_q ?_ _ | refine bW_q ?_ | refine bL_q ?_ _)); refine blk_put (cs := #[.int .i64 t514, .int .i64 t515, .int .i64 0, .int .i64 0, .int .i64 0, .int .i64 0]) ?_ 2 _ rfl; (with_reducible repeat (first | refine bN_q ?_ _ | refine bW_q ?_ | refine bL_q ?_ _)); refine blk_put (cs := #[.int .i64 t514, .int .i64 0, .int .i64 0, .int .i64 0, .int .i64 0, .int .i64 0]) ?_ 1 _ rfl; (with_reducible repeat (first | refine bN_q ?_ _ | refine bW_q ?_ | refine bL_q ?_ _)); refine blk_put (cs := #[.int .i64 0, .int .i64 0, .int .i64 0, .int .i64 0, .int .i64 0, .int .i64 0]) ?_ 0 _ rfl; (with_reducible repeat (first | refine bN_q ?_ _ | refine bW_q ?_ | refine bL_q ?_ _)); exact BK521.out) hb); have n2_ := Ae_q (bT_q (by repeat (with_reducible first | exact HB.out | apply bA_q | apply pB_q | apply bD_q | refine bS_q ?_ GE513.out | refine bS_q ?_ GE521.out)) hb); clear BK513; clear BK521; clear HB; have BK513 := n0_; have BK521 := n1_; have HB := n2_; clear n0_ n1_ n2_; (try clear hb); (try clear hb2); (try clear hk); (try clear hi)))
 have n0_ := Ae_q (bW_q BK513.out)
 have n1_ := Ae_q (bW_q BK521.out)
 have n2_ := Ae_q (bD_q HB.out)
 clear BK513
 clear BK521
 clear HB
 have BK513 := n0_
 have BK521 := n1_
 have HB := n2_
 clear n0_ n1_ n2_
 have p523 : 0 ≤ (t522 : Int) := oD_q (by assumption)
 have q523 : t522 < (l0.length : Int) := oD_q (by assumption)
 obtain ⟨ad523, e523, hx523_0, hx523_1, hx523_2⟩ := at_T50 HR0.out t522 p523 q523
 have hw523_2 := hx523_2
 have hw523_1 := hx523_1
 have hw523_0 := hx523_0
 cases e523
 replace hx523_0 := cel HB.out hx523_0
 replace hx523_1 := cel HB.out hx523_1
 replace hx523_2 := cel HB.out hx523_2
 replace p523 := eq_true p523
 replace q523 := eq_true q523
 refine start_ (n := 27) (S := fun w' => w'.cell? ⟨gb513, 0, none⟩ = some (.int .i64 a2_0) ∧ w'.cell? ⟨gb513, 1, none⟩ = some (.int .i64 a2_1) ∧ w'.cell? ⟨gb513, 2, none⟩ = some (.int .i64 a2_2) ∧ w'.cell? ⟨gb513, 3, none⟩ = some (.int .i64 a2_3) ∧ w'.cell? ⟨gb513, 4, none⟩ = some (.int .i64 a2_4) ∧ w'.cell? ⟨gb513, 5, none⟩ = some (.int .i64 a2_5) ∧ w'.cell? ⟨gb521, 0, none⟩ = some (.int .i64 t514) ∧ w'.cell? ⟨gb521, 1, none⟩ = some (.int .i64 t515) ∧ w'.cell? ⟨gb521, 2, none⟩ = some (.int .i64 t516) ∧ w'.cell? ⟨gb521, 3, none⟩ = some (.int .i64 t517) ∧ w'.cell? ⟨gb521, 4, none⟩ = some (.int .i64 t518) ∧ w'.cell? ⟨gb521, 5, none⟩ = some (.int .i64 t519) ∧ w'.cell? (ad523.add ((t522).toNat * 3)) = some (.int .i64 ((rd_T50 l0 t522).f0)) ∧ w'.cell? ⟨(ad523.add ((t522).toNat * 3)).block, (ad523.add ((t522).toNat * 3)).off + 1, none⟩ = some (.int .i64 ((rd_T50 l0 t522).f1)) ∧ w'.cell? ⟨(ad523.add ((t522).toNat * 3)).block, (ad523.add ((t522).toNat * 3)).off + 2, none⟩ = some (.int .i64 ((rd_T50 l0 t522).f2))) (ds := []) #[false, false, false, false, false, false, false, false, false, false, false, false, false, false, false, false, false, false, false, false, false, false, false, false, false, false, false] (by kernel_rfl) rfl rfl ⟨(bC_q BK513.out 0).trans rfl, (bC_q BK513.out 1).trans rfl, (bC_q BK513.out 2).trans rfl, (bC_q BK513.out 3).trans rfl, (bC_q BK513.out 4).trans rfl, (bC_q BK513.out 5).trans rfl, (bC_q BK521.out 0).trans rfl, (bC_q BK521.out 1).trans rfl, (bC_q BK521.out 2).trans rfl, (bC_q BK521.out 3).trans rfl, (bC_q BK521.out 4).trans rfl, (bC_q BK521.out 5).trans rfl, (cel HB.out hw523_0), (cel HB.out hw523_1), (cel HB.out hw523_2)⟩ (fun hHeld => ?_); refine with_tabW impl_isWrong.tab8 impl_isWrong.bits8 (fun HT_ HW_ => ?_)
 generalize w53.drew = w54 at BK513 BK521 HB hx523_0 hx523_1 hx523_2 hHeld ⊢
 refine pI (v := ?_) (a' := ?_) HT_ 0 29 rfl rfl (by kernel_rfl) (fun _ _ _ h => h) (by rfl) ?_ ?_ ?_
 rotate_left
 ·intro w'
  go_simp
  with_reducible rfl
 rotate_left
 ·simp only [pS_q]
  rfl
 refine pI (v := ?_) (a' := ?_) HT_ 1 30 rfl rfl (by kernel_rfl) (fun _ _ _ h => h) (by rfl) ?_ ?_ ?_
 rotate_left
 ·intro w'
  go_simp
  with_reducible rfl
 rotate_left
 ·simp only [pS_q]
  rfl
 refine pI (v := ?_) (a' := ?_) HT_ 2 31 rfl rfl (by kernel_rfl) (fun _ _ _ h => h) (by rfl) ?_ ?_ ?_
 rotate_left
 ·intro w'
  go_simp
  with_reducible rfl
 rotate_left
 ·simp only [pS_q]
  rfl
 refine pI (v := ?_) (a' := ?_) HT_ 3 32 rfl rfl (by kernel_rfl) (fun _ _ _ h => h) (by rfl) ?_ ?_ ?_
 rotate_left
 ·intro w'
  go_simp
  with_reducible rfl
 rotate_left
 ·simp only [pS_q]
  rfl
 refine pI (v := ?_) (a' := ?_) HT_ 5 34 rfl rfl (by kernel_rfl) (fun _ _ _ h => h) (by rfl) ?_ ?_ ?_
 rotate_left
 ·intro w'
  go_simp
  with_reducible rfl
 rotate_left
 ·simp only [pS_q]
  rfl
 refine take_ (i := 4) (N := some 33) (v := ?_) (a' := ?_) #[true, true, true, true, true, true, false, false, false, false, false, false, false, false, false, false, false, false, false, false, false, false, false, false, false, false, false] rfl rfl (take_ofW HT_.out HW_.out (by kernel_rfl)) (fun _ _ _ h => h) (Or.inl ⟨by rfl, ?_⟩) hHeld ?_ ?_
 rotate_left
 ·rintro w' ⟨s0, s1, s2, s3, s4, s5, s6, s7, s8, s9, s10, s11, s12, s13, s14⟩
  go_simp
  with_reducible rfl
 rotate_left
 ·simp only [pS_q]
  rfl
 refine take_ (i := 6) (N := some 35) (v := ?_) (a' := ?_) #[true, true, true, true, true, true, true, false, false, false, false, false, false, false, false, false, false, false, false, false, false, false, false, false, false, false, false] rfl rfl (take_ofW HT_.out HW_.out (by kernel_rfl)) (fun _ _ _ h => h) (Or.inl ⟨by rfl, ?_⟩) hHeld ?_ ?_
 rotate_left
 ·rintro w' ⟨s0, s1, s2, s3, s4, s5, s6, s7, s8, s9, s10, s11, s12, s13, s14⟩
  go_simp
  with_reducible rfl
 rotate_left
 ·simp only [pS_q]
  rfl
 refine pI (v := ?_) (a' := ?_) HT_ 7 36 rfl rfl (by kernel_rfl) (fun _ _ _ h => h) (by rfl) ?_ ?_ ?_
 rotate_left
 ·intro w'
  go_simp
  with_reducible rfl
 rotate_left
 ·simp only [pS_q]
  rfl
 refine pI (v := ?_) (a' := ?_) HT_ 8 37 rfl rfl (by kernel_rfl) (fun _ _ _ h => h) (by rfl) ?_ ?_ ?_
 rotate_left
 ·intro w'
  go_simp
  with_reducible rfl
 rotate_left
 ·simp only [pS_q]
  rfl
 refine pI (v := ?_) (a' := ?_) HT_ 9 38 rfl rfl (by kernel_rfl) (fun _ _ _ h => h) (by rfl) ?_ ?_ ?_
 rotate_left
 ·intro w'
  go_simp
  with_reducible rfl
 rotate_left
 ·simp only [pS_q]
  rfl
 refine pI (v := ?_) (a' := ?_) HT_ 10 39 rfl rfl (by kernel_rfl) (fun _ _ _ h => h) (by rfl) ?_ ?_ ?_
 rotate_left
 ·intro w'
  go_simp
  with_reducible rfl
 rotate_left
 ·simp only [pS_q]
  rfl
 refine pI (v := ?_) (a' := ?_) HT_ 11 40 rfl rfl (by kernel_rfl) (fun _ _ _ h => h) (by rfl) ?_ ?_ ?_
 rotate_left
 ·intro w'
  go_simp
  with_reducible rfl
 rotate_left
 ·simp only [pS_q]
  rfl
 refine pI (v := ?_) (a' := ?_) HT_ 12 41 rfl rfl (by kernel_rfl) (fun _ _ _ h => h) (by rfl) ?_ ?_ ?_
 rotate_left
 ·intro w'
  go_simp
  with_reducible rfl
 rotate_left
 ·simp only [pS_q]
  rfl
 refine pI (v := ?_) (a' := ?_) HT_ 13 42 rfl rfl (by kernel_rfl) (fun _ _ _ h => h) (by rfl) ?_ ?_ ?_
 rotate_left
 ·intro w'
  go_simp
  with_reducible rfl
 rotate_left
 ·simp only [pS_q]
  rfl
 refine pI (v := ?_) (a' := ?_) HT_ 14 43 rfl rfl (by kernel_rfl) (fun _ _ _ h => h) (by rfl) ?_ ?_ ?_
 rotate_left
 ·intro w'
  go_simp
  with_reducible rfl
 rotate_left
 ·simp only [pS_q]
  rfl
 refine pI (v := ?_) (a' := ?_) HT_ 15 44 rfl rfl (by kernel_rfl) (fun _ _ _ h => h) (by rfl) ?_ ?_ ?_
 rotate_left
 ·intro w'
  go_simp
  with_reducible rfl
 rotate_left
 ·simp only [pS_q]
  rfl
 refine pI (v := ?_) (a' := ?_) HT_ 16 45 rfl rfl (by kernel_rfl) (fun _ _ _ h => h) (by rfl) ?_ ?_ ?_
 rotate_left
 ·intro w'
  go_simp
  with_reducible rfl
 rotate_left
 ·simp only [pS_q]
  rfl
 refine pI (v := ?_) (a' := ?_) HT_ 17 46 rfl rfl (by kernel_rfl) (fun _ _ _ h => h) (by rfl) ?_ ?_ ?_
 rotate_left
 ·intro w'
  go_simp
  with_reducible rfl
 rotate_left
 ·simp only [pS_q]
  rfl
 refine pI (v := ?_) (a' := ?_) HT_ 19 48 rfl rfl (by kernel_rfl) (fun _ _ _ h => h) (by rfl) ?_ ?_ ?_
 rotate_left
 ·intro w'
  go_simp
  with_reducible rfl
 rotate_left
 ·simp only [pS_q]
  rfl
 refine pI (v := ?_) (a' := ?_) HT_ 21 50 rfl rfl (by kernel_rfl) (fun _ _ _ h => h) (by rfl) ?_ ?_ ?_
 rotate_left
 ·intro w'
  go_simp
  with_reducible rfl
 rotate_left
 ·simp only [pS_q]
  rfl
 refine take_ (i := 18) (N := some 47) (v := ?_) (a' := ?_) #[true, true, true, true, true, true, true, true, true, true, true, true, true, true, true, true, true, true, true, true, false, true, false, false, false, false, false] rfl rfl (take_ofW HT_.out HW_.out (by kernel_rfl)) (fun _ _ _ h => h) (Or.inl ⟨by rfl, ?_⟩) hHeld ?_ ?_
 rotate_left
 ·rintro w' ⟨s0, s1, s2, s3, s4, s5, s6, s7, s8, s9, s10, s11, s12, s13, s14⟩
  go_simp
  with_reducible rfl
 rotate_left
 ·simp only [pS_q]
  rfl
 refine take_ (i := 20) (N := some 49) (v := ?_) (a' := ?_) #[true, true, true, true, true, true, true, true, true, true, true, true, true, true, true, true, true, true, true, true, true, true, false, false, false, false, false] rfl rfl (take_ofW HT_.out HW_.out (by kernel_rfl)) (fun _ _ _ h => h) (Or.inl ⟨by rfl, ?_⟩) hHeld ?_ ?_
 rotate_left
 ·rintro w' ⟨s0, s1, s2, s3, s4, s5, s6, s7, s8, s9, s10, s11, s12, s13, s14⟩
  go_simp
  with_reducible rfl
 rotate_left
 ·simp only [pS_q]
  rfl
 refine take_ (i := 22) (N := some 51) (v := ?_) (a' := ?_) #[true, true, true, true, true, true, true, true, true, true, true, true, true, true, true, true, true, true, true, true, true, true, true, false, false, false, false] rfl rfl (take_ofW HT_.out HW_.out (by kernel_rfl)) (fun _ _ _ h => h) (Or.inl ⟨by rfl, ?_⟩) hHeld ?_ ?_
 rotate_left
 ·rintro w' ⟨s0, s1, s2, s3, s4, s5, s6, s7, s8, s9, s10, s11, s12, s13, s14⟩
  go_simp
  with_reducible rfl
 rotate_left
 ·simp only [pS_q]
  rfl
 refine one_ (i := 23) (N := some 52) #[true, true, true, true, true, true, true, true, true, true, true, true, true, true, true, true, true, true, true, true, true, true, true, true, false, false, false] rfl rfl (one_of HT_.out (by kernel_rfl)) (by decide) (fun K hK => ?_)
 refine goes_ Try.func37 (by kernel_rfl) rfl #[.agg #[.int .i64 ((rd_T50 l0 t522).f0), .int .i64 ((rd_T50 l0 t522).f1), .int .i64 ((rd_T50 l0 t522).f2)], .int .i64 t518, .int .i64 t519] (by rfl) rfl rfl (by (try simp only [lM_q, lC_q, lN_q]); first | done | rfl | (simp only [lD_q, lT_q]; rfl)) ?_
 with_reducible refine (impl_GuestMay.calls ((rd_T50 l0 t522).f0) ((rd_T50 l0 t522).f1) ((rd_T50 l0 t522).f2) t518 t519 t524 _ A45.out).mono ?_
 rintro e w55 ⟨rfl, hb⟩
 refine ⟨_, rfl, ?_⟩
 have n0_ := Ae_q (bB_q (g := gb513) (o := .cells #[.int .i64 a2_0, .int .i64 a2_1, .int .i64 a2_2, .int .i64 a2_3, .int .i64 a2_4, .int .i64 a2_5] 27 (0, 0)) (bup BK513.out) hb)
 have n1_ := Ae_q (bB_q (g := gb521) (o := .cells #[.int .i64 t514, .int .i64 t515, .int .i64 t516, .int .i64 t517, .int .i64 t518, .int .i64 t519] 27 (0, 0)) (bup BK521.out) hb)
 have n2_ := Ae_q (bT_q (by repeat (with_reducible first | exact HB.out | apply bA_q | apply pB_q | apply bD_q | refine bS_q ?_ GE513.out | refine bS_q ?_ GE521.out)) hb)
 clear BK513
 clear BK521
 clear HB
 have BK513 := n0_
 have BK521 := n1_
 have HB := n2_
 clear n0_ n1_ n2_
 (try clear hb)
 (try clear hb2)
 (try clear hk)
 (try clear hi)
 refine hK.out _ _ ⟨(bC_q BK513.out 0).trans rfl, (bC_q BK513.out 1).trans rfl, (bC_q BK513.out 2).trans rfl, (bC_q BK513.out 3).trans rfl, (bC_q BK513.out 4).trans rfl, (bC_q BK513.out 5).trans rfl, (bC_q BK521.out 0).trans rfl, (bC_q BK521.out 1).trans rfl, (bC_q BK521.out 2).trans rfl, (bC_q BK521.out 3).trans rfl, (bC_q BK521.out 4).trans rfl, (bC_q BK521.out 5).trans rfl, (cel HB.out hw523_0), (cel HB.out hw523_1), (cel HB.out hw523_2)⟩ (fun hHeld => ?_)
 clear hK K
 refine norm_ (a' := ?_) ?_ ?_
 rotate_left
 ·show Act.put _ (some 52) _ = _
  simp only [pS_q]
  rfl
 refine pI (v := ?_) (a' := ?_) HT_ 24 53 rfl rfl (by kernel_rfl) (fun _ _ _ h => h) (by rfl) ?_ ?_ ?_
 rotate_left
 ·intro w'
  go_simp
  with_reducible rfl
 rotate_left
 ·simp only [pS_q]
  rfl
 refine pI (v := ?_) (a' := ?_) HT_ 25 54 rfl rfl (by kernel_rfl) (fun _ _ _ h => h) (by rfl) ?_ ?_ ?_
 rotate_left
 ·intro w'
  go_simp
  with_reducible rfl
 rotate_left
 ·simp only [pS_q]
  rfl
 refine pI (v := ?_) (a' := ?_) HT_ 26 6 rfl rfl (by kernel_rfl) (fun _ _ _ h => h) (by rfl) ?_ ?_ ?_
 rotate_left
 ·intro w'
  go_simp
  with_reducible rfl
 rotate_left
 ·simp only [pS_q]
  rfl
 refine done_ (done_of HT_.out (by kernel_rfl)) ?_
 try go_wp2
 go_ret
 exact ⟨by first | rfl | (simp [eN_q, eS_q] <;> rfl) | (simp [*, eN_q, eS_q] <;> rfl), by repeat (with_reducible first | exact HB.out | apply bA_q | apply pB_q | apply bD_q | refine bS_q ?_ GE513.out | refine bS_q ?_ GE521.out)⟩

end Go.Proofs.Ytnhenfmegpjigaa.PEv
