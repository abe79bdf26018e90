import Derived.Test.YtfnpiacmlahegaaVSPRpx0
import Derived.Test.YtfnpiacmlahegaaVSPRpx5
namespace Go.Proofs.Ytfnpiacmlahegaa.PRp
open Go.RowKit Go.Proofs.YtfnpiacmlahegaaW.PrintWords Go.Proofs.YtfnpiacmlahegaaW.PrintLast Go.Proofs.YtfnpiacmlahegaaW.PrintMore
attribute [local go_sem] max2_int min2_int max_two min_two max_three min_three max_four min_four
set_option linter.unusedVariables false
set_option linter.unusedSimpArgs false

def laws_eqStep.f (k : Nat) (a0_0 : Int) (a0_1 : Int) (a0_2 : Int) (l0_3 : List Int) (a1_0 : Int) (a1_1 : Int) (a1_2 : Int) (l1_3 : List Int) : Option (Bool) := if a0_0 = a1_0 then (if a0_1 = a1_1 then (if a0_2 = a1_2 then ((laws_eqIntS.f k l0_3 l1_3).bind fun t194 => (if t194 = true then (some true) else (some false))) else (some false)) else (some false)) else (some false)
set_option maxHeartbeats 8000000 in
set_option maxRecDepth 100000 in
theorem laws_eqStep.calls (k : Nat) (a0_0 : Int) (a0_1 : Int) (a0_2 : Int) (A0_3 : Option Addr) (c0_3 : Nat) (l0_3 : List Int) (a1_0 : Int) (a1_1 : Int) (a1_2 : Int) (A1_3 : Option Addr) (c1_3 : Nat) (l1_3 : List Int) (r : Bool) (w : World) (hr0_3 : Kd.C kI_q w A0_3 l0_3.length l0_3) (hc0_3 : l0_3.length ≤ c0_3) (hr1_3 : Kd.C kI_q w A1_3 l1_3.length l1_3) (hc1_3 : l1_3.length ≤ c1_3) (h : laws_eqStep.f k a0_0 a0_1 a0_2 l0_3 a1_0 a1_1 a1_2 l1_3 = some r) :
    Calls Try.prog 41 #[.agg #[.int .i64 a0_0, .int .i64 a0_1, .int .i64 a0_2, .slice A0_3 l0_3.length c0_3], .agg #[.int .i64 a1_0, .int .i64 a1_1, .int .i64 a1_2, .slice A1_3 l1_3.length c1_3]] w fun e w' => e = .returned (.bool r) ∧ Below w.heap.size w w' := by
 have hu63 := Try.underlying63
 have HR0_3 := Ae_q hr0_3
 have HC0_3 := Ae_q hc0_3
 clear hr0_3 hc0_3
 have HR1_3 := Ae_q hr1_3
 have HC1_3 := Ae_q hc1_3
 clear hr1_3 hc1_3
 have HB := Ae_q (bR_q w.heap.size w)
 have H : (if a0_0 = a1_0 then (if a0_1 = a1_1 then (if a0_2 = a1_2 then ((laws_eqIntS.f k l0_3 l1_3).bind fun t194 => (if t194 = true then (some true) else (some false))) else (some false)) else (some false)) else (some false)) = some r := h
 clear h
 by_cases c3 : a0_0 = a1_0
 rotate_left
 ·rw [if_neg c3] at H
  have c3b0 : (a0_0 == a1_0) = false := fN_q.mpr c3
  have c3b1 : (a0_0 != a1_0) = true := nI_q.mpr c3
  obtain rfl := oI_q H
  go_enter Try.func41, Try.ntmps41
  go_wp2_with (first | ((with_reducible refine gD_q (N := 2) rfl ?_); refine bE_q ?hg (N := 2) ?hd (cs := #[.int .i64 a0_0, .int .i64 a0_1, .int .i64 a0_2, .slice A0_3 l0_3.length c0_3]) (t := 63) ?hr ?_; (case hd => rfl); (case hg => rfl); (case hr => exact m6_q); intro gb192 hg w' hbox hb; have BK192 := Ae_q (hbox); have GW192 := Ae_q ((by rw [hg]; exact (bZ_q (bel HB.out)) : w.heap.size ≤ gb192)); have GE192 := Ae_q ((by rw [hg]; exact (bZ_q (bel HB.out)) : w.heap.size ≤ gb192)); replace HB := Ae_q (bT_q (bel HB.out) hb); clear hb hbox hg) | ((with_reducible refine gD_q (N := 3) rfl ?_); refine bE_q ?hg (N := 3) ?hd (cs := #[.int .i64 a1_0, .int .i64 a1_1, .int .i64 a1_2, .slice A1_3 l1_3.length c1_3]) (t := 63) ?hr ?_; (case hd => rfl); (case hg => rfl); (case hr => exact m6_q); intro gb193 hg w29 hbox hb; have BK193 := Ae_q (hbox); have GW193 := Ae_q ((by rw [hg]; exact (bZ_q m17_q) : w.heap.size ≤ gb193)); have GE193 := Ae_q ((by rw [hg]; exact (bZ_q m17_q) : w.heap.size ≤ gb193)); replace HB := Ae_q (bT_q m17_q hb); have NB192_193 := Ae_q ((by rw [hg]; exact nL_q (blk_lt (g := gb192) (o := .cells #[.int .i64 a0_0, .int .i64 a0_1, .int .i64 a0_2, .slice A0_3 l0_3.length c0_3] 63 (0, 0)) (bup BK192.out)) : gb192 ≠ gb193)); have NB193_192 := Ae_q ((by rw [hg]; exact nG_q (blk_lt (g := gb192) (o := .cells #[.int .i64 a0_0, .int .i64 a0_1, .int .i64 a0_2, .slice A0_3 l0_3.length c0_3] 63 (0, 0)) (bup BK192.out)) : gb193 ≠ gb192)); replace BK192 := Ae_q (bB_q (g := gb192) (o := .cells #[.int .i64 a0_0, .int .i64 a0_1, .int .i64 a0_2, .slice A0_3 l0_3.length c0_3] 63 (0, 0)) (bup BK192.out) hb); clear hb hbox hg; have hnb30 := NB192_193.out; have hnc30 := NB193_192.out; have hcz31_0 : cI w29 gb192 0 a0_0 := cZ BK192 0 rfl; have hcz31_1 : cI w29 gb192 1 a0_1 := cZ BK192 1 rfl; have hcz31_2 : cI w29 gb192 2 a0_2 := cZ BK192 2 rfl; have hcz31_3 : w29.cell? ⟨gb192, 3, none⟩ = some (.slice A0_3 l0_3.length c0_3) := (bC_q BK192.out 3).trans rfl; have hfz31_0 := bF_q BK192.out 0; have hfz31_1 := bF_q BK192.out 1; have hfz31_2 := bF_q BK192.out 2; have hfz31_3 := bF_q BK192.out 3; have hcz32_0 : cI w29 gb193 0 a1_0 := cZ BK193 0 rfl; have hcz32_1 : cI w29 gb193 1 a1_1 := cZ BK193 1 rfl; have hcz32_2 : cI w29 gb193 2 a1_2 := cZ BK193 2 rfl; have hcz32_3 : w29.cell? ⟨gb193, 3, none⟩ = some (.slice A1_3 l1_3.length c1_3) := (bC_q BK193.out 3).trans rfl; have hfz32_0 := bF_q BK193.out 0; have hfz32_1 := bF_q BK193.out 1; have hfz32_2 := bF_q BK193.out 2; have hfz32_3 := bF_q BK193.out 3))
  go_ret
  exact ⟨m4_q, m52_q⟩
 rw [if_pos c3] at H
 have c3b0 : (a0_0 == a1_0) = true := beq_iff_eq.mpr c3
 have c3b1 : (a0_0 != a1_0) = false := nE_q.mpr c3
 clear c3
 by_cases c4 : a0_1 = a1_1
 rotate_left
 ·rw [if_neg c4] at H
  have c4b0 : (a0_1 == a1_1) = false := fN_q.mpr c4
  have c4b1 : (a0_1 != a1_1) = true := nI_q.mpr c4
  obtain rfl := oI_q H
  go_enter Try.func41, Try.ntmps41
  go_wp2_with (first | ((with_reducible refine gD_q (N := 2) rfl ?_); refine bE_q ?hg (N := 2) ?hd (cs := #[.int .i64 a0_0, .int .i64 a0_1, .int .i64 a0_2, .slice A0_3 l0_3.length c0_3]) (t := 63) ?hr ?_; (case hd => rfl); (case hg => rfl); (case hr => exact m6_q); intro gb192 hg w' hbox hb; have BK192 := Ae_q (hbox); have GW192 := Ae_q ((by rw [hg]; exact (bZ_q (bel HB.out)) : w.heap.size ≤ gb192)); have GE192 := Ae_q ((by rw [hg]; exact (bZ_q (bel HB.out)) : w.heap.size ≤ gb192)); replace HB := Ae_q (bT_q (bel HB.out) hb); clear hb hbox hg) | ((with_reducible refine gD_q (N := 3) rfl ?_); refine bE_q ?hg (N := 3) ?hd (cs := #[.int .i64 a1_0, .int .i64 a1_1, .int .i64 a1_2, .slice A1_3 l1_3.length c1_3]) (t := 63) ?hr ?_; (case hd => rfl); (case hg => rfl); (case hr => exact m6_q); intro gb193 hg w24 hbox hb; have BK193 := Ae_q (hbox); have GW193 := Ae_q ((by rw [hg]; exact (bZ_q m17_q) : w.heap.size ≤ gb193)); have GE193 := Ae_q ((by rw [hg]; exact (bZ_q m17_q) : w.heap.size ≤ gb193)); replace HB := Ae_q (bT_q m17_q hb); have NB192_193 := Ae_q ((by rw [hg]; exact nL_q (blk_lt (g := gb192) (o := .cells #[.int .i64 a0_0, .int .i64 a0_1, .int .i64 a0_2, .slice A0_3 l0_3.length c0_3] 63 (0, 0)) (bup BK192.out)) : gb192 ≠ gb193)); have NB193_192 := Ae_q ((by rw [hg]; exact nG_q (blk_lt (g := gb192) (o := .cells #[.int .i64 a0_0, .int .i64 a0_1, .int .i64 a0_2, .slice A0_3 l0_3.length c0_3] 63 (0, 0)) (bup BK192.out)) : gb193 ≠ gb192)); replace BK192 := Ae_q (bB_q (g := gb192) (o := .cells #[.int .i64 a0_0, .int .i64 a0_1, .int .i64 a0_2, .slice A0_3 l0_3.length c0_3] 63 (0, 0)) (bup BK192.out) hb); clear hb hbox hg; have hnb25 := NB192_193.out; have hnc25 := NB193_192.out; have hcz26_0 : cI w24 gb192 0 a0_0 := cZ BK192 0 rfl; have hcz26_1 : cI w24 gb192 1 a0_1 := cZ BK192 1 rfl; have hcz26_2 : cI w24 gb192 2 a0_2 := cZ BK192 2 rfl; have hcz26_3 : w24.cell? ⟨gb192, 3, none⟩ = some (.slice A0_3 l0_3.length c0_3) := (bC_q BK192.out 3).trans rfl; have hfz26_0 := bF_q BK192.out 0; have hfz26_1 := bF_q BK192.out 1; have hfz26_2 := bF_q BK192.out 2; have hfz26_3 := bF_q BK192.out 3; have hcz27_0 : cI w24 gb193 0 a1_0 := cZ BK193 0 rfl; have hcz27_1 : cI w24 gb193 1 a1_1 := cZ BK193 1 rfl; have hcz27_2 : cI w24 gb193 2 a1_2 := cZ BK193 2 rfl; have hcz27_3 : w24.cell? ⟨gb193, 3, none⟩ = some (.slice A1_3 l1_3.length c1_3) := (bC_q BK193.out 3).trans rfl; have hfz27_0 := bF_q BK193.out 0; have hfz27_1 := bF_q BK193.out 1; have hfz27_2 := bF_q BK193.out 2; have hfz27_3 := bF_q BK193.out 3))
  go_ret
  exact ⟨m4_q, m52_q⟩
 rw [if_pos c4] at H
 have c4b0 : (a0_1 == a1_1) = true := beq_iff_eq.mpr c4
 have c4b1 : (a0_1 != a1_1) = false := nE_q.mpr c4
 clear c4
 by_cases c5 : a0_2 = a1_2
 rotate_left
 ·rw [if_neg c5] at H
  have c5b0 : (a0_2 == a1_2) = false := fN_q.mpr c5
  have c5b1 : (a0_2 != a1_2) = true := nI_q.mpr c5
  obtain rfl := oI_q H
  go_enter Try.func41, Try.ntmps41
  go_wp2_with (first | ((with_reducible refine gD_q (N := 2) rfl ?_); refine bE_q ?hg (N := 2) ?hd (cs := #[.int .i64 a0_0, .int .i64 a0_1, .int .i64 a0_2, .slice A0_3 l0_3.length c0_3]) (t := 63) ?hr ?_; (case hd => rfl); (case hg => rfl); (case hr => exact m6_q); intro gb192 hg w' hbox hb; have BK192 := Ae_q (hbox); have GW192 := Ae_q ((by rw [hg]; exact (bZ_q (bel HB.out)) : w.heap.size ≤ gb192)); have GE192 := Ae_q ((by rw [hg]; exact (bZ_q (bel HB.out)) : w.heap.size ≤ gb192)); replace HB := Ae_q (bT_q (bel HB.out) hb); clear hb hbox hg) | ((with_reducible refine gD_q (N := 3) rfl ?_); refine bE_q ?hg (N := 3) ?hd (cs := #[.int .i64 a1_0, .int .i64 a1_1, .int .i64 a1_2, .slice A1_3 l1_3.length c1_3]) (t := 63) ?hr ?_; (case hd => rfl); (case hg => rfl); (case hr => exact m6_q); intro gb193 hg w19 hbox hb; have BK193 := Ae_q (hbox); have GW193 := Ae_q ((by rw [hg]; exact (bZ_q m17_q) : w.heap.size ≤ gb193)); have GE193 := Ae_q ((by rw [hg]; exact (bZ_q m17_q) : w.heap.size ≤ gb193)); replace HB := Ae_q (bT_q m17_q hb); have NB192_193 := Ae_q ((by rw [hg]; exact nL_q (blk_lt (g := gb192) (o := .cells #[.int .i64 a0_0, .int .i64 a0_1, .int .i64 a0_2, .slice A0_3 l0_3.length c0_3] 63 (0, 0)) (bup BK192.out)) : gb192 ≠ gb193)); have NB193_192 := Ae_q ((by rw [hg]; exact nG_q (blk_lt (g := gb192) (o := .cells #[.int .i64 a0_0, .int .i64 a0_1, .int .i64 a0_2, .slice A0_3 l0_3.length c0_3] 63 (0, 0)) (bup BK192.out)) : gb193 ≠ gb192)); replace BK192 := Ae_q (bB_q (g := gb192) (o := .cells #[.int .i64 a0_0, .int .i64 a0_1, .int .i64 a0_2, .slice A0_3 l0_3.length c0_3] 63 (0, 0)) (bup BK192.out) hb); clear hb hbox hg; have hnb20 := NB192_193.out; have hnc20 := NB193_192.out; have hcz21_0 : cI w19 gb192 0 a0_0 := cZ BK192 0 rfl; have hcz21_1 : cI w19 gb192 1 a0_1 := cZ BK192 1 rfl; have hcz21_2 : cI w19 gb192 2 a0_2 := cZ BK192 2 rfl; have hcz21_3 : w19.cell? ⟨gb192, 3, none⟩ = some (.slice A0_3 l0_3.length c0_3) := (bC_q BK192.out 3).trans rfl; have hfz21_0 := bF_q BK192.out 0; have hfz21_1 := bF_q BK192.out 1; have hfz21_2 := bF_q BK192.out 2; have hfz21_3 := bF_q BK192.out 3; have hcz22_0 : cI w19 gb193 0 a1_0 := cZ BK193 0 rfl; have hcz22_1 : cI w19 gb193 1 a1_1 := cZ BK193 1 rfl; have hcz22_2 : cI w19 gb193 2 a1_2 := cZ BK193 2 rfl; have hcz22_3 : w19.cell? ⟨gb193, 3, none⟩ = some (.slice A1_3 l1_3.length c1_3) := (bC_q BK193.out 3).trans rfl; have hfz22_0 := bF_q BK193.out 0; have hfz22_1 := bF_q BK193.out 1; have hfz22_2 := bF_q BK193.out 2; have hfz22_3 := bF_q BK193.out 3))
  go_ret
  exact ⟨m4_q, m52_q⟩
 rw [if_pos c5] at H
 have c5b0 : (a0_2 == a1_2) = true := beq_iff_eq.mpr c5
 have c5b1 : (a0_2 != a1_2) = false := nE_q.mpr c5
 clear c5
 replace H := oB_q.mp H
 obtain ⟨t194, A60, H⟩ := H
 replace H : (if t194 = true then (some true) else (some false)) = some r := H
 have A6 := Ae_q A60
 clear A60
 by_cases c7 : t194 = true
 ·subst c7
  have H1 : (some true) = some r := by rw [if_pos rfl] at H; exact H
  clear H
  have H := H1
  clear H1
  obtain rfl := oI_q H
  go_enter Try.func41, Try.ntmps41
  go_wp2_with (first | ((with_reducible refine gD_q (N := 2) rfl ?_); refine bE_q ?hg (N := 2) ?hd (cs := #[.int .i64 a0_0, .int .i64 a0_1, .int .i64 a0_2, .slice A0_3 l0_3.length c0_3]) (t := 63) ?hr ?_; (case hd => rfl); (case hg => rfl); (case hr => exact m6_q); intro gb192 hg w8 hbox hb; have BK192 := Ae_q (hbox); have GW192 := Ae_q ((by rw [hg]; exact (bZ_q (bel HB.out)) : w.heap.size ≤ gb192)); have GE192 := Ae_q ((by rw [hg]; exact (bZ_q (bel HB.out)) : w.heap.size ≤ gb192)); replace HB := Ae_q (bT_q (bel HB.out) hb); clear hb hbox hg) | ((with_reducible refine gD_q (N := 3) rfl ?_); refine bE_q ?hg (N := 3) ?hd (cs := #[.int .i64 a1_0, .int .i64 a1_1, .int .i64 a1_2, .slice A1_3 l1_3.length c1_3]) (t := 63) ?hr ?_; (case hd => rfl); (case hg => rfl); (case hr => exact m6_q); intro gb193 hg w9 hbox hb; have BK193 := Ae_q (hbox); have GW193 := Ae_q ((by rw [hg]; exact (bZ_q m17_q) : w.heap.size ≤ gb193)); have GE193 := Ae_q ((by rw [hg]; exact (bZ_q m17_q) : w.heap.size ≤ gb193)); replace HB := Ae_q (bT_q m17_q hb); have NB192_193 := Ae_q ((by rw [hg]; exact nL_q (blk_lt (g := gb192) (o := .cells #[.int .i64 a0_0, .int .i64 a0_1, .int .i64 a0_2, .slice A0_3 l0_3.length c0_3] 63 (0, 0)) (bup BK192.out)) : gb192 ≠ gb193)); have NB193_192 := Ae_q ((by rw [hg]; exact nG_q (blk_lt (g := gb192) (o := .cells #[.int .i64 a0_0, .int .i64 a0_1, .int .i64 a0_2, .slice A0_3 l0_3.length c0_3] 63 (0, 0)) (bup BK192.out)) : gb193 ≠ gb192)); replace BK192 := Ae_q (bB_q (g := gb192) (o := .cells #[.int .i64 a0_0, .int .i64 a0_1, .int .i64 a0_2, .slice A0_3 l0_3.length c0_3] 63 (0, 0)) (bup BK192.out) hb); clear hb hbox hg; have hnb10 := NB192_193.out; have hnc10 := NB193_192.out; have hcz11_0 : cI w9 gb192 0 a0_0 := cZ BK192 0 rfl; have hcz11_1 : cI w9 gb192 1 a0_1 := cZ BK192 1 rfl; have hcz11_2 : cI w9 gb192 2 a0_2 := cZ BK192 2 rfl; have hcz11_3 : w9.cell? ⟨gb192, 3, none⟩ = some (.slice A0_3 l0_3.length c0_3) := (bC_q BK192.out 3).trans rfl; have hfz11_0 := bF_q BK192.out 0; have hfz11_1 := bF_q BK192.out 1; have hfz11_2 := bF_q BK192.out 2; have hfz11_3 := bF_q BK192.out 3; have hcz12_0 : cI w9 gb193 0 a1_0 := cZ BK193 0 rfl; have hcz12_1 : cI w9 gb193 1 a1_1 := cZ BK193 1 rfl; have hcz12_2 : cI w9 gb193 2 a1_2 := cZ BK193 2 rfl; have hcz12_3 : w9.cell? ⟨gb193, 3, none⟩ = some (.slice A1_3 l1_3.length c1_3) := (bC_q BK193.out 3).trans rfl; have hfz12_0 := bF_q BK193.out 0; have hfz12_1 := bF_q BK193.out 1; have hfz12_2 := bF_q BK193.out 2; have hfz12_3 := bF_q BK193.out 3) | ((with_reducible refine gC_q (f := 16) rfl ?_); refine gL_q (some 24) rfl rfl Try.func16 m7_q rfl #[.slice A0_3 l0_3.length c0_3, .slice A1_3 l1_3.length c1_3] rfl m1_q ?_; (with_reducible refine (laws_eqIntS.calls k _ _ l0_3 _ _ l1_3 true _ ?side1 ?side2 ?side3 ?side4 A6.out).mono ?_); (case side1 => exact m119_q); (case side2 => exact HC0_3.out); (case side3 => exact cup (cB_q HR1_3.out HB.out)); (case side4 => exact HC1_3.out); rintro e w' ⟨rfl, ⟨nd, rfl⟩⟩; refine ⟨_, rfl, ?_⟩))
  go_ret
  exact ⟨m4_q, m52_q⟩
 replace c7 := fM_q.mpr c7
 subst c7
 have H1 : (some false) = some r := by rw [if_neg (show ¬ (false = true) by decide)] at H; exact H
 clear H
 have H := H1
 clear H1
 obtain rfl := oI_q H
 go_enter Try.func41, Try.ntmps41
 go_wp2_with (first | ((with_reducible refine gD_q (N := 2) rfl ?_); refine bE_q ?hg (N := 2) ?hd (cs := #[.int .i64 a0_0, .int .i64 a0_1, .int .i64 a0_2, .slice A0_3 l0_3.length c0_3]) (t := 63) ?hr ?_; (case hd => rfl); (case hg => rfl); (case hr => exact m6_q); intro gb192 hg w' hbox hb; have BK192 := Ae_q (hbox); have GW192 := Ae_q ((by rw [hg]; exact (bZ_q (bel HB.out)) : w.heap.size ≤ gb192)); have GE192 := Ae_q ((by rw [hg]; exact (bZ_q (bel HB.out)) : w.heap.size ≤ gb192)); replace HB := Ae_q (bT_q (bel HB.out) hb); clear hb hbox hg) | ((with_reducible refine gD_q (N := 3) rfl ?_); refine bE_q ?hg (N := 3) ?hd (cs := #[.int .i64 a1_0, .int .i64 a1_1, .int .i64 a1_2, .slice A1_3 l1_3.length c1_3]) (t := 63) ?hr ?_; (case hd => rfl); (case hg => rfl); (case hr => exact m6_q); intro gb193 hg w14 hbox hb; have BK193 := Ae_q (hbox); have GW193 := Ae_q ((by rw [hg]; exact (bZ_q m17_q) : w.heap.size ≤ gb193)); have GE193 := Ae_q ((by rw [hg]; exact (bZ_q m17_q) : w.heap.size ≤ gb193)); replace HB := Ae_q (bT_q m17_q hb); have NB192_193 := Ae_q ((by rw [hg]; exact nL_q (blk_lt (g := gb192) (o := .cells #[.int .i64 a0_0, .int .i64 a0_1, .int .i64 a0_2, .slice A0_3 l0_3.length c0_3] 63 (0, 0)) (bup BK192.out)) : gb192 ≠ gb193)); have NB193_192 := Ae_q ((by rw [hg]; exact nG_q (blk_lt (g := gb192) (o := .cells #[.int .i64 a0_0, .int .i64 a0_1, .int .i64 a0_2, .slice A0_3 l0_3.length c0_3] 63 (0, 0)) (bup BK192.out)) : gb193 ≠ gb192)); replace BK192 := Ae_q (bB_q (g := gb192) (o := .cells #[.int .i64 a0_0, .int .i64 a0_1, .int .i64 a0_2, .slice A0_3 l0_3.length c0_3] 63 (0, 0)) (bup BK192.out) hb); clear hb hbox hg; have hnb15 := NB192_193.out; have hnc15 := NB193_192.out; have hcz16_0 : cI w14 gb192 0 a0_0 := cZ BK192 0 rfl; have hcz16_1 : cI w14 gb192 1 a0_1 := cZ BK192 1 rfl; have hcz16_2 : cI w14 gb192 2 a0_2 := cZ BK192 2 rfl; have hcz16_3 : w14.cell? ⟨gb192, 3, none⟩ = some (.slice A0_3 l0_3.length c0_3) := (bC_q BK192.out 3).trans rfl; have hfz16_0 := bF_q BK192.out 0; have hfz16_1 := bF_q BK192.out 1; have hfz16_2 := bF_q BK192.out 2; have hfz16_3 := bF_q BK192.out 3; have hcz17_0 : cI w14 gb193 0 a1_0 := cZ BK193 0 rfl; have hcz17_1 : cI w14 gb193 1 a1_1 := cZ BK193 1 rfl; have hcz17_2 : cI w14 gb193 2 a1_2 := cZ BK193 2 rfl; have hcz17_3 : w14.cell? ⟨gb193, 3, none⟩ = some (.slice A1_3 l1_3.length c1_3) := (bC_q BK193.out 3).trans rfl; have hfz17_0 := bF_q BK193.out 0; have hfz17_1 := bF_q BK193.out 1; have hfz17_2 := bF_q BK193.out 2; have hfz17_3 := bF_q BK193.out 3) | ((with_reducible refine gC_q (f := 16) rfl ?_); refine gL_q (some 24) rfl rfl Try.func16 m7_q rfl #[.slice A0_3 l0_3.length c0_3, .slice A1_3 l1_3.length c1_3] rfl m1_q ?_; (with_reducible refine (laws_eqIntS.calls k _ _ l0_3 _ _ l1_3 false _ ?side1 ?side2 ?side3 ?side4 A6.out).mono ?_); (case side1 => exact m119_q); (case side2 => exact HC0_3.out); (case side3 => exact cup (cB_q HR1_3.out HB.out)); (case side4 => exact HC1_3.out); rintro e w' ⟨rfl, ⟨nd, rfl⟩⟩; refine ⟨_, rfl, ?_⟩))
 go_ret
 exact ⟨m4_q, m52_q⟩

def laws_eqStepS.l0 : Nat → List (S63) → List (S63) → Int → Option (Bool)
 | 0, _, _, _ => none
 | k + 1, x0, x1, x5 => if x5 < (x0.length : Int) then (if 0 ≤ x5 then (if x5 < (x1.length : Int) then ((laws_eqStep.f k ((rd_T63 x0 x5).f0) ((rd_T63 x0 x5).f1) ((rd_T63 x0 x5).f2) ((rd_T63 x0 x5).f3) ((rd_T63 x1 x5).f0) ((rd_T63 x1 x5).f1) ((rd_T63 x1 x5).f2) ((rd_T63 x1 x5).f3)).bind fun t197 => (if t197 = true then (laws_eqStepS.l0 k x0 x1 (wrap64 (x5 + 1))) else (some false))) else (none)) else (none)) else (some true)
def laws_eqStepS.f (k : Nat) (l0 : List (S63)) (l1 : List (S63)) : Option (Bool) := if (l0.length : Int) = (l1.length : Int) then (laws_eqStepS.l0 k l0 l1 0) else (some false)
def laws_eqStepS.T6 : Bool × List (List Nat × List Nat) := (true, [([], []), ([], []), ([0, 1], [0, 1]), ([2], [2]), ([], []), ([], []), ([4, 5], [4, 5]), ([6], [6]), ([3, 7], [3, 7]), ([8], [8])])
def laws_eqStepS.B6 : List Nat := [0, 0, 3, 7, 0, 0, 48, 112, 255, 511]
theorem laws_eqStepS.tab6 : rtab .any (opsOf Try.f17 6) = laws_eqStepS.T6 := by kernel_rfl
theorem laws_eqStepS.bits6 : waitsOk laws_eqStepS.T6.2 laws_eqStepS.B6 = true := by kernel_rfl
set_option maxHeartbeats 8000000 in
set_option maxRecDepth 100000 in
theorem laws_eqStepS.calls (k : Nat) (A0 : Option Addr) (c0 : Nat) (l0 : List (S63)) (A1 : Option Addr) (c1 : Nat) (l1 : List (S63)) (r : Bool) (w : World) (hr0 : Kd.C k63 w A0 l0.length l0) (hc0 : l0.length ≤ c0) (hr1 : Kd.C k63 w A1 l1.length l1) (hc1 : l1.length ≤ c1) (h : laws_eqStepS.f k l0 l1 = some r) :
    Calls Try.prog 17 #[.slice A0 l0.length c0, .slice A1 l1.length c1] w fun e w' => e = .returned (.bool r) ∧ Below w.heap.size w w' := by
 have hu63 := Try.underlying63
 have HR0 := Ae_q hr0
 have HC0 := Ae_q hc0
 clear hr0 hc0
 have HR1 := Ae_q hr1
 have HC1 := Ae_q hc1
 clear hr1 hc1
 have HB := Ae_q (bR_q w.heap.size w)
 have H : (if (l0.length : Int) = (l1.length : Int) then (laws_eqStepS.l0 k l0 l1 0) else (some false)) = some r := h
 clear h
 by_cases c3 : (l0.length : Int) = (l1.length : Int)
 rotate_left
 ·rw [if_neg c3] at H
  have c3b0 : ((l0.length : Int) == (l1.length : Int)) = false := fN_q.mpr c3
  have c3b1 : ((l0.length : Int) != (l1.length : Int)) = true := nI_q.mpr c3
  have c3b2 : (l0.length == l1.length) = false := by first | simpa using c3 | (simp at c3 ⊢; omega)
  obtain rfl := oI_q H
  go_enter Try.func17, Try.ntmps17
  go_wp2
  go_ret
  exact ⟨m4_q, bel HB.out⟩
 rw [if_pos c3] at H
 have c3b0 : ((l0.length : Int) == (l1.length : Int)) = true := beq_iff_eq.mpr c3
 have c3b1 : ((l0.length : Int) != (l1.length : Int)) = false := nE_q.mpr c3
 have c3b2 : (l0.length == l1.length) = true := by first | simpa using c3 | (simp at c3 ⊢; omega)
 clear c3
 have H' := Ae_q H
 clear H
 go_enter Try.func17, Try.ntmps17
 go_wp2
 go_loopg [5] k (fun kq v5 w' => ∃ (x5_1 : Int), v5 = .int .i64 x5_1 ∧ Aside0 (laws_eqStepS.l0 kq l0 l1 x5_1 = some r) ∧ Aside0 (kq ≤ k) ∧ Aside0 (Below w.heap.size w w'))
 case atStart => exact ⟨(0), m5_q, H', ⟨nR_q _⟩, ⟨bel HB.out⟩⟩
 case round =>
  clear H'
  try clear c1
  try clear p2
  try clear c3
  try clear c3b0
  try clear c3b1
  try clear c3b2
  obtain ⟨x5_1, rfl, HA, HK1, HB⟩ := hrel
  cases gk with
  | zero => exact absurd HA.out (by simp [laws_eqStepS.l0])
  | succ k1 =>
   have H := HA.out
   clear HA
   simp only [laws_eqStepS.l0] at H
   by_cases c4 : x5_1 < (l0.length : Int)
   rotate_left
   ·rw [if_neg c4] at H
    have c4b0 : decide (x5_1 < (l0.length : Int)) = false := dF_q c4
    clear c4
    obtain rfl := oI_q H
    go_wp2
    go_ret
    exact ⟨m4_q, bel HB.out⟩
   rw [if_pos c4] at H
   have c4b0 : decide (x5_1 < (l0.length : Int)) = true := dT_q c4
   clear c4
   by_cases c5 : 0 ≤ x5_1
   rotate_left
   ·rw [if_neg c5] at H
    exact absurd H (by simp)
   rw [if_pos c5] at H
   have c5b0 : decide (0 ≤ x5_1) = true := dT_q c5
   clear c5
   by_cases c6 : x5_1 < (l1.length : Int)
   rotate_left
   ·rw [if_neg c6] at H
    exact absurd H (by simp)
   rw [if_pos c6] at H
   have c6b0 : decide (x5_1 < (l1.length : Int)) = true := dT_q c6
   clear c6
   replace H := oB_q.mp H
   obtain ⟨t197, A70, H⟩ := H
   replace H : (if t197 = true then (laws_eqStepS.l0 k1 l0 l1 (wrap64 (x5_1 + 1))) else (some false)) = some r := H
   have A7 := Ae_q A70
   clear A70
   by_cases c8 : t197 = true
   ·subst c8
    have H1 : (laws_eqStepS.l0 k1 l0 l1 (wrap64 (x5_1 + 1))) = some r := by rw [if_pos rfl] at H; exact H
    clear H
    have H := H1
    clear H1
    have H' := Ae_q H
    clear H
    try go_wp2
    replace HB := Ae_q (bD_q HB.out)
    have p195 : 0 ≤ (x5_1 : Int) := oD_q (by assumption)
    have q195 : x5_1 < (l0.length : Int) := oD_q (by assumption)
    obtain ⟨ad195, A195_3, c195_3, e195, hx195_0, hx195_1, hx195_2, hx195_3, hl195_3, hi195_3⟩ := at_T63 HR0.out x5_1 p195 q195
    have hw195_3 := hx195_3
    have hw195_2 := hx195_2
    have hw195_1 := hx195_1
    have hw195_0 := hx195_0
    cases e195
    replace hx195_0 := cel HB.out hx195_0
    replace hx195_1 := cel HB.out hx195_1
    replace hx195_2 := cel HB.out hx195_2
    replace hx195_3 := cel HB.out hx195_3
    have HR195_3 := Ae_q hi195_3
    have HC195_3 := Ae_q hl195_3
    clear hi195_3 hl195_3
    replace p195 := eq_true p195
    replace q195 := eq_true q195
    have p196 : 0 ≤ (x5_1 : Int) := oD_q (by assumption)
    have q196 : x5_1 < (l1.length : Int) := oD_q (by assumption)
    obtain ⟨ad196, A196_3, c196_3, e196, hx196_0, hx196_1, hx196_2, hx196_3, hl196_3, hi196_3⟩ := at_T63 HR1.out x5_1 p196 q196
    have hw196_3 := hx196_3
    have hw196_2 := hx196_2
    have hw196_1 := hx196_1
    have hw196_0 := hx196_0
    cases e196
    replace hx196_0 := cel HB.out hx196_0
    replace hx196_1 := cel HB.out hx196_1
    replace hx196_2 := cel HB.out hx196_2
    replace hx196_3 := cel HB.out hx196_3
    have HR196_3 := Ae_q hi196_3
    have HC196_3 := Ae_q hl196_3
    clear hi196_3 hl196_3
    replace p196 := eq_true p196
    replace q196 := eq_true q196
    refine start_ (n := 10) (S := fun w' => w'.cell? (ad195.add ((x5_1).toNat * 4)) = some (.int .i64 ((rd_T63 l0 x5_1).f0)) ∧ w'.cell? ⟨(ad195.add ((x5_1).toNat * 4)).block, (ad195.add ((x5_1).toNat * 4)).off + 1, none⟩ = some (.int .i64 ((rd_T63 l0 x5_1).f1)) ∧ w'.cell? ⟨(ad195.add ((x5_1).toNat * 4)).block, (ad195.add ((x5_1).toNat * 4)).off + 2, none⟩ = some (.int .i64 ((rd_T63 l0 x5_1).f2)) ∧ w'.cell? ⟨(ad195.add ((x5_1).toNat * 4)).block, (ad195.add ((x5_1).toNat * 4)).off + 3, none⟩ = some (.slice A195_3 ((rd_T63 l0 x5_1).f3).length c195_3) ∧ w'.cell? (ad196.add ((x5_1).toNat * 4)) = some (.int .i64 ((rd_T63 l1 x5_1).f0)) ∧ w'.cell? ⟨(ad196.add ((x5_1).toNat * 4)).block, (ad196.add ((x5_1).toNat * 4)).off + 1, none⟩ = some (.int .i64 ((rd_T63 l1 x5_1).f1)) ∧ w'.cell? ⟨(ad196.add ((x5_1).toNat * 4)).block, (ad196.add ((x5_1).toNat * 4)).off + 2, none⟩ = some (.int .i64 ((rd_T63 l1 x5_1).f2)) ∧ w'.cell? ⟨(ad196.add ((x5_1).toNat * 4)).block, (ad196.add ((x5_1).toNat * 4)).off + 3, none⟩ = some (.slice A196_3 ((rd_T63 l1 x5_1).f3).length c196_3)) (ds := []) #[false, false, false, false, false, false, false, false, false, false] m7_q rfl rfl ⟨(cel HB.out hw195_0), (cel HB.out hw195_1), (cel HB.out hw195_2), (cel HB.out hw195_3), (cel HB.out hw196_0), (cel HB.out hw196_1), (cel HB.out hw196_2), (cel HB.out hw196_3)⟩ (fun hHeld => ?_); refine with_tabW laws_eqStepS.tab6 laws_eqStepS.bits6 (fun HT_ HW_ => ?_)
    generalize wr.drew = w9 at HB HR195_3 HR196_3 hx195_0 hx195_1 hx195_2 hx195_3 hx196_0 hx196_1 hx196_2 hx196_3 hHeld ⊢
    refine pJ HT_ 0 17 rfl rfl ?_
    refine pJ HT_ 1 18 rfl rfl ?_
    refine pJ HT_ 2 19 rfl rfl ?_
    refine pJ HT_ 4 21 rfl rfl ?_
    refine pJ HT_ 5 22 rfl rfl ?_
    refine pJ HT_ 6 23 rfl rfl ?_
    refine take_ (i := 3) (N := some 20) (v := ?_) (a' := ?_) #[true, true, true, true, true, true, true, false, false, false] rfl rfl (take_ofW HT_.out HW_.out m7_q) (fun _ _ _ h => h) (Or.inl ⟨by rfl, ?_⟩) hHeld ?_ ?_
    rotate_left
    ·rintro w' ⟨s0, s1, s2, s3, s4, s5, s6, s7⟩
     go_simp
     with_reducible rfl
    rotate_left
    ·simp only [pS_q]
     rfl
    refine take_ (i := 7) (N := some 24) (v := ?_) (a' := ?_) #[true, true, true, true, true, true, true, true, false, false] rfl rfl (take_ofW HT_.out HW_.out m7_q) (fun _ _ _ h => h) (Or.inl ⟨by rfl, ?_⟩) hHeld ?_ ?_
    rotate_left
    ·rintro w' ⟨s0, s1, s2, s3, s4, s5, s6, s7⟩
     go_simp
     with_reducible rfl
    rotate_left
    ·simp only [pS_q]
     rfl
    refine one_ (i := 8) (N := some 25) #[true, true, true, true, true, true, true, true, true, false] rfl rfl (one_of HT_.out m7_q) (by decide) (fun K hK => ?_)
    refine goes_ Try.func41 m7_q rfl #[.agg #[.int .i64 ((rd_T63 l0 x5_1).f0), .int .i64 ((rd_T63 l0 x5_1).f1), .int .i64 ((rd_T63 l0 x5_1).f2), .slice A195_3 ((rd_T63 l0 x5_1).f3).length c195_3], .agg #[.int .i64 ((rd_T63 l1 x5_1).f0), .int .i64 ((rd_T63 l1 x5_1).f1), .int .i64 ((rd_T63 l1 x5_1).f2), .slice A196_3 ((rd_T63 l1 x5_1).f3).length c196_3]] (by rfl) rfl rfl m1_q ?_
    with_reducible refine (laws_eqStep.calls k1 ((rd_T63 l0 x5_1).f0) ((rd_T63 l0 x5_1).f1) ((rd_T63 l0 x5_1).f2) _ _ ((rd_T63 l0 x5_1).f3) ((rd_T63 l1 x5_1).f0) ((rd_T63 l1 x5_1).f1) ((rd_T63 l1 x5_1).f2) _ _ ((rd_T63 l1 x5_1).f3) true _ ?side1 ?side2 ?side3 ?side4 A7.out).mono ?_
    (case side1 => exact cup (cB_q HR195_3.out HB.out))
    (case side2 => exact HC195_3.out)
    (case side3 => exact cup (cB_q HR196_3.out HB.out))
    (case side4 => exact HC196_3.out)
    rintro e w' ⟨rfl, hb⟩
    refine ⟨_, rfl, ?_⟩
    replace HB := Ae_q (bT_q (bel HB.out) hb)
    (try clear hb)
    (try clear hb2)
    (try clear hk)
    (try clear hi)
    refine hK.out _ _ ⟨(cel HB.out hw195_0), (cel HB.out hw195_1), (cel HB.out hw195_2), (cel HB.out hw195_3), (cel HB.out hw196_0), (cel HB.out hw196_1), (cel HB.out hw196_2), (cel HB.out hw196_3)⟩ (fun hHeld => ?_)
    clear hK K
    refine nJ_q ?_
    refine pJ HT_ 9 26 rfl rfl ?_
    refine done_ (done_of HT_.out m7_q) ?_
    try go_wp2
    go_roundg k1
    case measure => have := HK1.out; omega
    case rel => exact ⟨(wrap64 (x5_1 + 1)), m5_q, H', ⟨m74_q⟩, ⟨bel HB.out⟩⟩
   replace c8 := fM_q.mpr c8
   subst c8
   have H1 : (some false) = some r := by rw [if_neg (show ¬ (false = true) by decide)] at H; exact H
   clear H
   have H := H1
   clear H1
   obtain rfl := oI_q H
   try go_wp2
   replace HB := Ae_q (bD_q HB.out)
   have p195 : 0 ≤ (x5_1 : Int) := oD_q (by assumption)
   have q195 : x5_1 < (l0.length : Int) := oD_q (by assumption)
   obtain ⟨ad195, A195_3, c195_3, e195, hx195_0, hx195_1, hx195_2, hx195_3, hl195_3, hi195_3⟩ := at_T63 HR0.out x5_1 p195 q195
   have hw195_3 := hx195_3
   have hw195_2 := hx195_2
   have hw195_1 := hx195_1
   have hw195_0 := hx195_0
   cases e195
   replace hx195_0 := cel HB.out hx195_0
   replace hx195_1 := cel HB.out hx195_1
   replace hx195_2 := cel HB.out hx195_2
   replace hx195_3 := cel HB.out hx195_3
   have HR195_3 := Ae_q hi195_3
   have HC195_3 := Ae_q hl195_3
   clear hi195_3 hl195_3
   replace p195 := eq_true p195
   replace q195 := eq_true q195
   have p196 : 0 ≤ (x5_1 : Int) := oD_q (by assumption)
   have q196 : x5_1 < (l1.length : Int) := oD_q (by assumption)
   obtain ⟨ad196, A196_3, c196_3, e196, hx196_0, hx196_1, hx196_2, hx196_3, hl196_3, hi196_3⟩ := at_T63 HR1.out x5_1 p196 q196
   have hw196_3 := hx196_3
   have hw196_2 := hx196_2
   have hw196_1 := hx196_1
   have hw196_0 := hx196_0
   cases e196
   replace hx196_0 := cel HB.out hx196_0
   replace hx196_1 := cel HB.out hx196_1
   replace hx196_2 := cel HB.out hx196_2
   replace hx196_3 := cel HB.out hx196_3
   have HR196_3 := Ae_q hi196_3
   have HC196_3 := Ae_q hl196_3
   clear hi196_3 hl196_3
   replace p196 := eq_true p196
   replace q196 := eq_true q196
   refine start_ (n := 10) (S := fun w' => w'.cell? (ad195.add ((x5_1).toNat * 4)) = some (.int .i64 ((rd_T63 l0 x5_1).f0)) ∧ w'.cell? ⟨(ad195.add ((x5_1).toNat * 4)).block, (ad195.add ((x5_1).toNat * 4)).off + 1, none⟩ = some (.int .i64 ((rd_T63 l0 x5_1).f1)) ∧ w'.cell? ⟨(ad195.add ((x5_1).toNat * 4)).block, (ad195.add ((x5_1).toNat * 4)).off + 2, none⟩ = some (.int .i64 ((rd_T63 l0 x5_1).f2)) ∧ w'.cell? ⟨(ad195.add ((x5_1).toNat * 4)).block, (ad195.add ((x5_1).toNat * 4)).off + 3, none⟩ = some (.slice A195_3 ((rd_T63 l0 x5_1).f3).length c195_3) ∧ w'.cell? (ad196.add ((x5_1).toNat * 4)) = some (.int .i64 ((rd_T63 l1 x5_1).f0)) ∧ w'.cell? ⟨(ad196.add ((x5_1).toNat * 4)).block, (ad196.add ((x5_1).toNat * 4)).off + 1, none⟩ = some (.int .i64 ((rd_T63 l1 x5_1).f1)) ∧ w'.cell? ⟨(ad196.add ((x5_1).toNat * 4)).block, (ad196.add ((x5_1).toNat * 4)).off + 2, none⟩ = some (.int .i64 ((rd_T63 l1 x5_1).f2)) ∧ w'.cell? ⟨(ad196.add ((x5_1).toNat * 4)).block, (ad196.add ((x5_1).toNat * 4)).off + 3, none⟩ = some (.slice A196_3 ((rd_T63 l1 x5_1).f3).length c196_3)) (ds := []) #[false, false, false, false, false, false, false, false, false, false] m7_q rfl rfl ⟨(cel HB.out hw195_0), (cel HB.out hw195_1), (cel HB.out hw195_2), (cel HB.out hw195_3), (cel HB.out hw196_0), (cel HB.out hw196_1), (cel HB.out hw196_2), (cel HB.out hw196_3)⟩ (fun hHeld => ?_); refine with_tabW laws_eqStepS.tab6 laws_eqStepS.bits6 (fun HT_ HW_ => ?_)
   generalize wr.drew = w11 at HB HR195_3 HR196_3 hx195_0 hx195_1 hx195_2 hx195_3 hx196_0 hx196_1 hx196_2 hx196_3 hHeld ⊢
   refine pJ HT_ 0 17 rfl rfl ?_
   refine pJ HT_ 1 18 rfl rfl ?_
   refine pJ HT_ 2 19 rfl rfl ?_
   refine pJ HT_ 4 21 rfl rfl ?_
   refine pJ HT_ 5 22 rfl rfl ?_
   refine pJ HT_ 6 23 rfl rfl ?_
   refine take_ (i := 3) (N := some 20) (v := ?_) (a' := ?_) #[true, true, true, true, true, true, true, false, false, false] rfl rfl (take_ofW HT_.out HW_.out m7_q) (fun _ _ _ h => h) (Or.inl ⟨by rfl, ?_⟩) hHeld ?_ ?_
   rotate_left
   ·rintro w' ⟨s0, s1, s2, s3, s4, s5, s6, s7⟩
    go_simp
    with_reducible rfl
   rotate_left
   ·simp only [pS_q]
    rfl
   refine take_ (i := 7) (N := some 24) (v := ?_) (a' := ?_) #[true, true, true, true, true, true, true, true, false, false] rfl rfl (take_ofW HT_.out HW_.out m7_q) (fun _ _ _ h => h) (Or.inl ⟨by rfl, ?_⟩) hHeld ?_ ?_
   rotate_left
   ·rintro w' ⟨s0, s1, s2, s3, s4, s5, s6, s7⟩
    go_simp
    with_reducible rfl
   rotate_left
   ·simp only [pS_q]
    rfl
   refine one_ (i := 8) (N := some 25) #[true, true, true, true, true, true, true, true, true, false] rfl rfl (one_of HT_.out m7_q) (by decide) (fun K hK => ?_)
   refine goes_ Try.func41 m7_q rfl #[.agg #[.int .i64 ((rd_T63 l0 x5_1).f0), .int .i64 ((rd_T63 l0 x5_1).f1), .int .i64 ((rd_T63 l0 x5_1).f2), .slice A195_3 ((rd_T63 l0 x5_1).f3).length c195_3], .agg #[.int .i64 ((rd_T63 l1 x5_1).f0), .int .i64 ((rd_T63 l1 x5_1).f1), .int .i64 ((rd_T63 l1 x5_1).f2), .slice A196_3 ((rd_T63 l1 x5_1).f3).length c196_3]] (by rfl) rfl rfl m1_q ?_
   with_reducible refine (laws_eqStep.calls k1 ((rd_T63 l0 x5_1).f0) ((rd_T63 l0 x5_1).f1) ((rd_T63 l0 x5_1).f2) _ _ ((rd_T63 l0 x5_1).f3) ((rd_T63 l1 x5_1).f0) ((rd_T63 l1 x5_1).f1) ((rd_T63 l1 x5_1).f2) _ _ ((rd_T63 l1 x5_1).f3) false _ ?side1 ?side2 ?side3 ?side4 A7.out).mono ?_
   (case side1 => exact cup (cB_q HR195_3.out HB.out))
   (case side2 => exact HC195_3.out)
   (case side3 => exact cup (cB_q HR196_3.out HB.out))
   (case side4 => exact HC196_3.out)
   rintro e w' ⟨rfl, hb⟩
   refine ⟨_, rfl, ?_⟩
   replace HB := Ae_q (bT_q (bel HB.out) hb)
   (try clear hb)
   (try clear hb2)
   (try clear hk)
   (try clear hi)
   refine hK.out _ _ ⟨(cel HB.out hw195_0), (cel HB.out hw195_1), (cel HB.out hw195_2), (cel HB.out hw195_3), (cel HB.out hw196_0), (cel HB.out hw196_1), (cel HB.out hw196_2), (cel HB.out hw196_3)⟩ (fun hHeld => ?_)
   clear hK K
   refine nJ_q ?_
   refine pJ HT_ 9 26 rfl rfl ?_
   refine done_ (done_of HT_.out m7_q) ?_
   try go_wp2
   go_ret
   exact ⟨m4_q, bel HB.out⟩

def laws_markIntS.l0 : Nat → List Int → Int → Int → Option (Int × List Int)
 | 0, _, _, _ => none
 | k + 1, x0, x1, x5 => if x5 < (x0.length : Int) then (if 0 ≤ x5 then (laws_markIntS.l0 k (x0.set (x5 : Int).toNat x1) (wrap64 (x1 + 1)) (wrap64 (x5 + 1))) else (none)) else (some (x1, x0))
def laws_markIntS.f (k : Nat) (l0 : List Int) (a1 : Int) : Option (Int × List Int) := laws_markIntS.l0 k l0 a1 0
set_option maxHeartbeats 8000000 in
set_option maxRecDepth 100000 in
theorem laws_markIntS.calls (k : Nat) (P0_ : Nat → Prop) (u9000_ : Value) (l0 : List Int) (a1 : Int) (r1 : Int) (r2 : List Int) (w0 w : World) (hB : Below w0.heap.size w0 w) (ho0 : Kd.R kI_q 3 w w0.heap.size P0_ u9000_ l0) (h : laws_markIntS.f k l0 a1 = some (r1, r2)) :
    Calls Try.prog 19 #[u9000_, .int .i64 a1] w fun e w' => e = .returned (.int .i64 r1) ∧ Kd.R kI_q 3 w' w0.heap.size (fun k_ => (P0_ k_ ∨ w.heap.size ≤ k_)) u9000_ r2 ∧ Below w0.heap.size w0 w' ∧ Kept w w' (fun k_ => P0_ k_) := by
 have HO0 := Ae_q (show Kd.R kI_q 3 w w0.heap.size (fun k_ => (P0_ k_ ∨ w.heap.size ≤ k_)) u9000_ l0 from rM_q ho0 (fun k_ hk => (.inl hk)))
 have HK := Ae_q (Kept.refl w (fun k_ => P0_ k_))
 have HW0 := Ae_q hB.size
 have HB := Ae_q hB
 clear hB
 have H : (laws_markIntS.l0 k l0 a1 0) = some (r1, r2) := h
 clear h
 have H' := Ae_q H
 clear H
 go_enter Try.func19, Try.ntmps19
 go_wp2
 go_loopg [1, 5] k (fun kq v1 v5 w' => ∃ (x0_1 : List Int) (x1_1 : Int) (x5_1 : Int), v1 = .int .i64 x1_1 ∧ v5 = .int .i64 x5_1 ∧ Aside0 (laws_markIntS.l0 kq x0_1 x1_1 x5_1 = some (r1, r2)) ∧ Aside0 (kq ≤ k) ∧ Aside0 (Kd.R kI_q 3 w' w0.heap.size (fun k_ => (P0_ k_ ∨ w.heap.size ≤ k_)) u9000_ x0_1) ∧ Aside0 (Kept w w' (fun k_ => P0_ k_)) ∧ Aside0 (Below w0.heap.size w0 w'))
 case atStart => exact ⟨(l0), (a1), (0), m5_q, m5_q, H', ⟨nR_q _⟩, ⟨rup HO0.out⟩, ⟨m59_q⟩, ⟨bel HB.out⟩⟩
 case round =>
  clear H'
  try clear c1
  try clear p2
  obtain ⟨x0_1, x1_1, x5_1, rfl, rfl, HA, HK1, HO_0, HK, HB⟩ := hrel
  cases gk with
  | zero => exact absurd HA.out (by simp [laws_markIntS.l0])
  | succ k1 =>
   have H := HA.out
   clear HA
   simp only [laws_markIntS.l0] at H
   by_cases c3 : x5_1 < (x0_1.length : Int)
   rotate_left
   ·rw [if_neg c3] at H
    have c3b0 : decide (x5_1 < (x0_1.length : Int)) = false := dF_q c3
    clear c3
    simp only [oE_q, pE_q] at H
    obtain ⟨rfl, rfl⟩ := H
    obtain ⟨Ao9, co9, eo9⟩ := rS_q HO_0.out
    subst eo9
    go_wp2
    go_ret
    exact ⟨m4_q, rup HO_0.out, bel HB.out, m59_q⟩
   rw [if_pos c3] at H
   have c3b0 : decide (x5_1 < (x0_1.length : Int)) = true := dT_q c3
   clear c3
   by_cases c4 : 0 ≤ x5_1
   rotate_left
   ·rw [if_neg c4] at H
    exact absurd H (by simp)
   rw [if_pos c4] at H
   have c4b0 : decide (0 ≤ x5_1) = true := dT_q c4
   clear c4
   obtain ⟨y198, hy198⟩ : ∃ y_ : List Int, y_ = (x0_1.set (x5_1 : Int).toNat x1_1) := ⟨_, rfl⟩
   replace H : (laws_markIntS.l0 k1 y198 (wrap64 (x1_1 + 1)) (wrap64 (x5_1 + 1))) = some (r1, r2) := by first | (rw [hy198]; with_reducible exact H) | (have H2_ := (oS_q _ _).symm.trans H; rw [hy198]; with_reducible exact H2_) | (have H2_ := (oS_q _ _).symm.trans H; with_reducible exact H2_) | with_reducible exact H | (rw [hy198]; exact H) | exact H
   have Ny198 := Ae_q hy198
   clear hy198
   have H' := Ae_q H
   clear H
   obtain ⟨Ao6, co6, eo6⟩ := rS_q HO_0.out
   subst eo6
   have p5 : 0 ≤ (x5_1 : Int) := oD_q (by assumption)
   have q5 : (x5_1 : Int) < ((x0_1.length : Int) : Int) := oD_q (by assumption)
   obtain ⟨go5, co5, eo5, gb5, gl5, cl5, HG5⟩ := Kd.R_form HO_0.out (by omega)
   (first | cases eo5 | (injection eo5 with ea_ en_ ec_; (first | subst ea_ | (injection ea_ with ea_; subst ea_)); subst ec_; clear en_))
   have GB5 := Ae_q gb5
   have GG5 := Ae_q HG5
   clear gb5 gl5 HG5
   have HMgo5 := Ae_q (show (P0_ go5 ∨ w.heap.size ≤ go5) from (HO_0.out.1 _ rfl))
   obtain ⟨hx5_0, hf5_0⟩ := Kd.R_celln 0 HO_0.out (x5_1 : Int) p5 q5
   replace p5 := eq_true p5
   replace q5 := eq_true q5
   have HP7 := Kd.R_putg HO_0.out (x5_1 : Int) x1_1
   go_wp2_with (first | ((with_reducible refine gate_store (t := 3) (p := 15) rfl ?_); refine store_event (t := 3) (p := 15) (v := ?vo_w8) (w1 := (wr.setCell ⟨go5, (x5_1 : Int).toNat, none⟩ (.int .i64 x1_1))) ?hg ?ho ?hn ?hr ?_; (case ho => rfl); (case hg => rfl); (case hn => rfl); (case hr => exact m6_q); intro w8 hw; have hg : wr.grownBy w8 (some go5) := (by rw [hw]; exact HP7.2); have hp_ : Kd.R kI_q 3 w8 w0.heap.size (fun k_ => (P0_ k_ ∨ w.heap.size ≤ k_)) (.slice (some ⟨go5, 0, none⟩) x0_1.length co6) y198 := (by rw [hw, Ny198.out]; exact HP7.1); clear HP7; replace HB := Ae_q ((by rw [hw]; exact bS_q (HB.out) GB5.out : Below w0.heap.size w0 w8)); replace HK := Ae_q (Kept.of_grown (S := (fun k_ => P0_ k_)) hg m59_q (fun k_ e_ => (HO_0.out.1 k_ e_))); replace HO_0 := Ae_q (hp_); clear hg hw hp_))
   go_roundg k1
   case measure => have := HK1.out; omega
   case rel => exact ⟨(y198), (wrap64 (x1_1 + 1)), (wrap64 (x5_1 + 1)), m5_q, m5_q, H', ⟨m74_q⟩, ⟨rup HO_0.out⟩, ⟨m59_q⟩, ⟨bel HB.out⟩⟩

end Go.Proofs.Ytfnpiacmlahegaa.PRp
