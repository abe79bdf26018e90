import Derived.Test.YtjnagefogjkbbaaVbPPlx0
import Derived.Test.YtjnagefogjkbbaaVbPPlx1
namespace Go.Proofs.Ytjnagefogjkbbaa.PPl
open Go.RowKit Go.Proofs.YtjnagefogjkbbaaW.PrintWords Go.Proofs.YtjnagefogjkbbaaW.PrintLast Go.Proofs.YtjnagefogjkbbaaW.PrintMore
attribute [local go_sem] max2_int min2_int max_two min_two max_three min_three max_four min_four
set_option linter.unusedVariables false
set_option linter.unusedSimpArgs false

def spec_l33Outage.f (a0_0 : Int) (a0_1 : Int) (a0_2 : Int) : Option (Bool) := (spec_l6In.f a0_0 1 4).bind fun t419 => (if t419 = true then ((spec_l6In.f a0_1 0 999).bind fun t420 => (if t420 = true then ((spec_l6In.f a0_2 a0_1 999).bind fun t421 => (some t421)) else (some false))) else (some false))
set_option maxHeartbeats 8000000 in
set_option maxRecDepth 100000 in
theorem spec_l33Outage.calls (a0_0 : Int) (a0_1 : Int) (a0_2 : Int) (r : Bool) (w : World) (h : spec_l33Outage.f a0_0 a0_1 a0_2 = some r) :
    Calls Try.prog 32 #[.agg #[.int .i64 a0_0, .int .i64 a0_1, .int .i64 a0_2]] w fun e w' => e = .returned (.bool r) ∧ Below w.heap.size w w' := by
 have hu45 := Try.underlying45
 have HB := Ae_q (bR_q w.heap.size w)
 have H : ((spec_l6In.f a0_0 1 4).bind fun t419 => (if t419 = true then ((spec_l6In.f a0_1 0 999).bind fun t420 => (if t420 = true then ((spec_l6In.f a0_2 a0_1 999).bind fun t421 => (some t421)) else (some false))) else (some false))) = some r := h
 clear h
 replace H := oB_q.mp H
 obtain ⟨t419, A20, H⟩ := H
 replace H : (if t419 = true then ((spec_l6In.f a0_1 0 999).bind fun t420 => (if t420 = true then ((spec_l6In.f a0_2 a0_1 999).bind fun t421 => (some t421)) else (some false))) else (some false)) = some r := H
 have A2 := Ae_q A20
 clear A20
 by_cases c3 : t419 = true
 ·subst c3
  have H1 : ((spec_l6In.f a0_1 0 999).bind fun t420 => (if t420 = true then ((spec_l6In.f a0_2 a0_1 999).bind fun t421 => (some t421)) else (some false))) = some r := by rw [if_pos rfl] at H; exact H
  clear H
  have H := H1
  clear H1
  replace H := oB_q.mp H
  obtain ⟨t420, A40, H⟩ := H
  replace H : (if t420 = true then ((spec_l6In.f a0_2 a0_1 999).bind fun t421 => (some t421)) else (some false)) = some r := H
  have A4 := Ae_q A40
  clear A40
  by_cases c5 : t420 = true
  ·subst c5
   have H1 : ((spec_l6In.f a0_2 a0_1 999).bind fun t421 => (some t421)) = some r := by rw [if_pos rfl] at H; exact H
   clear H
   have H := H1
   clear H1
   replace H := oB_q.mp H
   obtain ⟨t421, A60, H⟩ := H
   replace H : (some t421) = some r := H
   have A6 := Ae_q A60
   clear A60
   obtain rfl := oI_q H
   go_enter Try.func32, Try.ntmps32
   go_wp2_with (first | ((with_reducible refine gD_q (N := 1) rfl ?_); refine bE_q ?hg (N := 1) ?hd (cs := #[.int .i64 a0_0, .int .i64 a0_1, .int .i64 a0_2]) (t := 45) ?hr ?_; (case hd => rfl); (case hg => rfl); (case hr => first | (go_simp; done) | (go_simp; rfl)); intro gb418 hg w7 hbox hb; have n0_ := Ae_q (bT_q (bel HB.out) hb); have n1_ := Ae_q (hbox); have n2_ := Ae_q ((by rw [hg]; exact (bZ_q (bel HB.out)) : w.heap.size ≤ gb418)); have n3_ := Ae_q ((by rw [hg]; exact (bZ_q (bel HB.out)) : w.heap.size ≤ gb418)); clear HB; have HB := n0_; have BK418 := n1_; have GW418 := n2_; have GE418 := n3_; clear n0_ n1_ n2_ n3_; clear hb hbox hg; have hcz8_0 : w7.cell? ⟨gb418, 0, none⟩ = some (.int .i64 a0_0) := (bC_q BK418.out 0).trans rfl; have hcz8_1 : w7.cell? ⟨gb418, 1, none⟩ = some (.int .i64 a0_1) := (bC_q BK418.out 1).trans rfl; have hcz8_2 : w7.cell? ⟨gb418, 2, none⟩ = some (.int .i64 a0_2) := (bC_q BK418.out 2).trans rfl; have hfz8_0 := bF_q BK418.out 0; have hfz8_1 := bF_q BK418.out 1; have hfz8_2 := bF_q BK418.out 2) | ((with_reducible refine gC_q (f := 19) rfl ?_); refine gL_q (some 5) rfl rfl Try.func19 (by kernel_rfl) rfl #[.int .i64 a0_0, .int .i64 1, .int .i64 4] rfl (by (try simp only [lM_q, lC_q, lN_q]); first | done | rfl | (simp only [lD_q, lT_q]; rfl)) ?_; (with_reducible refine (spec_l6In.calls a0_0 1 4 true _ A2.out).mono ?_); rintro e w' ⟨rfl, ⟨nd, rfl⟩⟩; refine ⟨_, rfl, ?_⟩) | (go_at_call 19; (with_reducible refine (spec_l6In.calls a0_1 0 999 true _ A4.out).mono ?_); rintro e w' ⟨rfl, ⟨nd, rfl⟩⟩) | (go_at_call 19; (with_reducible refine (spec_l6In.calls a0_2 a0_1 999 t421 _ A6.out).mono ?_); rintro e w' ⟨rfl, ⟨nd, rfl⟩⟩))
   go_ret
   exact ⟨by first | rfl | (simp [eN_q, eS_q] <;> rfl) | (simp [*, eN_q, eS_q] <;> rfl), by repeat (with_reducible first | exact HB.out | apply bA_q | apply pB_q | apply bD_q | refine bS_q ?_ GE418.out)⟩
  replace c5 := fM_q.mpr c5
  subst c5
  have H1 : (some false) = some r := by rw [if_neg (show ¬ (false = true) by decide)] at H; exact H
  clear H
  have H := H1
  clear H1
  obtain rfl := oI_q H
  go_enter Try.func32, Try.ntmps32
  go_wp2_with (first | ((with_reducible refine gD_q (N := 1) rfl ?_); refine bE_q ?hg (N := 1) ?hd (cs := #[.int .i64 a0_0, .int .i64 a0_1, .int .i64 a0_2]) (t := 45) ?hr ?_; (case hd => rfl); (case hg => rfl); (case hr => first | (go_simp; done) | (go_simp; rfl)); intro gb418 hg w9 hbox hb; have n0_ := Ae_q (bT_q (bel HB.out) hb); have n1_ := Ae_q (hbox); have n2_ := Ae_q ((by rw [hg]; exact (bZ_q (bel HB.out)) : w.heap.size ≤ gb418)); have n3_ := Ae_q ((by rw [hg]; exact (bZ_q (bel HB.out)) : w.heap.size ≤ gb418)); clear HB; have HB := n0_; have BK418 := n1_; have GW418 := n2_; have GE418 := n3_; clear n0_ n1_ n2_ n3_; clear hb hbox hg; have hcz10_0 : w9.cell? ⟨gb418, 0, none⟩ = some (.int .i64 a0_0) := (bC_q BK418.out 0).trans rfl; have hcz10_1 : w9.cell? ⟨gb418, 1, none⟩ = some (.int .i64 a0_1) := (bC_q BK418.out 1).trans rfl; have hcz10_2 : w9.cell? ⟨gb418, 2, none⟩ = some (.int .i64 a0_2) := (bC_q BK418.out 2).trans rfl; have hfz10_0 := bF_q BK418.out 0; have hfz10_1 := bF_q BK418.out 1; have hfz10_2 := bF_q BK418.out 2) | ((with_reducible refine gC_q (f := 19) rfl ?_); refine gL_q (some 5) rfl rfl Try.func19 (by kernel_rfl) rfl #[.int .i64 a0_0, .int .i64 1, .int .i64 4] rfl (by (try simp only [lM_q, lC_q, lN_q]); first | done | rfl | (simp only [lD_q, lT_q]; rfl)) ?_; (with_reducible refine (spec_l6In.calls a0_0 1 4 true _ A2.out).mono ?_); rintro e w' ⟨rfl, ⟨nd, rfl⟩⟩; refine ⟨_, rfl, ?_⟩) | (go_at_call 19; (with_reducible refine (spec_l6In.calls a0_1 0 999 false _ A4.out).mono ?_); rintro e w' ⟨rfl, ⟨nd, rfl⟩⟩))
  go_ret
  exact ⟨by first | rfl | (simp [eN_q, eS_q] <;> rfl) | (simp [*, eN_q, eS_q] <;> rfl), by repeat (with_reducible first | exact HB.out | apply bA_q | apply pB_q | apply bD_q | refine bS_q ?_ GE418.out)⟩
 replace c3 := fM_q.mpr c3
 subst c3
 have H1 : (some false) = some r := by rw [if_neg (show ¬ (false = true) by decide)] at H; exact H
 clear H
 have H := H1
 clear H1
 obtain rfl := oI_q H
 go_enter Try.func32, Try.ntmps32
 go_wp2_with (first | ((with_reducible refine gD_q (N := 1) rfl ?_); refine bE_q ?hg (N := 1) ?hd (cs := #[.int .i64 a0_0, .int .i64 a0_1, .int .i64 a0_2]) (t := 45) ?hr ?_; (case hd => rfl); (case hg => rfl); (case hr => first | (go_simp; done) | (go_simp; rfl)); intro gb418 hg w11 hbox hb; have n0_ := Ae_q (bT_q (bel HB.out) hb); have n1_ := Ae_q (hbox); have n2_ := Ae_q ((by rw [hg]; exact (bZ_q (bel HB.out)) : w.heap.size ≤ gb418)); have n3_ := Ae_q ((by rw [hg]; exact (bZ_q (bel HB.out)) : w.heap.size ≤ gb418)); clear HB; have HB := n0_; have BK418 := n1_; have GW418 := n2_; have GE418 := n3_; clear n0_ n1_ n2_ n3_; clear hb hbox hg; have hcz12_0 : w11.cell? ⟨gb418, 0, none⟩ = some (.int .i64 a0_0) := (bC_q BK418.out 0).trans rfl; have hcz12_1 : w11.cell? ⟨gb418, 1, none⟩ = some (.int .i64 a0_1) := (bC_q BK418.out 1).trans rfl; have hcz12_2 : w11.cell? ⟨gb418, 2, none⟩ = some (.int .i64 a0_2) := (bC_q BK418.out 2).trans rfl; have hfz12_0 := bF_q BK418.out 0; have hfz12_1 := bF_q BK418.out 1; have hfz12_2 := bF_q BK418.out 2) | ((with_reducible refine gC_q (f := 19) rfl ?_); refine gL_q (some 5) rfl rfl Try.func19 (by kernel_rfl) rfl #[.int .i64 a0_0, .int .i64 1, .int .i64 4] rfl (by (try simp only [lM_q, lC_q, lN_q]); first | done | rfl | (simp only [lD_q, lT_q]; rfl)) ?_; (with_reducible refine (spec_l6In.calls a0_0 1 4 false _ A2.out).mono ?_); rintro e w' ⟨rfl, ⟨nd, rfl⟩⟩; refine ⟨_, rfl, ?_⟩))
 go_ret
 exact ⟨by first | rfl | (simp [eN_q, eS_q] <;> rfl) | (simp [*, eN_q, eS_q] <;> rfl), by repeat (with_reducible first | exact HB.out | apply bA_q | apply pB_q | apply bD_q | refine bS_q ?_ GE418.out)⟩

def spec_l33Hit.f (a0_0 : Int) (a0_1 : Int) (a0_2 : Int) (l0_3 : List Int) (a1 : Int) (a2_0 : Int) (a2_1 : Int) (a2_2 : Int) : Option (Bool) := if a0_2 = a2_0 then (if a1 < a2_2 then (some (decide (a2_1 < (wrap64 (a1 + a0_0))))) else (some false)) else (some false)
set_option maxHeartbeats 8000000 in
set_option maxRecDepth 100000 in
theorem spec_l33Hit.calls (a0_0 : Int) (a0_1 : Int) (a0_2 : Int) (A0_3 : Option Addr) (c0_3 : Nat) (l0_3 : List Int) (a1 : Int) (a2_0 : Int) (a2_1 : Int) (a2_2 : Int) (r : Bool) (w : World) (hr0_3 : Kd.C kI_q w A0_3 l0_3.length l0_3) (hc0_3 : l0_3.length ≤ c0_3) (h : spec_l33Hit.f a0_0 a0_1 a0_2 l0_3 a1 a2_0 a2_1 a2_2 = some r) :
    Calls Try.prog 34 #[.agg #[.int .i64 a0_0, .int .i64 a0_1, .int .i64 a0_2, .slice A0_3 l0_3.length c0_3], .int .i64 a1, .agg #[.int .i64 a2_0, .int .i64 a2_1, .int .i64 a2_2]] w fun e w' => e = .returned (.bool r) ∧ Below w.heap.size w w' := by
 have hu59 := Try.underlying59
 have hu45 := Try.underlying45
 have HR0_3 := Ae_q hr0_3
 have HC0_3 := Ae_q hc0_3
 clear hr0_3 hc0_3
 have HB := Ae_q (bR_q w.heap.size w)
 have H : (if a0_2 = a2_0 then (if a1 < a2_2 then (some (decide (a2_1 < (wrap64 (a1 + a0_0))))) else (some false)) else (some false)) = some r := h
 clear h
 by_cases c4 : a0_2 = a2_0
 ·rw [if_pos c4] at H
  have c4b0 : (a0_2 == a2_0) = true := beq_iff_eq.mpr c4
  have c4b1 : (a0_2 != a2_0) = false := nE_q.mpr c4
  clear c4
  by_cases c5 : a1 < a2_2
  ·rw [if_pos c5] at H
   have c5b0 : decide (a1 < a2_2) = true := dT_q c5
   clear c5
   obtain rfl := oI_q H
   go_enter Try.func34, Try.ntmps34
   go_wp2_with (first | ((with_reducible refine gD_q (N := 3) rfl ?_); refine bE_q ?hg (N := 3) ?hd (cs := #[.int .i64 a0_0, .int .i64 a0_1, .int .i64 a0_2, .slice A0_3 l0_3.length c0_3]) (t := 59) ?hr ?_; (case hd => rfl); (case hg => rfl); (case hr => first | (go_simp; done) | (go_simp; rfl)); intro gb422 hg w6 hbox hb; have n0_ := Ae_q (bT_q (bel HB.out) hb); have n1_ := Ae_q (hbox); have n2_ := Ae_q ((by rw [hg]; exact (bZ_q (bel HB.out)) : w.heap.size ≤ gb422)); have n3_ := Ae_q ((by rw [hg]; exact (bZ_q (bel HB.out)) : w.heap.size ≤ gb422)); clear HB; have HB := n0_; have BK422 := n1_; have GW422 := n2_; have GE422 := n3_; clear n0_ n1_ n2_ n3_; clear hb hbox hg) | ((with_reducible refine gD_q (N := 5) rfl ?_); refine bE_q ?hg (N := 5) ?hd (cs := #[.int .i64 a2_0, .int .i64 a2_1, .int .i64 a2_2]) (t := 45) ?hr ?_; (case hd => rfl); (case hg => rfl); (case hr => first | (go_simp; done) | (go_simp; rfl)); intro gb423 hg w7 hbox hb; have n0_ := Ae_q (bB_q (g := gb422) (o := .cells #[.int .i64 a0_0, .int .i64 a0_1, .int .i64 a0_2, .slice A0_3 l0_3.length c0_3] 59 (0, 0)) (bup BK422.out) hb); have n1_ := Ae_q (bT_q (by repeat (with_reducible first | exact HB.out | apply bA_q | apply pB_q | apply bD_q | refine bS_q ?_ GE422.out)) hb); have n2_ := Ae_q (hbox); have n3_ := Ae_q ((by rw [hg]; exact (bZ_q (by repeat (with_reducible first | exact HB.out | apply bA_q | apply pB_q | apply bD_q | refine bS_q ?_ GE422.out))) : w.heap.size ≤ gb423)); have n4_ := Ae_q ((by rw [hg]; exact (bZ_q (by repeat (with_reducible first | exact HB.out | apply bA_q | apply pB_q | apply bD_q | refine bS_q ?_ GE422.out))) : w.heap.size ≤ gb423)); have n5_ := Ae_q ((by rw [hg]; exact nL_q (blk_lt (g := gb422) (o := .cells #[.int .i64 a0_0, .int .i64 a0_1, .int .i64 a0_2, .slice A0_3 l0_3.length c0_3] 59 (0, 0)) (bup BK422.out)) : gb422 ≠ gb423)); have n6_ := Ae_q ((by rw [hg]; exact nG_q (blk_lt (g := gb422) (o := .cells #[.int .i64 a0_0, .int .i64 a0_1, .int .i64 a0_2, .slice A0_3 l0_3.length c0_3] 59 (0, 0)) (bup BK422.out)) : gb423 ≠ gb422)); clear BK422; clear HB; have BK422 := n0_; have HB := n1_; have BK423 := n2_; have GW423 := n3_; have GE423 := n4_; have NB422_423 := n5_; have NB423_422 := n6_; clear n0_ n1_ n2_ n3_ n4_ n5_ n6_; clear hb hbox hg; have hnb8 := NB422_423.out; have hnc8 := NB423_422.out; have hcz9_0 : w7.cell? ⟨gb422, 0, none⟩ = some (.int .i64 a0_0) := (bC_q BK422.out 0).trans rfl; have hcz9_1 : w7.cell? ⟨gb422, 1, none⟩ = some (.int .i64 a0_1) := (bC_q BK422.out 1).trans rfl; have hcz9_2 : w7.cell? ⟨gb422, 2, none⟩ = some (.int .i64 a0_2) := (bC_q BK422.out 2).trans rfl; have hcz9_3 : w7.cell? ⟨gb422, 3, none⟩ = some (.slice A0_3 l0_3.length c0_3) := (bC_q BK422.out 3).trans rfl; have hfz9_0 := bF_q BK422.out 0; have hfz9_1 := bF_q BK422.out 1; have hfz9_2 := bF_q BK422.out 2; have hfz9_3 := bF_q BK422.out 3; have hcz10_0 : w7.cell? ⟨gb423, 0, none⟩ = some (.int .i64 a2_0) := (bC_q BK423.out 0).trans rfl; have hcz10_1 : w7.cell? ⟨gb423, 1, none⟩ = some (.int .i64 a2_1) := (bC_q BK423.out 1).trans rfl; have hcz10_2 : w7.cell? ⟨gb423, 2, none⟩ = some (.int .i64 a2_2) := (bC_q BK423.out 2).trans rfl; have hfz10_0 := bF_q BK423.out 0; have hfz10_1 := bF_q BK423.out 1; have hfz10_2 := bF_q BK423.out 2))
   go_ret
   exact ⟨by first | rfl | (simp [eN_q, eS_q] <;> rfl) | (simp [*, eN_q, eS_q] <;> rfl), by repeat (with_reducible first | exact HB.out | apply bA_q | apply pB_q | apply bD_q | refine bS_q ?_ GE422.out | refine bS_q ?_ GE423.out)⟩
  rw [if_neg c5] at H
  have c5b0 : decide (a1 < a2_2) = false := dF_q c5
  clear c5
  obtain rfl := oI_q H
  go_enter Try.func34, Try.ntmps34
  go_wp2_with (first | ((with_reducible refine gD_q (N := 3) rfl ?_); refine bE_q ?hg (N := 3) ?hd (cs := #[.int .i64 a0_0, .int .i64 a0_1, .int .i64 a0_2, .slice A0_3 l0_3.length c0_3]) (t := 59) ?hr ?_; (case hd => rfl); (case hg => rfl); (case hr => first | (go_simp; done) | (go_simp; rfl)); intro gb422 hg w11 hbox hb; have n0_ := Ae_q (bT_q (bel HB.out) hb); have n1_ := Ae_q (hbox); have n2_ := Ae_q ((by rw [hg]; exact (bZ_q (bel HB.out)) : w.heap.size ≤ gb422)); have n3_ := Ae_q ((by rw [hg]; exact (bZ_q (bel HB.out)) : w.heap.size ≤ gb422)); clear HB; have HB := n0_; have BK422 := n1_; have GW422 := n2_; have GE422 := n3_; clear n0_ n1_ n2_ n3_; clear hb hbox hg) | ((with_reducible refine gD_q (N := 5) rfl ?_); refine bE_q ?hg (N := 5) ?hd (cs := #[.int .i64 a2_0, .int .i64 a2_1, .int .i64 a2_2]) (t := 45) ?hr ?_; (case hd => rfl); (case hg => rfl); (case hr => first | (go_simp; done) | (go_simp; rfl)); intro gb423 hg w12 hbox hb; have n0_ := Ae_q (bB_q (g := gb422) (o := .cells #[.int .i64 a0_0, .int .i64 a0_1, .int .i64 a0_2, .slice A0_3 l0_3.length c0_3] 59 (0, 0)) (bup BK422.out) hb); have n1_ := Ae_q (bT_q (by repeat (with_reducible first | exact HB.out | apply bA_q | apply pB_q | apply bD_q | refine bS_q ?_ GE422.out)) hb); have n2_ := Ae_q (hbox); have n3_ := Ae_q ((by rw [hg]; exact (bZ_q (by repeat (with_reducible first | exact HB.out | apply bA_q | apply pB_q | apply bD_q | refine bS_q ?_ GE422.out))) : w.heap.size ≤ gb423)); have n4_ := Ae_q ((by rw [hg]; exact (bZ_q (by repeat (with_reducible first | exact HB.out | apply bA_q | apply pB_q | apply bD_q | refine bS_q ?_ GE422.out))) : w.heap.size ≤ gb423)); have n5_ := Ae_q ((by rw [hg]; exact nL_q (blk_lt (g := gb422) (o := .cells #[.int .i64 a0_0, .int .i64 a0_1, .int .i64 a0_2, .slice A0_3 l0_3.length c0_3] 59 (0, 0)) (bup BK422.out)) : gb422 ≠ gb423)); have n6_ := Ae_q ((by rw [hg]; exact nG_q (blk_lt (g := gb422) (o := .cells #[.int .i64 a0_0, .int .i64 a0_1, .int .i64 a0_2, .slice A0_3 l0_3.length c0_3] 59 (0, 0)) (bup BK422.out)) : gb423 ≠ gb422)); clear BK422; clear HB; have BK422 := n0_; have HB := n1_; have BK423 := n2_; have GW423 := n3_; have GE423 := n4_; have NB422_423 := n5_; have NB423_422 := n6_; clear n0_ n1_ n2_ n3_ n4_ n5_ n6_; clear hb hbox hg; have hnb13 := NB422_423.out; have hnc13 := NB423_422.out; have hcz14_0 : w12.cell? ⟨gb422, 0, none⟩ = some (.int .i64 a0_0) := (bC_q BK422.out 0).trans rfl; have hcz14_1 : w12.cell? ⟨gb422, 1, none⟩ = some (.int .i64 a0_1) := (bC_q BK422.out 1).trans rfl; have hcz14_2 : w12.cell? ⟨gb422, 2, none⟩ = some (.int .i64 a0_2) := (bC_q BK422.out 2).trans rfl; have hcz14_3 : w12.cell? ⟨gb422, 3, none⟩ = some (.slice A0_3 l0_3.length c0_3) := (bC_q BK422.out 3).trans rfl; have hfz14_0 := bF_q BK422.out 0; have hfz14_1 := bF_q BK422.out 1; have hfz14_2 := bF_q BK422.out 2; have hfz14_3 := bF_q BK422.out 3; have hcz15_0 : w12.cell? ⟨gb423, 0, none⟩ = some (.int .i64 a2_0) := (bC_q BK423.out 0).trans rfl; have hcz15_1 : w12.cell? ⟨gb423, 1, none⟩ = some (.int .i64 a2_1) := (bC_q BK423.out 1).trans rfl; have hcz15_2 : w12.cell? ⟨gb423, 2, none⟩ = some (.int .i64 a2_2) := (bC_q BK423.out 2).trans rfl; have hfz15_0 := bF_q BK423.out 0; have hfz15_1 := bF_q BK423.out 1; have hfz15_2 := bF_q BK423.out 2))
  go_ret
  exact ⟨by first | rfl | (simp [eN_q, eS_q] <;> rfl) | (simp [*, eN_q, eS_q] <;> rfl), by repeat (with_reducible first | exact HB.out | apply bA_q | apply pB_q | apply bD_q | refine bS_q ?_ GE422.out | refine bS_q ?_ GE423.out)⟩
 rw [if_neg c4] at H
 have c4b0 : (a0_2 == a2_0) = false := fN_q.mpr c4
 have c4b1 : (a0_2 != a2_0) = true := nI_q.mpr c4
 obtain rfl := oI_q H
 go_enter Try.func34, Try.ntmps34
 go_wp2_with (first | ((with_reducible refine gD_q (N := 3) rfl ?_); refine bE_q ?hg (N := 3) ?hd (cs := #[.int .i64 a0_0, .int .i64 a0_1, .int .i64 a0_2, .slice A0_3 l0_3.length c0_3]) (t := 59) ?hr ?_; (case hd => rfl); (case hg => rfl); (case hr => first | (go_simp; done) | (go_simp; rfl)); intro gb422 hg w16 hbox hb; have n0_ := Ae_q (bT_q (bel HB.out) hb); have n1_ := Ae_q (hbox); have n2_ := Ae_q ((by rw [hg]; exact (bZ_q (bel HB.out)) : w.heap.size ≤ gb422)); have n3_ := Ae_q ((by rw [hg]; exact (bZ_q (bel HB.out)) : w.heap.size ≤ gb422)); clear HB; have HB := n0_; have BK422 := n1_; have GW422 := n2_; have GE422 := n3_; clear n0_ n1_ n2_ n3_; clear hb hbox hg) | ((with_reducible refine gD_q (N := 5) rfl ?_); refine bE_q ?hg (N := 5) ?hd (cs := #[.int .i64 a2_0, .int .i64 a2_1, .int .i64 a2_2]) (t := 45) ?hr ?_; (case hd => rfl); (case hg => rfl); (case hr => first | (go_simp; done) | (go_simp; rfl)); intro gb423 hg w17 hbox hb; have n0_ := Ae_q (bB_q (g := gb422) (o := .cells #[.int .i64 a0_0, .int .i64 a0_1, .int .i64 a0_2, .slice A0_3 l0_3.length c0_3] 59 (0, 0)) (bup BK422.out) hb); have n1_ := Ae_q (bT_q (by repeat (with_reducible first | exact HB.out | apply bA_q | apply pB_q | apply bD_q | refine bS_q ?_ GE422.out)) hb); have n2_ := Ae_q (hbox); have n3_ := Ae_q ((by rw [hg]; exact (bZ_q (by repeat (with_reducible first | exact HB.out | apply bA_q | apply pB_q | apply bD_q | refine bS_q ?_ GE422.out))) : w.heap.size ≤ gb423)); have n4_ := Ae_q ((by rw [hg]; exact (bZ_q (by repeat (with_reducible first | exact HB.out | apply bA_q | apply pB_q | apply bD_q | refine bS_q ?_ GE422.out))) : w.heap.size ≤ gb423)); have n5_ := Ae_q ((by rw [hg]; exact nL_q (blk_lt (g := gb422) (o := .cells #[.int .i64 a0_0, .int .i64 a0_1, .int .i64 a0_2, .slice A0_3 l0_3.length c0_3] 59 (0, 0)) (bup BK422.out)) : gb422 ≠ gb423)); have n6_ := Ae_q ((by rw [hg]; exact nG_q (blk_lt (g := gb422) (o := .cells #[.int .i64 a0_0, .int .i64 a0_1, .int .i64 a0_2, .slice A0_3 l0_3.length c0_3] 59 (0, 0)) (bup BK422.out)) : gb423 ≠ gb422)); clear BK422; clear HB; have BK422 := n0_; have HB := n1_; have BK423 := n2_; have GW423 := n3_; have GE423 := n4_; have NB422_423 := n5_; have NB423_422 := n6_; clear n0_ n1_ n2_ n3_ n4_ n5_ n6_; clear hb hbox hg; have hnb18 := NB422_423.out; have hnc18 := NB423_422.out; have hcz19_0 : w17.cell? ⟨gb422, 0, none⟩ = some (.int .i64 a0_0) := (bC_q BK422.out 0).trans rfl; have hcz19_1 : w17.cell? ⟨gb422, 1, none⟩ = some (.int .i64 a0_1) := (bC_q BK422.out 1).trans rfl; have hcz19_2 : w17.cell? ⟨gb422, 2, none⟩ = some (.int .i64 a0_2) := (bC_q BK422.out 2).trans rfl; have hcz19_3 : w17.cell? ⟨gb422, 3, none⟩ = some (.slice A0_3 l0_3.length c0_3) := (bC_q BK422.out 3).trans rfl; have hfz19_0 := bF_q BK422.out 0; have hfz19_1 := bF_q BK422.out 1; have hfz19_2 := bF_q BK422.out 2; have hfz19_3 := bF_q BK422.out 3; have hcz20_0 : w17.cell? ⟨gb423, 0, none⟩ = some (.int .i64 a2_0) := (bC_q BK423.out 0).trans rfl; have hcz20_1 : w17.cell? ⟨gb423, 1, none⟩ = some (.int .i64 a2_1) := (bC_q BK423.out 1).trans rfl; have hcz20_2 : w17.cell? ⟨gb423, 2, none⟩ = some (.int .i64 a2_2) := (bC_q BK423.out 2).trans rfl; have hfz20_0 := bF_q BK423.out 0; have hfz20_1 := bF_q BK423.out 1; have hfz20_2 := bF_q BK423.out 2))
 go_ret
 exact ⟨by first | rfl | (simp [eN_q, eS_q] <;> rfl) | (simp [*, eN_q, eS_q] <;> rfl), by repeat (with_reducible first | exact HB.out | apply bA_q | apply pB_q | apply bD_q | refine bS_q ?_ GE422.out | refine bS_q ?_ GE423.out)⟩

end Go.Proofs.Ytjnagefogjkbbaa.PPl
