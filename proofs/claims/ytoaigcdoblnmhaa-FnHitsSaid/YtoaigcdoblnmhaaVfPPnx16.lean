import Derived.Test.YtoaigcdoblnmhaaVfPPnx0
import Derived.Test.YtoaigcdoblnmhaaVfPPnx2
import Derived.Test.YtoaigcdoblnmhaaVfPPnx8
import Derived.Test.YtoaigcdoblnmhaaVfPPnx10
namespace Go.Proofs.Ytoaigcdoblnmhaa.PPn
open Go.RowKit Go.Proofs.YtoaigcdoblnmhaaW.PrintWords Go.Proofs.YtoaigcdoblnmhaaW.PrintLast Go.Proofs.YtoaigcdoblnmhaaW.PrintMore
attribute [local go_sem] max2_int min2_int max_two min_two max_three min_three max_four min_four
set_option linter.unusedVariables false
set_option linter.unusedSimpArgs false

def impl_isStart.f (a0 : Int) : Option (Bool) := (impl_within.f a0 0 999).bind fun t432 => (some t432)
set_option maxHeartbeats 8000000 in
set_option maxRecDepth 100000 in
theorem impl_isStart.calls (a0 : Int) (r : Bool) (w : World) (h : impl_isStart.f a0 = some r) :
    Calls Try.prog 61 #[.int .i64 a0] w fun e w' => e = .returned (.bool r) ∧ Drawn0 w w' := by
 have H : ((impl_within.f a0 0 999).bind fun t432 => (some t432)) = some r := h
 clear h
 replace H := oB_q.mp H
 obtain ⟨t432, A20, H⟩ := H
 replace H : (some t432) = some r := H
 have A2 := Ae_q A20
 clear A20
 obtain rfl := oI_q H
 go_enter Try.func61, Try.ntmps61
 go_wp2_with (first | ((with_reducible refine gC_q (f := 64) rfl ?_); refine gL_q (some 4) rfl rfl Try.func64 (by kernel_rfl) rfl #[.int .i64 a0, .int .i64 0, .int .i64 999] rfl (by (try simp only [lM_q, lC_q, lN_q]); first | done | rfl | (simp only [lD_q, lT_q]; rfl)) ?_; (with_reducible refine (impl_within.calls a0 0 999 t432 _ A2.out).mono ?_); rintro e w' ⟨rfl, ⟨nd, rfl⟩⟩; refine ⟨_, rfl, ?_⟩))
 go_ret
 exact ⟨by first | rfl | (simp; done) | (simp [*]; done), by repeat (first | exact Drawn0.refl _ | apply Drawn0.step)⟩

def impl_isTool.f (a0 : Int) : Option (Bool) := (impl_within.f a0 1 4).bind fun t433 => (some t433)
set_option maxHeartbeats 8000000 in
set_option maxRecDepth 100000 in
theorem impl_isTool.calls (a0 : Int) (r : Bool) (w : World) (h : impl_isTool.f a0 = some r) :
    Calls Try.prog 66 #[.int .i64 a0] w fun e w' => e = .returned (.bool r) ∧ Drawn0 w w' := by
 have H : ((impl_within.f a0 1 4).bind fun t433 => (some t433)) = some r := h
 clear h
 replace H := oB_q.mp H
 obtain ⟨t433, A20, H⟩ := H
 replace H : (some t433) = some r := H
 have A2 := Ae_q A20
 clear A20
 obtain rfl := oI_q H
 go_enter Try.func66, Try.ntmps66
 go_wp2_with (first | ((with_reducible refine gC_q (f := 64) rfl ?_); refine gL_q (some 4) rfl rfl Try.func64 (by kernel_rfl) rfl #[.int .i64 a0, .int .i64 1, .int .i64 4] rfl (by (try simp only [lM_q, lC_q, lN_q]); first | done | rfl | (simp only [lD_q, lT_q]; rfl)) ?_; (with_reducible refine (impl_within.calls a0 1 4 t433 _ A2.out).mono ?_); rintro e w' ⟨rfl, ⟨nd, rfl⟩⟩; refine ⟨_, rfl, ?_⟩))
 go_ret
 exact ⟨by first | rfl | (simp; done) | (simp [*]; done), by repeat (first | exact Drawn0.refl _ | apply Drawn0.step)⟩

def impl_outageValid.f (a0_0 : Int) (a0_1 : Int) (a0_2 : Int) : Option (Bool) := (impl_isTool.f a0_0).bind fun t435 => (if t435 = true then ((impl_isStart.f a0_1).bind fun t436 => (if t436 = true then ((impl_within.f a0_2 a0_1 999).bind fun t437 => (some t437)) else (some false))) else (some false))
set_option maxHeartbeats 8000000 in
set_option maxRecDepth 100000 in
theorem impl_outageValid.calls (a0_0 : Int) (a0_1 : Int) (a0_2 : Int) (r : Bool) (w : World) (h : impl_outageValid.f a0_0 a0_1 a0_2 = some r) :
    Calls Try.prog 50 #[.agg #[.int .i64 a0_0, .int .i64 a0_1, .int .i64 a0_2]] w fun e w' => e = .returned (.bool r) ∧ Below w.heap.size w w' := by
 have hu52 := Try.underlying52
 have HB := Ae_q (bR_q w.heap.size w)
 have H : ((impl_isTool.f a0_0).bind fun t435 => (if t435 = true then ((impl_isStart.f a0_1).bind fun t436 => (if t436 = true then ((impl_within.f a0_2 a0_1 999).bind fun t437 => (some t437)) else (some false))) else (some false))) = some r := h
 clear h
 replace H := oB_q.mp H
 obtain ⟨t435, A20, H⟩ := H
 replace H : (if t435 = true then ((impl_isStart.f a0_1).bind fun t436 => (if t436 = true then ((impl_within.f a0_2 a0_1 999).bind fun t437 => (some t437)) else (some false))) else (some false)) = some r := H
 have A2 := Ae_q A20
 clear A20
 by_cases c3 : t435 = true
 rotate_left
 ·replace c3 := fM_q.mpr c3
  subst c3
  have H1 : (some false) = some r := by rw [if_neg (show ¬ (false = true) by decide)] at H; exact H
  clear H
  have H := H1
  clear H1
  obtain rfl := oI_q H
  go_enter Try.func50, Try.ntmps50
  go_wp2_with (first | ((with_reducible refine gD_q (N := 1) rfl ?_); refine bE_q ?hg (N := 1) ?hd (cs := #[.int .i64 a0_0, .int .i64 a0_1, .int .i64 a0_2]) (t := 52) ?hr ?_; (case hd => rfl); (case hg => rfl); (case hr => first | (go_simp; done) | (go_simp; rfl)); intro gb434 hg w11 hbox hb; have n0_ := Ae_q (bT_q (bel HB.out) hb); have n1_ := Ae_q (hbox); have n2_ := Ae_q ((by rw [hg]; exact (bZ_q (bel HB.out)) : w.heap.size ≤ gb434)); have n3_ := Ae_q ((by rw [hg]; exact (bZ_q (bel HB.out)) : w.heap.size ≤ gb434)); clear HB; have HB := n0_; have BK434 := n1_; have GW434 := n2_; have GE434 := n3_; clear n0_ n1_ n2_ n3_; clear hb hbox hg; have hcz12_0 : w11.cell? ⟨gb434, 0, none⟩ = some (.int .i64 a0_0) := (bC_q BK434.out 0).trans rfl; have hcz12_1 : w11.cell? ⟨gb434, 1, none⟩ = some (.int .i64 a0_1) := (bC_q BK434.out 1).trans rfl; have hcz12_2 : w11.cell? ⟨gb434, 2, none⟩ = some (.int .i64 a0_2) := (bC_q BK434.out 2).trans rfl; have hfz12_0 := bF_q BK434.out 0; have hfz12_1 := bF_q BK434.out 1; have hfz12_2 := bF_q BK434.out 2) | ((with_reducible refine gC_q (f := 66) rfl ?_); refine gL_q (some 5) rfl rfl Try.func66 (by kernel_rfl) rfl #[.int .i64 a0_0] rfl (by (try simp only [lM_q, lC_q, lN_q]); first | done | rfl | (simp only [lD_q, lT_q]; rfl)) ?_; (with_reducible refine (impl_isTool.calls a0_0 false _ A2.out).mono ?_); rintro e w' ⟨rfl, ⟨nd, rfl⟩⟩; refine ⟨_, rfl, ?_⟩))
  go_ret
  exact ⟨by first | rfl | (simp [eN_q, eS_q] <;> rfl) | (simp [*, eN_q, eS_q] <;> rfl), by repeat (with_reducible first | exact HB.out | apply bA_q | apply pB_q | apply bD_q | refine bS_q ?_ GE434.out)⟩
 subst c3
 have H1 : ((impl_isStart.f a0_1).bind fun t436 => (if t436 = true then ((impl_within.f a0_2 a0_1 999).bind fun t437 => (some t437)) else (some false))) = some r := by rw [if_pos rfl] at H; exact H
 clear H
 have H := H1
 clear H1
 replace H := oB_q.mp H
 obtain ⟨t436, A40, H⟩ := H
 replace H : (if t436 = true then ((impl_within.f a0_2 a0_1 999).bind fun t437 => (some t437)) else (some false)) = some r := H
 have A4 := Ae_q A40
 clear A40
 by_cases c5 : t436 = true
 rotate_left
 ·replace c5 := fM_q.mpr c5
  subst c5
  have H1 : (some false) = some r := by rw [if_neg (show ¬ (false = true) by decide)] at H; exact H
  clear H
  have H := H1
  clear H1
  obtain rfl := oI_q H
  go_enter Try.func50, Try.ntmps50
  go_wp2_with (first | ((with_reducible refine gD_q (N := 1) rfl ?_); refine bE_q ?hg (N := 1) ?hd (cs := #[.int .i64 a0_0, .int .i64 a0_1, .int .i64 a0_2]) (t := 52) ?hr ?_; (case hd => rfl); (case hg => rfl); (case hr => first | (go_simp; done) | (go_simp; rfl)); intro gb434 hg w9 hbox hb; have n0_ := Ae_q (bT_q (bel HB.out) hb); have n1_ := Ae_q (hbox); have n2_ := Ae_q ((by rw [hg]; exact (bZ_q (bel HB.out)) : w.heap.size ≤ gb434)); have n3_ := Ae_q ((by rw [hg]; exact (bZ_q (bel HB.out)) : w.heap.size ≤ gb434)); clear HB; have HB := n0_; have BK434 := n1_; have GW434 := n2_; have GE434 := n3_; clear n0_ n1_ n2_ n3_; clear hb hbox hg; have hcz10_0 : w9.cell? ⟨gb434, 0, none⟩ = some (.int .i64 a0_0) := (bC_q BK434.out 0).trans rfl; have hcz10_1 : w9.cell? ⟨gb434, 1, none⟩ = some (.int .i64 a0_1) := (bC_q BK434.out 1).trans rfl; have hcz10_2 : w9.cell? ⟨gb434, 2, none⟩ = some (.int .i64 a0_2) := (bC_q BK434.out 2).trans rfl; have hfz10_0 := bF_q BK434.out 0; have hfz10_1 := bF_q BK434.out 1; have hfz10_2 := bF_q BK434.out 2) | ((with_reducible refine gC_q (f := 66) rfl ?_); refine gL_q (some 5) rfl rfl Try.func66 (by kernel_rfl) rfl #[.int .i64 a0_0] rfl (by (try simp only [lM_q, lC_q, lN_q]); first | done | rfl | (simp only [lD_q, lT_q]; rfl)) ?_; (with_reducible refine (impl_isTool.calls a0_0 true _ A2.out).mono ?_); rintro e w' ⟨rfl, ⟨nd, rfl⟩⟩; refine ⟨_, rfl, ?_⟩) | (go_at_call 61; (with_reducible refine (impl_isStart.calls a0_1 false _ A4.out).mono ?_); rintro e w' ⟨rfl, ⟨nd, rfl⟩⟩))
  go_ret
  exact ⟨by first | rfl | (simp [eN_q, eS_q] <;> rfl) | (simp [*, eN_q, eS_q] <;> rfl), by repeat (with_reducible first | exact HB.out | apply bA_q | apply pB_q | apply bD_q | refine bS_q ?_ GE434.out)⟩
 subst c5
 have H1 : ((impl_within.f a0_2 a0_1 999).bind fun t437 => (some t437)) = some r := by rw [if_pos rfl] at H; exact H
 clear H
 have H := H1
 clear H1
 replace H := oB_q.mp H
 obtain ⟨t437, A60, H⟩ := H
 replace H : (some t437) = some r := H
 have A6 := Ae_q A60
 clear A60
 obtain rfl := oI_q H
 go_enter Try.func50, Try.ntmps50
 go_wp2_with (first | ((with_reducible refine gD_q (N := 1) rfl ?_); refine bE_q ?hg (N := 1) ?hd (cs := #[.int .i64 a0_0, .int .i64 a0_1, .int .i64 a0_2]) (t := 52) ?hr ?_; (case hd => rfl); (case hg => rfl); (case hr => first | (go_simp; done) | (go_simp; rfl)); intro gb434 hg w7 hbox hb; have n0_ := Ae_q (bT_q (bel HB.out) hb); have n1_ := Ae_q (hbox); have n2_ := Ae_q ((by rw [hg]; exact (bZ_q (bel HB.out)) : w.heap.size ≤ gb434)); have n3_ := Ae_q ((by rw [hg]; exact (bZ_q (bel HB.out)) : w.heap.size ≤ gb434)); clear HB; have HB := n0_; have BK434 := n1_; have GW434 := n2_; have GE434 := n3_; clear n0_ n1_ n2_ n3_; clear hb hbox hg; have hcz8_0 : w7.cell? ⟨gb434, 0, none⟩ = some (.int .i64 a0_0) := (bC_q BK434.out 0).trans rfl; have hcz8_1 : w7.cell? ⟨gb434, 1, none⟩ = some (.int .i64 a0_1) := (bC_q BK434.out 1).trans rfl; have hcz8_2 : w7.cell? ⟨gb434, 2, none⟩ = some (.int .i64 a0_2) := (bC_q BK434.out 2).trans rfl; have hfz8_0 := bF_q BK434.out 0; have hfz8_1 := bF_q BK434.out 1; have hfz8_2 := bF_q BK434.out 2) | ((with_reducible refine gC_q (f := 66) rfl ?_); refine gL_q (some 5) rfl rfl Try.func66 (by kernel_rfl) rfl #[.int .i64 a0_0] rfl (by (try simp only [lM_q, lC_q, lN_q]); first | done | rfl | (simp only [lD_q, lT_q]; rfl)) ?_; (with_reducible refine (impl_isTool.calls a0_0 true _ A2.out).mono ?_); rintro e w' ⟨rfl, ⟨nd, rfl⟩⟩; refine ⟨_, rfl, ?_⟩) | (go_at_call 61; (with_reducible refine (impl_isStart.calls a0_1 true _ A4.out).mono ?_); rintro e w' ⟨rfl, ⟨nd, rfl⟩⟩) | (go_at_call 64; (with_reducible refine (impl_within.calls a0_2 a0_1 999 t437 _ A6.out).mono ?_); rintro e w' ⟨rfl, ⟨nd, rfl⟩⟩))
 go_ret
 exact ⟨by first | rfl | (simp [eN_q, eS_q] <;> rfl) | (simp [*, eN_q, eS_q] <;> rfl), by repeat (with_reducible first | exact HB.out | apply bA_q | apply pB_q | apply bD_q | refine bS_q ?_ GE434.out)⟩

def impl_Outage_disturbs.f (a0_0 : Int) (a0_1 : Int) (a0_2 : Int) (a1_0 : Int) (a1_1 : Int) (a1_2 : Int) (l1_3 : List Int) (a2 : Int) : Option (Bool) := if a1_2 = a0_0 then (if a2 < a0_2 then (some (decide ((wrap64 (a2 + a1_0)) > a0_1))) else (some false)) else (some false)
set_option maxHeartbeats 8000000 in
set_option maxRecDepth 100000 in
theorem impl_Outage_disturbs.calls (a0_0 : Int) (a0_1 : Int) (a0_2 : Int) (a1_0 : Int) (a1_1 : Int) (a1_2 : Int) (A1_3 : Option Addr) (c1_3 : Nat) (l1_3 : List Int) (a2 : Int) (r : Bool) (w : World) (hr1_3 : Kd.C kI_q w A1_3 l1_3.length l1_3) (hc1_3 : l1_3.length ≤ c1_3) (h : impl_Outage_disturbs.f a0_0 a0_1 a0_2 a1_0 a1_1 a1_2 l1_3 a2 = some r) :
    Calls Try.prog 51 #[.agg #[.int .i64 a0_0, .int .i64 a0_1, .int .i64 a0_2], .agg #[.int .i64 a1_0, .int .i64 a1_1, .int .i64 a1_2, .slice A1_3 l1_3.length c1_3], .int .i64 a2] w fun e w' => e = .returned (.bool r) ∧ Below w.heap.size w w' := by
 have hu52 := Try.underlying52
 have hu31 := Try.underlying31
 have HR1_3 := Ae_q hr1_3
 have HC1_3 := Ae_q hc1_3
 clear hr1_3 hc1_3
 have HB := Ae_q (bR_q w.heap.size w)
 have H : (if a1_2 = a0_0 then (if a2 < a0_2 then (some (decide ((wrap64 (a2 + a1_0)) > a0_1))) else (some false)) else (some false)) = some r := h
 clear h
 by_cases c4 : a1_2 = a0_0
 rotate_left
 ·rw [if_neg c4] at H
  have c4b0 : (a1_2 == a0_0) = false := fN_q.mpr c4
  have c4b1 : (a1_2 != a0_0) = true := nI_q.mpr c4
  obtain rfl := oI_q H
  go_enter Try.func51, Try.ntmps51
  go_wp2_with (first | ((with_reducible refine gD_q (N := 3) rfl ?_); refine bE_q ?hg (N := 3) ?hd (cs := #[.int .i64 a0_0, .int .i64 a0_1, .int .i64 a0_2]) (t := 52) ?hr ?_; (case hd => rfl); (case hg => rfl); (case hr => first | (go_simp; done) | (go_simp; rfl)); intro gb438 hg w16 hbox hb; have n0_ := Ae_q (bT_q (bel HB.out) hb); have n1_ := Ae_q (hbox); have n2_ := Ae_q ((by rw [hg]; exact (bZ_q (bel HB.out)) : w.heap.size ≤ gb438)); have n3_ := Ae_q ((by rw [hg]; exact (bZ_q (bel HB.out)) : w.heap.size ≤ gb438)); clear HB; have HB := n0_; have BK438 := n1_; have GW438 := n2_; have GE438 := n3_; clear n0_ n1_ n2_ n3_; clear hb hbox hg) | ((with_reducible refine gD_q (N := 4) rfl ?_); refine bE_q ?hg (N := 4) ?hd (cs := #[.int .i64 a1_0, .int .i64 a1_1, .int .i64 a1_2, .slice A1_3 l1_3.length c1_3]) (t := 31) ?hr ?_; (case hd => rfl); (case hg => rfl); (case hr => first | (go_simp; done) | (go_simp; rfl)); intro gb439 hg w17 hbox hb; have n0_ := Ae_q (bB_q (g := gb438) (o := .cells #[.int .i64 a0_0, .int .i64 a0_1, .int .i64 a0_2] 52 (0, 0)) (bup BK438.out) hb); have n1_ := Ae_q (bT_q (by repeat (with_reducible first | exact HB.out | apply bA_q | apply pB_q | apply bD_q | refine bS_q ?_ GE438.out)) hb); have n2_ := Ae_q (hbox); have n3_ := Ae_q ((by rw [hg]; exact (bZ_q (by repeat (with_reducible first | exact HB.out | apply bA_q | apply pB_q | apply bD_q | refine bS_q ?_ GE438.out))) : w.heap.size ≤ gb439)); have n4_ := Ae_q ((by rw [hg]; exact (bZ_q (by repeat (with_reducible first | exact HB.out | apply bA_q | apply pB_q | apply bD_q | refine bS_q ?_ GE438.out))) : w.heap.size ≤ gb439)); have n5_ := Ae_q ((by rw [hg]; exact nL_q (blk_lt (g := gb438) (o := .cells #[.int .i64 a0_0, .int .i64 a0_1, .int .i64 a0_2] 52 (0, 0)) (bup BK438.out)) : gb438 ≠ gb439)); have n6_ := Ae_q ((by rw [hg]; exact nG_q (blk_lt (g := gb438) (o := .cells #[.int .i64 a0_0, .int .i64 a0_1, .int .i64 a0_2] 52 (0, 0)) (bup BK438.out)) : gb439 ≠ gb438)); clear BK438; clear HB; have BK438 := n0_; have HB := n1_; have BK439 := n2_; have GW439 := n3_; have GE439 := n4_; have NB438_439 := n5_; have NB439_438 := n6_; clear n0_ n1_ n2_ n3_ n4_ n5_ n6_; clear hb hbox hg; have hnb18 := NB439_438.out; have hnc18 := NB438_439.out; have hcz19_0 : w17.cell? ⟨gb439, 0, none⟩ = some (.int .i64 a1_0) := (bC_q BK439.out 0).trans rfl; have hcz19_1 : w17.cell? ⟨gb439, 1, none⟩ = some (.int .i64 a1_1) := (bC_q BK439.out 1).trans rfl; have hcz19_2 : w17.cell? ⟨gb439, 2, none⟩ = some (.int .i64 a1_2) := (bC_q BK439.out 2).trans rfl; have hcz19_3 : w17.cell? ⟨gb439, 3, none⟩ = some (.slice A1_3 l1_3.length c1_3) := (bC_q BK439.out 3).trans rfl; have hfz19_0 := bF_q BK439.out 0; have hfz19_1 := bF_q BK439.out 1; have hfz19_2 := bF_q BK439.out 2; have hfz19_3 := bF_q BK439.out 3; have hcz20_0 : w17.cell? ⟨gb438, 0, none⟩ = some (.int .i64 a0_0) := (bC_q BK438.out 0).trans rfl; have hcz20_1 : w17.cell? ⟨gb438, 1, none⟩ = some (.int .i64 a0_1) := (bC_q BK438.out 1).trans rfl; have hcz20_2 : w17.cell? ⟨gb438, 2, none⟩ = some (.int .i64 a0_2) := (bC_q BK438.out 2).trans rfl; have hfz20_0 := bF_q BK438.out 0; have hfz20_1 := bF_q BK438.out 1; have hfz20_2 := bF_q BK438.out 2))
  go_ret
  exact ⟨by first | rfl | (simp [eN_q, eS_q] <;> rfl) | (simp [*, eN_q, eS_q] <;> rfl), by repeat (with_reducible first | exact HB.out | apply bA_q | apply pB_q | apply bD_q | refine bS_q ?_ GE438.out | refine bS_q ?_ GE439.out)⟩
 rw [if_pos c4] at H
 have c4b0 : (a1_2 == a0_0) = true := beq_iff_eq.mpr c4
 have c4b1 : (a1_2 != a0_0) = false := nE_q.mpr c4
 clear c4
 by_cases c5 : a2 < a0_2
 ·rw [if_pos c5] at H
  have c5b0 : decide (a2 < a0_2) = true := dT_q c5
  clear c5
  obtain rfl := oI_q H
  go_enter Try.func51, Try.ntmps51
  go_wp2_with (first | ((with_reducible refine gD_q (N := 3) rfl ?_); refine bE_q ?hg (N := 3) ?hd (cs := #[.int .i64 a0_0, .int .i64 a0_1, .int .i64 a0_2]) (t := 52) ?hr ?_; (case hd => rfl); (case hg => rfl); (case hr => first | (go_simp; done) | (go_simp; rfl)); intro gb438 hg w6 hbox hb; have n0_ := Ae_q (bT_q (bel HB.out) hb); have n1_ := Ae_q (hbox); have n2_ := Ae_q ((by rw [hg]; exact (bZ_q (bel HB.out)) : w.heap.size ≤ gb438)); have n3_ := Ae_q ((by rw [hg]; exact (bZ_q (bel HB.out)) : w.heap.size ≤ gb438)); clear HB; have HB := n0_; have BK438 := n1_; have GW438 := n2_; have GE438 := n3_; clear n0_ n1_ n2_ n3_; clear hb hbox hg) | ((with_reducible refine gD_q (N := 4) rfl ?_); refine bE_q ?hg (N := 4) ?hd (cs := #[.int .i64 a1_0, .int .i64 a1_1, .int .i64 a1_2, .slice A1_3 l1_3.length c1_3]) (t := 31) ?hr ?_; (case hd => rfl); (case hg => rfl); (case hr => first | (go_simp; done) | (go_simp; rfl)); intro gb439 hg w7 hbox hb; have n0_ := Ae_q (bB_q (g := gb438) (o := .cells #[.int .i64 a0_0, .int .i64 a0_1, .int .i64 a0_2] 52 (0, 0)) (bup BK438.out) hb); have n1_ := Ae_q (bT_q (by repeat (with_reducible first | exact HB.out | apply bA_q | apply pB_q | apply bD_q | refine bS_q ?_ GE438.out)) hb); have n2_ := Ae_q (hbox); have n3_ := Ae_q ((by rw [hg]; exact (bZ_q (by repeat (with_reducible first | exact HB.out | apply bA_q | apply pB_q | apply bD_q | refine bS_q ?_ GE438.out))) : w.heap.size ≤ gb439)); have n4_ := Ae_q ((by rw [hg]; exact (bZ_q (by repeat (with_reducible first | exact HB.out | apply bA_q | apply pB_q | apply bD_q | refine bS_q ?_ GE438.out))) : w.heap.size ≤ gb439)); have n5_ := Ae_q ((by rw [hg]; exact nL_q (blk_lt (g := gb438) (o := .cells #[.int .i64 a0_0, .int .i64 a0_1, .int .i64 a0_2] 52 (0, 0)) (bup BK438.out)) : gb438 ≠ gb439)); have n6_ := Ae_q ((by rw [hg]; exact nG_q (blk_lt (g := gb438) (o := .cells #[.int .i64 a0_0, .int .i64 a0_1, .int .i64 a0_2] 52 (0, 0)) (bup BK438.out)) : gb439 ≠ gb438)); clear BK438; clear HB; have BK438 := n0_; have HB := n1_; have BK439 := n2_; have GW439 := n3_; have GE439 := n4_; have NB438_439 := n5_; have NB439_438 := n6_; clear n0_ n1_ n2_ n3_ n4_ n5_ n6_; clear hb hbox hg; have hnb8 := NB439_438.out; have hnc8 := NB438_439.out; have hcz9_0 : w7.cell? ⟨gb439, 0, none⟩ = some (.int .i64 a1_0) := (bC_q BK439.out 0).trans rfl; have hcz9_1 : w7.cell? ⟨gb439, 1, none⟩ = some (.int .i64 a1_1) := (bC_q BK439.out 1).trans rfl; have hcz9_2 : w7.cell? ⟨gb439, 2, none⟩ = some (.int .i64 a1_2) := (bC_q BK439.out 2).trans rfl; have hcz9_3 : w7.cell? ⟨gb439, 3, none⟩ = some (.slice A1_3 l1_3.length c1_3) := (bC_q BK439.out 3).trans rfl; have hfz9_0 := bF_q BK439.out 0; have hfz9_1 := bF_q BK439.out 1; have hfz9_2 := bF_q BK439.out 2; have hfz9_3 := bF_q BK439.out 3; have hcz10_0 : w7.cell? ⟨gb438, 0, none⟩ = some (.int .i64 a0_0) := (bC_q BK438.out 0).trans rfl; have hcz10_1 : w7.cell? ⟨gb438, 1, none⟩ = some (.int .i64 a0_1) := (bC_q BK438.out 1).trans rfl; have hcz10_2 : w7.cell? ⟨gb438, 2, none⟩ = some (.int .i64 a0_2) := (bC_q BK438.out 2).trans rfl; have hfz10_0 := bF_q BK438.out 0; have hfz10_1 := bF_q BK438.out 1; have hfz10_2 := bF_q BK438.out 2))
  go_ret
  exact ⟨by first | rfl | (simp [eN_q, eS_q] <;> rfl) | (simp [*, eN_q, eS_q] <;> rfl), by repeat (with_reducible first | exact HB.out | apply bA_q | apply pB_q | apply bD_q | refine bS_q ?_ GE438.out | refine bS_q ?_ GE439.out)⟩
 rw [if_neg c5] at H
 have c5b0 : decide (a2 < a0_2) = false := dF_q c5
 clear c5
 obtain rfl := oI_q H
 go_enter Try.func51, Try.ntmps51
 go_wp2_with (first | ((with_reducible refine gD_q (N := 3) rfl ?_); refine bE_q ?hg (N := 3) ?hd (cs := #[.int .i64 a0_0, .int .i64 a0_1, .int .i64 a0_2]) (t := 52) ?hr ?_; (case hd => rfl); (case hg => rfl); (case hr => first | (go_simp; done) | (go_simp; rfl)); intro gb438 hg w11 hbox hb; have n0_ := Ae_q (bT_q (bel HB.out) hb); have n1_ := Ae_q (hbox); have n2_ := Ae_q ((by rw [hg]; exact (bZ_q (bel HB.out)) : w.heap.size ≤ gb438)); have n3_ := Ae_q ((by rw [hg]; exact (bZ_q (bel HB.out)) : w.heap.size ≤ gb438)); clear HB; have HB := n0_; have BK438 := n1_; have GW438 := n2_; have GE438 := n3_; clear n0_ n1_ n2_ n3_; clear hb hbox hg) | ((with_reducible refine gD_q (N := 4) rfl ?_); refine bE_q ?hg (N := 4) ?hd (cs := #[.int .i64 a1_0, .int .i64 a1_1, .int .i64 a1_2, .slice A1_3 l1_3.length c1_3]) (t := 31) ?hr ?_; (case hd => rfl); (case hg => rfl); (case hr => first | (go_simp; done) | (go_simp; rfl)); intro gb439 hg w12 hbox hb; have n0_ := Ae_q (bB_q (g := gb438) (o := .cells #[.int .i64 a0_0, .int .i64 a0_1, .int .i64 a0_2] 52 (0, 0)) (bup BK438.out) hb); have n1_ := Ae_q (bT_q (by repeat (with_reducible first | exact HB.out | apply bA_q | apply pB_q | apply bD_q | refine bS_q ?_ GE438.out)) hb); have n2_ := Ae_q (hbox); have n3_ := Ae_q ((by rw [hg]; exact (bZ_q (by repeat (with_reducible first | exact HB.out | apply bA_q | apply pB_q | apply bD_q | refine bS_q ?_ GE438.out))) : w.heap.size ≤ gb439)); have n4_ := Ae_q ((by rw [hg]; exact (bZ_q (by repeat (with_reducible first | exact HB.out | apply bA_q | apply pB_q | apply bD_q | refine bS_q ?_ GE438.out))) : w.heap.size ≤ gb439)); have n5_ := Ae_q ((by rw [hg]; exact nL_q (blk_lt (g := gb438) (o := .cells #[.int .i64 a0_0, .int .i64 a0_1, .int .i64 a0_2] 52 (0, 0)) (bup BK438.out)) : gb438 ≠ gb439)); have n6_ := Ae_q ((by rw [hg]; exact nG_q (blk_lt (g := gb438) (o := .cells #[.int .i64 a0_0, .int .i64 a0_1, .int .i64 a0_2] 52 (0, 0)) (bup BK438.out)) : gb439 ≠ gb438)); clear BK438; clear HB; have BK438 := n0_; have HB := n1_; have BK439 := n2_; have GW439 := n3_; have GE439 := n4_; have NB438_439 := n5_; have NB439_438 := n6_; clear n0_ n1_ n2_ n3_ n4_ n5_ n6_; clear hb hbox hg; have hnb13 := NB439_438.out; have hnc13 := NB438_439.out; have hcz14_0 : w12.cell? ⟨gb439, 0, none⟩ = some (.int .i64 a1_0) := (bC_q BK439.out 0).trans rfl; have hcz14_1 : w12.cell? ⟨gb439, 1, none⟩ = some (.int .i64 a1_1) := (bC_q BK439.out 1).trans rfl; have hcz14_2 : w12.cell? ⟨gb439, 2, none⟩ = some (.int .i64 a1_2) := (bC_q BK439.out 2).trans rfl; have hcz14_3 : w12.cell? ⟨gb439, 3, none⟩ = some (.slice A1_3 l1_3.length c1_3) := (bC_q BK439.out 3).trans rfl; have hfz14_0 := bF_q BK439.out 0; have hfz14_1 := bF_q BK439.out 1; have hfz14_2 := bF_q BK439.out 2; have hfz14_3 := bF_q BK439.out 3; have hcz15_0 : w12.cell? ⟨gb438, 0, none⟩ = some (.int .i64 a0_0) := (bC_q BK438.out 0).trans rfl; have hcz15_1 : w12.cell? ⟨gb438, 1, none⟩ = some (.int .i64 a0_1) := (bC_q BK438.out 1).trans rfl; have hcz15_2 : w12.cell? ⟨gb438, 2, none⟩ = some (.int .i64 a0_2) := (bC_q BK438.out 2).trans rfl; have hfz15_0 := bF_q BK438.out 0; have hfz15_1 := bF_q BK438.out 1; have hfz15_2 := bF_q BK438.out 2))
 go_ret
 exact ⟨by first | rfl | (simp [eN_q, eS_q] <;> rfl) | (simp [*, eN_q, eS_q] <;> rfl), by repeat (with_reducible first | exact HB.out | apply bA_q | apply pB_q | apply bD_q | refine bS_q ?_ GE438.out | refine bS_q ?_ GE439.out)⟩

mutual
def impl_OutageHits.j0 : Nat → List (S31) → List Int → List Int → Bool → Int → Int → Int → Option (List Int)
 | 0, _, _, _, _, _, _, _ => none
 | k + 1, x0, x1, x7, x19, x441000, x441001, x441002 => if x19 = true then (some x7) else (impl_OutageHits.l0 k x1 x7 x0 (x0.length : Int) 0 x441000 x441001 x441002)
def impl_OutageHits.l0 : Nat → List Int → List Int → List (S31) → Int → Int → Int → Int → Int → Option (List Int)
 | 0, _, _, _, _, _, _, _, _ => none
 | k + 1, x1, x7, x21, x22, x23, x441000, x441001, x441002 => if x23 < x22 then (if 0 ≤ x23 then (if x23 < (x21.length : Int) then (if x23 < (x1.length : Int) then ((impl_Outage_disturbs.f x441000 x441001 x441002 ((rd_T31 x21 x23).f0) ((rd_T31 x21 x23).f1) ((rd_T31 x21 x23).f2) ((rd_T31 x21 x23).f3) (rd x1 x23)).bind fun t449 => (if t449 = true then (if x7.length < 17592186044416 then (impl_OutageHits.l0 k x1 (x7 ++ [x23]) x21 x22 (wrap64 (x23 + 1)) x441000 x441001 x441002) else (none)) else (impl_OutageHits.l0 k x1 x7 x21 x22 (wrap64 (x23 + 1)) x441000 x441001 x441002))) else (none)) else (none)) else (none)) else (some x7)
end
def impl_OutageHits.f (k : Nat) (l0 : List (S31)) (l1 : List Int) (a2_0 : Int) (a2_1 : Int) (a2_2 : Int) : Option (List Int) := (some (([] : List Int) : List Int)).bind fun y441 => ((impl_startsValid.f k l0 l1).bind fun t444 => (if t444 = true then ((impl_outageValid.f a2_0 a2_1 a2_2).bind fun t445 => (impl_OutageHits.j0 k l0 l1 y441 (!t445) a2_0 a2_1 a2_2)) else (impl_OutageHits.j0 k l0 l1 y441 true a2_0 a2_1 a2_2)))
set_option maxHeartbeats 8000000 in
set_option maxRecDepth 100000 in
theorem impl_OutageHits.calls (k : Nat) (A0 : Option Addr) (c0 : Nat) (l0 : List (S31)) (A1 : Option Addr) (c1 : Nat) (l1 : List Int) (a2_0 : Int) (a2_1 : Int) (a2_2 : Int) (r : List Int) (w : World) (hr0 : Kd.C k31 w A0 l0.length l0) (hc0 : l0.length ≤ c0) (hr1 : Kd.C kI_q w A1 l1.length l1) (hc1 : l1.length ≤ c1) (h : impl_OutageHits.f k l0 l1 a2_0 a2_1 a2_2 = some r) :
    Calls Try.prog 29 #[.slice A0 l0.length c0, .slice A1 l1.length c1, .agg #[.int .i64 a2_0, .int .i64 a2_1, .int .i64 a2_2]] w fun e w' => ∃ v0_ : Value, e = .returned (v0_) ∧ Kd.R kI_q 3 w' w.heap.size (fun _ => True) v0_ r ∧ Below w.heap.size w w' := by
 have hu52 := Try.underlying52
 have hu31 := Try.underlying31
 have HR0 := Ae_q hr0
 have HC0 := Ae_q hc0
 clear hr0 hc0
 have HR1 := Ae_q hr1
 have HC1 := Ae_q hc1
 clear hr1 hc1
 have HB := Ae_q (bR_q w.heap.size w)
 have H : ((some (([] : List Int) : List Int)).bind fun y441 => ((impl_startsValid.f k l0 l1).bind fun t444 => (if t444 = true then ((impl_outageValid.f a2_0 a2_1 a2_2).bind fun t445 => (impl_OutageHits.j0 k l0 l1 y441 (!t445) a2_0 a2_1 a2_2)) else (impl_OutageHits.j0 k l0 l1 y441 true a2_0 a2_1 a2_2)))) = some r := h
 clear h
 obtain ⟨y441, hy441⟩ : ∃ y_ : List Int, y_ = (([] : List Int)) := ⟨_, rfl⟩
 replace H : ((impl_startsValid.f k l0 l1).bind fun t444 => (if t444 = true then ((impl_outageValid.f a2_0 a2_1 a2_2).bind fun t445 => (impl_OutageHits.j0 k l0 l1 y441 (!t445) a2_0 a2_1 a2_2)) else (impl_OutageHits.j0 k l0 l1 y441 true a2_0 a2_1 a2_2))) = some r := by first | (rw [hy441]; with_reducible exact H) | (have H2_ := (oS_q _ _).symm.trans H; rw [hy441]; with_reducible exact H2_) | (have H2_ := (oS_q _ _).symm.trans H; with_reducible exact H2_) | with_reducible exact H | (rw [hy441]; exact H) | exact H
 have Ny441 := Ae_q hy441
 clear hy441
 have HC4 := Ae_q H
 clear H
 go_enter Try.func29, Try.ntmps29
 go_upto_region 2 with (first | ((with_reducible refine gD_q (N := 5) rfl ?_); refine bE_q ?hg (N := 5) ?hd (cs := #[.int .i64 a2_0, .int .i64 a2_1, .int .i64 a2_2]) (t := 52) ?hr ?_; (case hd => rfl); (case hg => rfl); (case hr => first | (go_simp; done) | (go_simp; rfl)); intro gb440 hg w5 hbox hb; have n0_ := Ae_q (bT_q (bel HB.out) hb); have n1_ := Ae_q (hbox); have n2_ := Ae_q ((by rw [hg]; exact (bZ_q (bel HB.out)) : w.heap.size ≤ gb440)); have n3_ := Ae_q ((by rw [hg]; exact (bZ_q (bel HB.out)) : w.heap.size ≤ gb440)); clear HB; have HB := n0_; have BK440 := n1_; have GW440 := n2_; have GE440 := n3_; clear n0_ n1_ n2_ n3_; clear hb hbox hg) | ((with_reducible refine gD_q (N := 10) rfl ?_); refine Kd.R_lit kI_q _ 3 ?hg (N := 10) ?hd (xs := ([] : List Int)) (inner := []) (ok := fun _ => True) (okp := fun _ => True) ?hr ?hp (fun _ hk => hk) trivial (bR_q _ _) (nR_q _) (by simp) ?_; (case hd => rfl); (case hg => rfl); (case hr => first | (go_simp; done) | (go_simp; rfl)); (case hp => exact (Reps.none _ _)); intro v442 w6 ho7 hb hg_ hnew_; clear hg_ hnew_; (first | rw [← Ny441.out] at ho7 | (simp only [Int.reduceToNat] at ho7; rw [← Ny441.out] at ho7)); have n0_ := Ae_q (rL_q ho7 (bZ_q (by repeat (with_reducible first | exact HB.out | apply bA_q | apply pB_q | apply bD_q | refine bS_q ?_ GE440.out)))); have n1_ := Ae_q (bB_q (g := gb440) (o := .cells #[.int .i64 a2_0, .int .i64 a2_1, .int .i64 a2_2] 52 (0, 0)) (bup BK440.out) hb); have n2_ := Ae_q (bT_q (by repeat (with_reducible first | exact HB.out | apply bA_q | apply pB_q | apply bD_q | refine bS_q ?_ GE440.out)) hb); clear BK440; clear HB; have HO443 := n0_; have BK440 := n1_; have HB := n2_; clear n0_ n1_ n2_; clear hb ho7))
 (try simp only [Act.put, sA_q, sZ_q, sS_q])
 go_cut [19] (fun v19 wc => ∃ (kq : Nat) (x19_3 : Bool), v19 = .bool x19_3 ∧ Aside0 (impl_OutageHits.j0 kq l0 l1 y441 x19_3 a2_0 a2_1 a2_2 = some r) ∧ Aside0 (kq ≤ k) ∧ Aside0 (Kd.R kI_q 3 wc w.heap.size (fun _ => True) v442 y441) ∧ Aside0 (wc.heap[gb440]? = some (.cells #[.int .i64 a2_0, .int .i64 a2_1, .int .i64 a2_2] 52 (0, 0))) ∧ Aside0 (Below w.heap.size w wc))
 case first =>
  have H := HC4.out
  clear HC4
  replace H := oB_q.mp H
  obtain ⟨t444, A80, H⟩ := H
  replace H : (if t444 = true then ((impl_outageValid.f a2_0 a2_1 a2_2).bind fun t445 => (impl_OutageHits.j0 k l0 l1 y441 (!t445) a2_0 a2_1 a2_2)) else (impl_OutageHits.j0 k l0 l1 y441 true a2_0 a2_1 a2_2)) = some r := H
  have A8 := Ae_q A80
  clear A80
  by_cases c9 : t444 = true
  rotate_left
  ·replace c9 := fM_q.mpr c9
   subst c9
   have H1 : (impl_OutageHits.j0 k l0 l1 y441 true a2_0 a2_1 a2_2) = some r := by rw [if_neg (show ¬ (false = true) by decide)] at H; exact H
   clear H
   have H := H1
   clear H1
   have H' := Ae_q H
   clear H
   go_wp2_with (first | ((with_reducible refine gC_q (f := 35) rfl ?_); refine gL_q (some 13) rfl rfl Try.func35 (by kernel_rfl) rfl #[.slice A0 l0.length c0, .slice A1 l1.length c1] rfl (by (try simp only [lM_q, lC_q, lN_q]); first | done | rfl | (simp only [lD_q, lT_q]; rfl)) ?_; (with_reducible refine (impl_startsValid.calls k _ _ l0 _ _ l1 false _ ?side1 ?side2 ?side3 ?side4 A8.out).mono ?_); (case side1 => exact cup (cB_q HR0.out HB.out)); (case side2 => exact HC0.out); (case side3 => exact cup (cB_q HR1.out HB.out)); (case side4 => exact HC1.out); rintro e w14 ⟨rfl, hb⟩; refine ⟨_, rfl, ?_⟩; have n0_ := Ae_q (rO_q (rup HO443.out) hb); have n1_ := Ae_q (bB_q (g := gb440) (o := .cells #[.int .i64 a2_0, .int .i64 a2_1, .int .i64 a2_2] 52 (0, 0)) (bup BK440.out) hb); have n2_ := Ae_q (bT_q (by repeat (with_reducible first | exact HB.out | apply bA_q | apply pB_q | apply bD_q | refine bS_q ?_ GE440.out)) hb); clear HO443; clear BK440; clear HB; have HO443 := n0_; have BK440 := n1_; have HB := n2_; clear n0_ n1_ n2_; (try clear hb); (try clear hb2); (try clear hk); (try clear hi)))
   go_meet
   case rel => exact ⟨_, (true), (by first | rfl | (simp; done) | (simp [*]; done)), H', ⟨by first | omega | exact nR_q _⟩, ⟨by (with_reducible repeat (first | apply rA_q | apply rN_q | apply rD_q)); exact HO443.out⟩, ⟨by (with_reducible repeat (first | refine bN_q ?_ _ | refine bW_q ?_ | refine bL_q ?_ _)); exact BK440.out⟩, ⟨by repeat (with_reducible first | exact HB.out | apply bA_q | apply pB_q | apply bD_q | refine bS_q ?_ GE440.out)⟩⟩
  subst c9
  have H1 : ((impl_outageValid.f a2_0 a2_1 a2_2).bind fun t445 => (impl_OutageHits.j0 k l0 l1 y441 (!t445) a2_0 a2_1 a2_2)) = some r := by rw [if_pos rfl] at H; exact H
  clear H
  have H := H1
  clear H1
  replace H := oB_q.mp H
  obtain ⟨t445, A100, H⟩ := H
  replace H : (impl_OutageHits.j0 k l0 l1 y441 (!t445) a2_0 a2_1 a2_2) = some r := H
  have A10 := Ae_q A100
  clear A100
  have H' := Ae_q H
  clear H
  go_wp2_with (first | ((with_reducible refine gC_q (f := 35) rfl ?_); refine gL_q (some 13) rfl rfl Try.func35 (by kernel_rfl) rfl #[.slice A0 l0.length c0, .slice A1 l1.length c1] rfl (by (try simp only [lM_q, lC_q, lN_q]); first | done | rfl | (simp only [lD_q, lT_q]; rfl)) ?_; (with_reducible refine (impl_startsValid.calls k _ _ l0 _ _ l1 true _ ?side1 ?side2 ?side3 ?side4 A8.out).mono ?_); (case side1 => exact cup (cB_q HR0.out HB.out)); (case side2 => exact HC0.out); (case side3 => exact cup (cB_q HR1.out HB.out)); (case side4 => exact HC1.out); rintro e w11 ⟨rfl, hb⟩; refine ⟨_, rfl, ?_⟩; have n0_ := Ae_q (rO_q (rup HO443.out) hb); have n1_ := Ae_q (bB_q (g := gb440) (o := .cells #[.int .i64 a2_0, .int .i64 a2_1, .int .i64 a2_2] 52 (0, 0)) (bup BK440.out) hb); have n2_ := Ae_q (bT_q (by repeat (with_reducible first | exact HB.out | apply bA_q | apply pB_q | apply bD_q | refine bS_q ?_ GE440.out)) hb); clear HO443; clear BK440; clear HB; have HO443 := n0_; have BK440 := n1_; have HB := n2_; clear n0_ n1_ n2_; (try clear hb); (try clear hb2); (try clear hk); (try clear hi); have hcz12_0 : w11.cell? ⟨gb440, 0, none⟩ = some (.int .i64 a2_0) := (bC_q BK440.out 0).trans rfl; have hcz12_1 : w11.cell? ⟨gb440, 1, none⟩ = some (.int .i64 a2_1) := (bC_q BK440.out 1).trans rfl; have hcz12_2 : w11.cell? ⟨gb440, 2, none⟩ = some (.int .i64 a2_2) := (bC_q BK440.out 2).trans rfl; have hfz12_0 := bF_q BK440.out 0; have hfz12_1 := bF_q BK440.out 1; have hfz12_2 := bF_q BK440.out 2) | (go_at_call 50; (with_reducible refine (impl_outageValid.calls a2_0 a2_1 a2_2 t445 _ A10.out).mono ?_); rintro e w13 ⟨rfl, hb⟩; have n0_ := Ae_q (rO_q (rup HO443.out) hb); have n1_ := Ae_q (bB_q (g := gb440) (o := .cells #[.int .i64 a2_0, .int .i64 a2_1, .int .i64 a2_2] 52 (0, 0)) (bup BK440.out) hb); have n2_ := Ae_q (bT_q (by repeat (with_reducible first | exact HB.out | apply bA_q | apply pB_q | apply bD_q | refine bS_q ?_ GE440.out)) hb); clear HO443; clear BK440; clear HB; have HO443 := n0_; have BK440 := n1_; have HB := n2_; clear n0_ n1_ n2_; (try clear hb); (try clear hb2); (try clear hk); (try clear hi)))
  go_meet
  case rel => exact ⟨_, (!t445), (by first | rfl | (simp; done) | (simp [*]; done)), H', ⟨by first | omega | exact nR_q _⟩, ⟨by (with_reducible repeat (first | apply rA_q | apply rN_q | apply rD_q)); exact HO443.out⟩, ⟨by (with_reducible repeat (first | refine bN_q ?_ _ | refine bW_q ?_ | refine bL_q ?_ _)); exact BK440.out⟩, ⟨by repeat (with_reducible first | exact HB.out | apply bA_q | apply pB_q | apply bD_q | refine bS_q ?_ GE440.out)⟩⟩
 case rest =>
  clear HC4
  try clear c1
  try clear c2
  try clear p2
  try clear c3
  try clear c9
  try clear hcz12_0
  try clear hcz12_1
  try clear hcz12_2
  try clear hfz12_0
  try clear hfz12_1
  try clear hfz12_2
  obtain ⟨kq, x19_3, rfl, HA, HJ3, HO_7, BK440, HB⟩ := hcut
  cases kq with
  | zero => exact absurd HA.out (by simp [impl_OutageHits.j0])
  | succ kj3 =>
   have H := HA.out
   clear HA
   simp only [impl_OutageHits.j0] at H
   by_cases c15 : x19_3 = true
   ·subst c15
    have H1 : (some y441) = some r := by rw [if_pos rfl] at H; exact H
    clear H
    have H := H1
    clear H1
    obtain rfl := oI_q H
    go_wp2
    go_ret
    exact ⟨_, by first | rfl | (simp [eN_q, eS_q] <;> rfl) | (simp [*, eN_q, eS_q] <;> rfl), by (with_reducible repeat (first | apply rA_q | apply rN_q | apply rD_q)); exact HO_7.out, by repeat (with_reducible first | exact HB.out | apply bA_q | apply pB_q | apply bD_q | refine bS_q ?_ GE440.out)⟩
   replace c15 := fM_q.mpr c15
   subst c15
   have H1 : (impl_OutageHits.l0 kj3 l1 y441 l0 (l0.length : Int) 0 a2_0 a2_1 a2_2) = some r := by rw [if_neg (show ¬ (false = true) by decide)] at H; exact H
   clear H
   have H := H1
   clear H1
   have H' := Ae_q H
   clear H
   go_wp2
   go_loopg [7, 23] kj3 (fun kq v7 v23 w' => ∃ (x7_2 : List Int) (x23_2 : Int), v23 = .int .i64 x23_2 ∧ Aside0 (impl_OutageHits.l0 kq l1 x7_2 l0 (l0.length : Int) x23_2 a2_0 a2_1 a2_2 = some r) ∧ Aside0 (kq ≤ kj3) ∧ Aside0 (Kd.R kI_q 3 w' w.heap.size (fun _ => True) v7 x7_2) ∧ Aside0 (w'.heap[gb440]? = some (.cells #[.int .i64 a2_0, .int .i64 a2_1, .int .i64 a2_2] 52 (0, 0))) ∧ Aside0 (Below w.heap.size w w'))
   case atStart => exact ⟨(y441), (0), (by first | rfl | (simp; done) | (simp [*]; done)), H', ⟨nR_q _⟩, ⟨by (with_reducible repeat (first | apply rA_q | apply rN_q | apply rD_q)); exact HO_7.out⟩, ⟨by (with_reducible repeat (first | refine bN_q ?_ _ | refine bW_q ?_ | refine bL_q ?_ _)); exact BK440.out⟩, ⟨by repeat (with_reducible first | exact HB.out | apply bA_q | apply pB_q | apply bD_q | refine bS_q ?_ GE440.out)⟩⟩
   case round =>
    clear H'
    try clear c1
    try clear c2
    try clear p2
    try clear c3
    try clear c9
    try clear c15
    try clear hcz12_0
    try clear hcz12_1
    try clear hcz12_2
    try clear hfz12_0
    try clear hfz12_1
    try clear hfz12_2
    try clear p2
    obtain ⟨x7_2, x23_2, rfl, HA, HK2, HO_7, BK440, HB⟩ := hrel
    cases gk with
    | zero => exact absurd HA.out (by simp [impl_OutageHits.l0])
    | succ k2 =>
     have H := HA.out
     clear HA
     simp only [impl_OutageHits.l0] at H
     by_cases c16 : x23_2 < (l0.length : Int)
     rotate_left
     ·rw [if_neg c16] at H
      have c16b0 : decide (x23_2 < (l0.length : Int)) = false := dF_q c16
      clear c16
      obtain rfl := oI_q H
      go_wp2
      go_ret
      exact ⟨_, by first | rfl | (simp [eN_q, eS_q] <;> rfl) | (simp [*, eN_q, eS_q] <;> rfl), by (with_reducible repeat (first | apply rA_q | apply rN_q | apply rD_q)); exact HO_7.out, by repeat (with_reducible first | exact HB.out | apply bA_q | apply pB_q | apply bD_q | refine bS_q ?_ GE440.out)⟩
     rw [if_pos c16] at H
     have c16b0 : decide (x23_2 < (l0.length : Int)) = true := dT_q c16
     clear c16
     by_cases c17 : 0 ≤ x23_2
     rotate_left
     ·rw [if_neg c17] at H
      exact absurd H (by simp)
     rw [if_pos c17] at H
     have c17b0 : decide (0 ≤ x23_2) = true := dT_q c17
     clear c17
     by_cases c18 : x23_2 < (l0.length : Int)
     rotate_left
     ·rw [if_neg c18] at H
      exact absurd H (by simp)
     rw [if_pos c18] at H
     have c18b0 : decide (x23_2 < (l0.length : Int)) = true := dT_q c18
     clear c18
     by_cases c19 : x23_2 < (l1.length : Int)
     rotate_left
     ·rw [if_neg c19] at H
      exact absurd H (by simp)
     rw [if_pos c19] at H
     have c19b0 : decide (x23_2 < (l1.length : Int)) = true := dT_q c19
     clear c19
     replace H := oB_q.mp H
     obtain ⟨t449, A200, H⟩ := H
     replace H : (if t449 = true then (if x7_2.length < 17592186044416 then (impl_OutageHits.l0 k2 l1 (x7_2 ++ [x23_2]) l0 (l0.length : Int) (wrap64 (x23_2 + 1)) a2_0 a2_1 a2_2) else (none)) else (impl_OutageHits.l0 k2 l1 x7_2 l0 (l0.length : Int) (wrap64 (x23_2 + 1)) a2_0 a2_1 a2_2)) = some r := H
     have A20 := Ae_q A200
     clear A200
     by_cases c21 : t449 = true
     rotate_left
     ·replace c21 := fM_q.mpr c21
      subst c21
      have H1 : (impl_OutageHits.l0 k2 l1 x7_2 l0 (l0.length : Int) (wrap64 (x23_2 + 1)) a2_0 a2_1 a2_2) = some r := by rw [if_neg (show ¬ (false = true) by decide)] at H; exact H
      clear H
      have H := H1
      clear H1
      have H' := Ae_q H
      clear H
      have p446 : 0 ≤ (x23_2 : Int) := oD_q (by assumption)
      have q446 : x23_2 < (l0.length : Int) := oD_q (by assumption)
      obtain ⟨ad446, A446_3, c446_3, e446, hx446_0, hx446_1, hx446_2, hx446_3, hl446_3, hi446_3⟩ := at_T31 HR0.out x23_2 p446 q446
      cases e446
      replace hx446_0 := cel HB.out hx446_0
      replace hx446_1 := cel HB.out hx446_1
      replace hx446_2 := cel HB.out hx446_2
      replace hx446_3 := cel HB.out hx446_3
      have HR446_3 := Ae_q hi446_3
      have HC446_3 := Ae_q hl446_3
      clear hi446_3 hl446_3
      replace p446 := eq_true p446
      replace q446 := eq_true q446
      try go_wp2_with (first | ((with_reducible refine gD_q (N := 9) rfl ?_); refine bE_q ?hg (N := 9) ?hd (cs := #[.int .i64 0, .int .i64 0, .int .i64 0, .slice none 0 0]) (t := 31) ?hr ?_; (case hd => rfl); (case hg => rfl); (case hr => first | (go_simp; done) | (go_simp; rfl)); intro gb447 hg w30 hbox hb; have n0_ := Ae_q (rO_q (rup HO_7.out) hb); have n1_ := Ae_q (bB_q (g := gb440) (o := .cells #[.int .i64 a2_0, .int .i64 a2_1, .int .i64 a2_2] 52 (0, 0)) (bup BK440.out) hb); have n2_ := Ae_q (bT_q (by repeat (with_reducible first | exact HB.out | apply bA_q | apply pB_q | apply bD_q | refine bS_q ?_ GE440.out)) hb); have n3_ := Ae_q (hbox); have n4_ := Ae_q ((by rw [hg]; exact (bZ_q (by repeat (with_reducible first | exact HB.out | apply bA_q | apply pB_q | apply bD_q | refine bS_q ?_ GE440.out))) : w.heap.size ≤ gb447)); have n5_ := Ae_q ((by rw [hg]; exact (bZ_q (by repeat (with_reducible first | exact HB.out | apply bA_q | apply pB_q | apply bD_q | refine bS_q ?_ GE440.out))) : w.heap.size ≤ gb447)); have n6_ := Ae_q ((by rw [hg]; exact nL_q (blk_lt (g := gb440) (o := .cells #[.int .i64 a2_0, .int .i64 a2_1, .int .i64 a2_2] 52 (0, 0)) (bup BK440.out)) : gb440 ≠ gb447)); have n7_ := Ae_q ((by rw [hg]; exact nG_q (blk_lt (g := gb440) (o := .cells #[.int .i64 a2_0, .int .i64 a2_1, .int .i64 a2_2] 52 (0, 0)) (bup BK440.out)) : gb447 ≠ gb440)); clear HO_7; clear BK440; clear HB; have HO_7 := n0_; have BK440 := n1_; have HB := n2_; have BK447 := n3_; have GW447 := n4_; have GE447 := n5_; have NB440_447 := n6_; have NB447_440 := n7_; clear n0_ n1_ n2_ n3_ n4_ n5_ n6_ n7_; clear hb hbox hg; have hnb31 := NB447_440.out; have hnc31 := NB440_447.out; have hcz32_0 : w30.cell? ⟨gb447, 0, none⟩ = some (.int .i64 0) := (bC_q BK447.out 0).trans rfl; have hcz32_1 : w30.cell? ⟨gb447, 1, none⟩ = some (.int .i64 0) := (bC_q BK447.out 1).trans rfl; have hcz32_2 : w30.cell? ⟨gb447, 2, none⟩ = some (.int .i64 0) := (bC_q BK447.out 2).trans rfl; have hcz32_3 : w30.cell? ⟨gb447, 3, none⟩ = some (.slice none 0 0) := (bC_q BK447.out 3).trans rfl; have hfz32_0 := bF_q BK447.out 0; have hfz32_1 := bF_q BK447.out 1; have hfz32_2 := bF_q BK447.out 2; have hfz32_3 := bF_q BK447.out 3))
      have n0_ : Aside0 (Kd.R kI_q 3 ((((w30.setCell ⟨gb447, 0, none⟩ (.int .i64 ((rd_T31 l0 x23_2).f0))).setCell ⟨gb447, 1, none⟩ (.int .i64 ((rd_T31 l0 x23_2).f1))).setCell ⟨gb447, 2, none⟩ (.int .i64 ((rd_T31 l0 x23_2).f2))).setCell ⟨gb447, 3, none⟩ (.slice A446_3 ((rd_T31 l0 x23_2).f3).length c446_3)) w.heap.size (fun _ => True) u7 x7_2) := ⟨by (with_reducible repeat (first | apply rA_q | apply rN_q | apply rD_q)); exact rM_q (Kd.R_far (p := ⟨gb447, 3, none⟩) (Kd.R_far (p := ⟨gb447, 2, none⟩) (Kd.R_far (p := ⟨gb447, 1, none⟩) (Kd.R_far (p := ⟨gb447, 0, none⟩) (Kd.R_types HO_7.out BK447.out (by decide)) (fun _ hk => hk.2) (.int .i64 ((rd_T31 l0 x23_2).f0))) (fun _ hk => hk.2) (.int .i64 ((rd_T31 l0 x23_2).f1))) (fun _ hk => hk.2) (.int .i64 ((rd_T31 l0 x23_2).f2))) (fun _ hk => hk.2) (.slice A446_3 ((rd_T31 l0 x23_2).f3).length c446_3)) (fun _ hk => trivial)⟩
      have n1_ : Aside0 (((((w30.setCell ⟨gb447, 0, none⟩ (.int .i64 ((rd_T31 l0 x23_2).f0))).setCell ⟨gb447, 1, none⟩ (.int .i64 ((rd_T31 l0 x23_2).f1))).setCell ⟨gb447, 2, none⟩ (.int .i64 ((rd_T31 l0 x23_2).f2))).setCell ⟨gb447, 3, none⟩ (.slice A446_3 ((rd_T31 l0 x23_2).f3).length c446_3)).heap[gb440]? = some (.cells #[.int .i64 a2_0, .int .i64 a2_1, .int .i64 a2_2] 52 (0, 0))) := ⟨by (with_reducible repeat (first | refine bN_q ?_ _ | refine bW_q ?_ | refine bL_q ?_ _)); refine blk_far ?_ NB440_447.out _; (with_reducible repeat (first | refine bN_q ?_ _ | refine bW_q ?_ | refine bL_q ?_ _)); refine blk_far ?_ NB440_447.out _; (with_reducible repeat (first | refine bN_q ?_ _ | refine bW_q ?_ | refine bL_q ?_ _)); refine blk_far ?_ NB440_447.out _; (with_reducible repeat (first | refine bN_q ?_ _ | refine bW_q ?_ | refine bL_q ?_ _)); refine blk_far ?_ NB440_447.out _; (with_reducible repeat (first | refine bN_q ?_ _ | refine bW_q ?_ | refine bL_q ?_ _)); exact BK440.out⟩
      have n2_ : Aside0 (((((w30.setCell ⟨gb447, 0, none⟩ (.int .i64 ((rd_T31 l0 x23_2).f0))).setCell ⟨gb447, 1, none⟩ (.int .i64 ((rd_T31 l0 x23_2).f1))).setCell ⟨gb447, 2, none⟩ (.int .i64 ((rd_T31 l0 x23_2).f2))).setCell ⟨gb447, 3, none⟩ (.slice A446_3 ((rd_T31 l0 x23_2).f3).length c446_3)).heap[gb447]? = some (.cells #[.int .i64 ((rd_T31 l0 x23_2).f0), .int .i64 ((rd_T31 l0 x23_2).f1), .int .i64 ((rd_T31 l0 x23_2).f2), .slice A446_3 ((rd_T31 l0 x23_2).f3).length c446_3] 31 (0, 0))) := ⟨by (with_reducible repeat (first | refine bN_q ?_ _ | refine bW_q ?_ | refine bL_q ?_ _)); refine blk_put (cs := #[.int .i64 ((rd_T31 l0 x23_2).f0), .int .i64 ((rd_T31 l0 x23_2).f1), .int .i64 ((rd_T31 l0 x23_2).f2), .slice none 0 0]) ?_ 3 _ rfl; (with_reducible repeat (first | refine bN_q ?_ _ | refine bW_q ?_ | refine bL_q ?_ _)); refine blk_put (cs := #[.int .i64 ((rd_T31 l0 x23_2).f0), .int .i64 ((rd_T31 l0 x23_2).f1), .int .i64 0, .slice none 0 0]) ?_ 2 _ rfl; (with_reducible repeat (first | refine bN_q ?_ _ | refine bW_q ?_ | refine bL_q ?_ _)); refine blk_put (cs := #[.int .i64 ((rd_T31 l0 x23_2).f0), .int .i64 0, .int .i64 0, .slice none 0 0]) ?_ 1 _ rfl; (with_reducible repeat (first | refine bN_q ?_ _ | refine bW_q ?_ | refine bL_q ?_ _)); refine blk_put (cs := #[.int .i64 0, .int .i64 0, .int .i64 0, .slice none 0 0]) ?_ 0 _ rfl; (with_reducible repeat (first | refine bN_q ?_ _ | refine bW_q ?_ | refine bL_q ?_ _)); exact BK447.out⟩
      have n3_ : Aside0 (Below w.heap.size w ((((w30.setCell ⟨gb447, 0, none⟩ (.int .i64 ((rd_T31 l0 x23_2).f0))).setCell ⟨gb447, 1, none⟩ (.int .i64 ((rd_T31 l0 x23_2).f1))).setCell ⟨gb447, 2, none⟩ (.int .i64 ((rd_T31 l0 x23_2).f2))).setCell ⟨gb447, 3, none⟩ (.slice A446_3 ((rd_T31 l0 x23_2).f3).length c446_3))) := ⟨by repeat (with_reducible first | exact HB.out | apply bA_q | apply pB_q | apply bD_q | refine bS_q ?_ GE440.out | refine bS_q ?_ GE447.out)⟩
      (try clear HO_7)
      (try clear BK440)
      (try clear BK447)
      (try clear HB)
      generalize ((((w30.setCell ⟨gb447, 0, none⟩ (.int .i64 ((rd_T31 l0 x23_2).f0))).setCell ⟨gb447, 1, none⟩ (.int .i64 ((rd_T31 l0 x23_2).f1))).setCell ⟨gb447, 2, none⟩ (.int .i64 ((rd_T31 l0 x23_2).f2))).setCell ⟨gb447, 3, none⟩ (.slice A446_3 ((rd_T31 l0 x23_2).f3).length c446_3)) = w33 at n0_ n1_ n2_ n3_ ⊢
      have HO_7 := n0_
      have BK440 := n1_
      have BK447 := n2_
      have HB := n3_
      clear n0_ n1_ n2_ n3_
      have n0_ := Ae_q (rD_q HO_7.out)
      have n1_ := Ae_q (bW_q BK440.out)
      have n2_ := Ae_q (bW_q BK447.out)
      have n3_ := Ae_q (bD_q HB.out)
      clear HO_7
      clear BK440
      clear BK447
      clear HB
      have HO_7 := n0_
      have BK440 := n1_
      have BK447 := n2_
      have HB := n3_
      clear n0_ n1_ n2_ n3_
      have p448 : 0 ≤ (x23_2 : Int) := oD_q (by assumption)
      have q448 : x23_2 < (l1.length : Int) := oD_q (by assumption)
      obtain ⟨ad448, e448, hx448_0⟩ := aI_q HR1.out x23_2 p448 q448
      have hw448_0 := hx448_0
      cases e448
      replace hx448_0 := cel HB.out hx448_0
      replace p448 := eq_true p448
      replace q448 := eq_true q448
      refine start_ (n := 7) (S := fun w' => w'.cell? ⟨gb440, 0, none⟩ = some (.int .i64 a2_0) ∧ w'.cell? ⟨gb440, 1, none⟩ = some (.int .i64 a2_1) ∧ w'.cell? ⟨gb440, 2, none⟩ = some (.int .i64 a2_2) ∧ w'.cell? ⟨gb447, 0, none⟩ = some (.int .i64 ((rd_T31 l0 x23_2).f0)) ∧ w'.cell? ⟨gb447, 1, none⟩ = some (.int .i64 ((rd_T31 l0 x23_2).f1)) ∧ w'.cell? ⟨gb447, 2, none⟩ = some (.int .i64 ((rd_T31 l0 x23_2).f2)) ∧ w'.cell? ⟨gb447, 3, none⟩ = some (.slice A446_3 ((rd_T31 l0 x23_2).f3).length c446_3) ∧ w'.cell? (ad448.add (x23_2).toNat) = some (.int .i64 (rd l1 x23_2))) (ds := []) #[false, false, false, false, false, false, false] (by kernel_rfl) rfl rfl ⟨(bC_q BK440.out 0).trans rfl, (bC_q BK440.out 1).trans rfl, (bC_q BK440.out 2).trans rfl, (bC_q BK447.out 0).trans rfl, (bC_q BK447.out 1).trans rfl, (bC_q BK447.out 2).trans rfl, (bC_q BK447.out 3).trans rfl, (cel HB.out hw448_0)⟩ (fun hHeld => ?_)
      generalize w33.drew = w34 at HO_7 BK440 BK447 HB hx448_0 hHeld ⊢
      refine pure_ (i := 2) (N := some 30) (v := ?_) (a' := ?_) #[false, false, true, false, false, false, false] rfl rfl (by kernel_rfl) (fun _ _ _ h => h) (Or.inl ⟨by rfl, ?_⟩) ?_ ?_
      rotate_left
      ·intro w'
       go_simp
       with_reducible rfl
      rotate_left
      ·simp only [Act.put, sA_q, sZ_q, sS_q, i64_w, i32_w]
       rfl
      refine pure_ (i := 3) (N := some 31) (v := ?_) (a' := ?_) #[false, false, true, true, false, false, false] rfl rfl (by kernel_rfl) (fun _ _ _ h => h) (Or.inl ⟨by rfl, ?_⟩) ?_ ?_
      rotate_left
      ·intro w'
       go_simp
       with_reducible rfl
      rotate_left
      ·simp only [Act.put, sA_q, sZ_q, sS_q, i64_w, i32_w]
       rfl
      refine pure_ (i := 4) (N := some 32) (v := ?_) (a' := ?_) #[false, false, true, true, true, false, false] rfl rfl (by kernel_rfl) (fun _ _ _ h => h) (Or.inl ⟨by rfl, ?_⟩) ?_ ?_
      rotate_left
      ·intro w'
       go_simp
       with_reducible rfl
      rotate_left
      ·simp only [Act.put, sA_q, sZ_q, sS_q, i64_w, i32_w]
       rfl
      refine take_ (i := 0) (N := some 28) (v := ?_) (a' := ?_) #[true, false, true, true, true, false, false] rfl rfl (by kernel_rfl) (fun _ _ _ h => h) (Or.inl ⟨by rfl, ?_⟩) hHeld ?_ ?_
      rotate_left
      ·rintro w' ⟨s0, s1, s2, s3, s4, s5, s6, s7⟩
       go_simp
       with_reducible rfl
      rotate_left
      ·simp only [Act.put, sA_q, sZ_q, sS_q, i64_w, i32_w]
       rfl
      refine take_ (i := 1) (N := some 29) (v := ?_) (a' := ?_) #[true, true, true, true, true, false, false] rfl rfl (by kernel_rfl) (fun _ _ _ h => h) (Or.inl ⟨by rfl, ?_⟩) hHeld ?_ ?_
      rotate_left
      ·rintro w' ⟨s0, s1, s2, s3, s4, s5, s6, s7⟩
       go_simp
       with_reducible rfl
      rotate_left
      ·simp only [Act.put, sA_q, sZ_q, sS_q, i64_w, i32_w]
       rfl
      refine take_ (i := 5) (N := some 33) (v := ?_) (a' := ?_) #[true, true, true, true, true, true, false] rfl rfl (by kernel_rfl) (fun _ _ _ h => h) (Or.inl ⟨by rfl, ?_⟩) hHeld ?_ ?_
      rotate_left
      ·rintro w' ⟨s0, s1, s2, s3, s4, s5, s6, s7⟩
       go_simp
       with_reducible rfl
      rotate_left
      ·simp only [Act.put, sA_q, sZ_q, sS_q, i64_w, i32_w]
       rfl
      refine one_ (i := 6) (N := some 34) #[true, true, true, true, true, true, true] rfl rfl (by kernel_rfl) (by decide) (fun K hK => ?_)
      refine goes_ Try.func51 (by kernel_rfl) rfl #[.agg #[.int .i64 a2_0, .int .i64 a2_1, .int .i64 a2_2], .agg #[.int .i64 ((rd_T31 l0 x23_2).f0), .int .i64 ((rd_T31 l0 x23_2).f1), .int .i64 ((rd_T31 l0 x23_2).f2), .slice A446_3 ((rd_T31 l0 x23_2).f3).length c446_3], .int .i64 (rd l1 x23_2)] (by rfl) rfl rfl (by (try simp only [lM_q, lC_q, lN_q]); first | done | rfl | (simp only [lD_q, lT_q]; rfl)) ?_
      with_reducible refine (impl_Outage_disturbs.calls a2_0 a2_1 a2_2 ((rd_T31 l0 x23_2).f0) ((rd_T31 l0 x23_2).f1) ((rd_T31 l0 x23_2).f2) _ _ ((rd_T31 l0 x23_2).f3) (rd l1 x23_2) false _ ?side1 ?side2 A20.out).mono ?_
      (case side1 => exact cup (cB_q HR446_3.out HB.out))
      (case side2 => exact HC446_3.out)
      rintro e w35 ⟨rfl, hb⟩
      refine ⟨_, rfl, ?_⟩
      have n0_ := Ae_q (rO_q (rup HO_7.out) hb)
      have n1_ := Ae_q (bB_q (g := gb440) (o := .cells #[.int .i64 a2_0, .int .i64 a2_1, .int .i64 a2_2] 52 (0, 0)) (bup BK440.out) hb)
      have n2_ := Ae_q (bB_q (g := gb447) (o := .cells #[.int .i64 ((rd_T31 l0 x23_2).f0), .int .i64 ((rd_T31 l0 x23_2).f1), .int .i64 ((rd_T31 l0 x23_2).f2), .slice A446_3 ((rd_T31 l0 x23_2).f3).length c446_3] 31 (0, 0)) (bup BK447.out) hb)
      have n3_ := Ae_q (bT_q (by repeat (with_reducible first | exact HB.out | apply bA_q | apply pB_q | apply bD_q | refine bS_q ?_ GE440.out | refine bS_q ?_ GE447.out)) hb)
      clear HO_7
      clear BK440
      clear BK447
      clear HB
      have HO_7 := n0_
      have BK440 := n1_
      have BK447 := n2_
      have HB := n3_
      clear n0_ n1_ n2_ n3_
      (try clear hb)
      (try clear hb2)
      (try clear hk)
      (try clear hi)
      refine hK.out _ _ ⟨(bC_q BK440.out 0).trans rfl, (bC_q BK440.out 1).trans rfl, (bC_q BK440.out 2).trans rfl, (bC_q BK447.out 0).trans rfl, (bC_q BK447.out 1).trans rfl, (bC_q BK447.out 2).trans rfl, (bC_q BK447.out 3).trans rfl, (cel HB.out hw448_0)⟩ (fun hHeld => ?_)
      clear hK K
      refine norm_ (a' := ?_) ?_ ?_
      rotate_left
      ·show Act.put _ (some 34) _ = _
       simp only [Act.put, sA_q, sZ_q, sS_q, i64_w, i32_w]
       rfl
      refine done_ (by kernel_rfl) ?_
      try go_wp2
      go_roundg k2
      case measure => have := HJ3.out; have := HK2.out; omega
      case rel => exact ⟨(x7_2), (wrap64 (x23_2 + 1)), (by first | rfl | (simp; done) | (simp [*]; done)), H', ⟨by have := HJ3.out; have := HK2.out; omega⟩, ⟨by (with_reducible repeat (first | apply rA_q | apply rN_q | apply rD_q)); exact HO_7.out⟩, ⟨by (with_reducible repeat (first | refine bN_q ?_ _ | refine bW_q ?_ | refine bL_q ?_ _)); exact BK440.out⟩, ⟨by repeat (with_reducible first | exact HB.out | apply bA_q | apply pB_q | apply bD_q | refine bS_q ?_ GE440.out | refine bS_q ?_ GE447.out)⟩⟩
     subst c21
     have H1 : (if x7_2.length < 17592186044416 then (impl_OutageHits.l0 k2 l1 (x7_2 ++ [x23_2]) l0 (l0.length : Int) (wrap64 (x23_2 + 1)) a2_0 a2_1 a2_2) else (none)) = some r := by rw [if_pos rfl] at H; exact H
     clear H
     have H := H1
     clear H1
     by_cases c22 : x7_2.length < 17592186044416
     rotate_left
     ·rw [if_neg c22] at H
      exact absurd H (by simp)
     rw [if_pos c22] at H
     have LMc22 := Ae_q c22
     clear c22
     obtain ⟨y450, hy450⟩ : ∃ y_ : List Int, y_ = (x7_2 ++ [x23_2]) := ⟨_, rfl⟩
     replace H : (impl_OutageHits.l0 k2 l1 y450 l0 (l0.length : Int) (wrap64 (x23_2 + 1)) a2_0 a2_1 a2_2) = some r := by first | (rw [hy450]; with_reducible exact H) | (have H2_ := (oS_q _ _).symm.trans H; rw [hy450]; with_reducible exact H2_) | (have H2_ := (oS_q _ _).symm.trans H; with_reducible exact H2_) | with_reducible exact H | (rw [hy450]; exact H) | exact H
     have Ny450 := Ae_q hy450
     clear hy450
     have H' := Ae_q H
     clear H
     have p446 : 0 ≤ (x23_2 : Int) := oD_q (by assumption)
     have q446 : x23_2 < (l0.length : Int) := oD_q (by assumption)
     obtain ⟨ad446, A446_3, c446_3, e446, hx446_0, hx446_1, hx446_2, hx446_3, hl446_3, hi446_3⟩ := at_T31 HR0.out x23_2 p446 q446
     cases e446
     replace hx446_0 := cel HB.out hx446_0
     replace hx446_1 := cel HB.out hx446_1
     replace hx446_2 := cel HB.out hx446_2
     replace hx446_3 := cel HB.out hx446_3
     have HR446_3 := Ae_q hi446_3
     have HC446_3 := Ae_q hl446_3
     clear hi446_3 hl446_3
     replace p446 := eq_true p446
     replace q446 := eq_true q446
     try go_wp2_with (first | ((with_reducible refine gD_q (N := 9) rfl ?_); refine bE_q ?hg (N := 9) ?hd (cs := #[.int .i64 0, .int .i64 0, .int .i64 0, .slice none 0 0]) (t := 31) ?hr ?_; (case hd => rfl); (case hg => rfl); (case hr => first | (go_simp; done) | (go_simp; rfl)); intro gb447 hg w23 hbox hb; have n0_ := Ae_q (rO_q (rup HO_7.out) hb); have n1_ := Ae_q (bB_q (g := gb440) (o := .cells #[.int .i64 a2_0, .int .i64 a2_1, .int .i64 a2_2] 52 (0, 0)) (bup BK440.out) hb); have n2_ := Ae_q (bT_q (by repeat (with_reducible first | exact HB.out | apply bA_q | apply pB_q | apply bD_q | refine bS_q ?_ GE440.out)) hb); have n3_ := Ae_q (hbox); have n4_ := Ae_q ((by rw [hg]; exact (bZ_q (by repeat (with_reducible first | exact HB.out | apply bA_q | apply pB_q | apply bD_q | refine bS_q ?_ GE440.out))) : w.heap.size ≤ gb447)); have n5_ := Ae_q ((by rw [hg]; exact (bZ_q (by repeat (with_reducible first | exact HB.out | apply bA_q | apply pB_q | apply bD_q | refine bS_q ?_ GE440.out))) : w.heap.size ≤ gb447)); have n6_ := Ae_q ((by rw [hg]; exact nL_q (blk_lt (g := gb440) (o := .cells #[.int .i64 a2_0, .int .i64 a2_1, .int .i64 a2_2] 52 (0, 0)) (bup BK440.out)) : gb440 ≠ gb447)); have n7_ := Ae_q ((by rw [hg]; exact nG_q (blk_lt (g := gb440) (o := .cells #[.int .i64 a2_0, .int .i64 a2_1, .int .i64 a2_2] 52 (0, 0)) (bup BK440.out)) : gb447 ≠ gb440)); clear HO_7; clear BK440; clear HB; have HO_7 := n0_; have BK440 := n1_; have HB := n2_; have BK447 := n3_; have GW447 := n4_; have GE447 := n5_; have NB440_447 := n6_; have NB447_440 := n7_; clear n0_ n1_ n2_ n3_ n4_ n5_ n6_ n7_; clear hb hbox hg; have hnb24 := NB447_440.out; have hnc24 := NB440_447.out; have hcz25_0 : w23.cell? ⟨gb447, 0, none⟩ = some (.int .i64 0) := (bC_q BK447.out 0).trans rfl; have hcz25_1 : w23.cell? ⟨gb447, 1, none⟩ = some (.int .i64 0) := (bC_q BK447.out 1).trans rfl; have hcz25_2 : w23.cell? ⟨gb447, 2, none⟩ = some (.int .i64 0) := (bC_q BK447.out 2).trans rfl; have hcz25_3 : w23.cell? ⟨gb447, 3, none⟩ = some (.slice none 0 0) := (bC_q BK447.out 3).trans rfl; have hfz25_0 := bF_q BK447.out 0; have hfz25_1 := bF_q BK447.out 1; have hfz25_2 := bF_q BK447.out 2; have hfz25_3 := bF_q BK447.out 3))
     have n0_ : Aside0 (Kd.R kI_q 3 ((((w23.setCell ⟨gb447, 0, none⟩ (.int .i64 ((rd_T31 l0 x23_2).f0))).setCell ⟨gb447, 1, none⟩ (.int .i64 ((rd_T31 l0 x23_2).f1))).setCell ⟨gb447, 2, none⟩ (.int .i64 ((rd_T31 l0 x23_2).f2))).setCell ⟨gb447, 3, none⟩ (.slice A446_3 ((rd_T31 l0 x23_2).f3).length c446_3)) w.heap.size (fun _ => True) u7 x7_2) := ⟨by (with_reducible repeat (first | apply rA_q | apply rN_q | apply rD_q)); exact rM_q (Kd.R_far (p := ⟨gb447, 3, none⟩) (Kd.R_far (p := ⟨gb447, 2, none⟩) (Kd.R_far (p := ⟨gb447, 1, none⟩) (Kd.R_far (p := ⟨gb447, 0, none⟩) (Kd.R_types HO_7.out BK447.out (by decide)) (fun _ hk => hk.2) (.int .i64 ((rd_T31 l0 x23_2).f0))) (fun _ hk => hk.2) (.int .i64 ((rd_T31 l0 x23_2).f1))) (fun _ hk => hk.2) (.int .i64 ((rd_T31 l0 x23_2).f2))) (fun _ hk => hk.2) (.slice A446_3 ((rd_T31 l0 x23_2).f3).length c446_3)) (fun _ hk => trivial)⟩
     have n1_ : Aside0 (((((w23.setCell ⟨gb447, 0, none⟩ (.int .i64 ((rd_T31 l0 x23_2).f0))).setCell ⟨gb447, 1, none⟩ (.int .i64 ((rd_T31 l0 x23_2).f1))).setCell ⟨gb447, 2, none⟩ (.int .i64 ((rd_T31 l0 x23_2).f2))).setCell ⟨gb447, 3, none⟩ (.slice A446_3 ((rd_T31 l0 x23_2).f3).length c446_3)).heap[gb440]? = some (.cells #[.int .i64 a2_0, .int .i64 a2_1, .int .i64 a2_2] 52 (0, 0))) := ⟨by (with_reducible repeat (first | refine bN_q ?_ _ | refine bW_q ?_ | refine bL_q ?_ _)); refine blk_far ?_ NB440_447.out _; (with_reducible repeat (first | refine bN_q ?_ _ | refine bW_q ?_ | refine bL_q ?_ _)); refine blk_far ?_ NB440_447.out _; (with_reducible repeat (first | refine bN_q ?_ _ | refine bW_q ?_ | refine bL_q ?_ _)); refine blk_far ?_ NB440_447.out _; (with_reducible repeat (first | refine bN_q ?_ _ | refine bW_q ?_ | refine bL_q ?_ _)); refine blk_far ?_ NB440_447.out _; (with_reducible repeat (first | refine bN_q ?_ _ | refine bW_q ?_ | refine bL_q ?_ _)); exact BK440.out⟩
     have n2_ : Aside0 (((((w23.setCell ⟨gb447, 0, none⟩ (.int .i64 ((rd_T31 l0 x23_2).f0))).setCell ⟨gb447, 1, none⟩ (.int .i64 ((rd_T31 l0 x23_2).f1))).setCell ⟨gb447, 2, none⟩ (.int .i64 ((rd_T31 l0 x23_2).f2))).setCell ⟨gb447, 3, none⟩ (.slice A446_3 ((rd_T31 l0 x23_2).f3).length c446_3)).heap[gb447]? = some (.cells #[.int .i64 ((rd_T31 l0 x23_2).f0), .int .i64 ((rd_T31 l0 x23_2).f1), .int .i64 ((rd_T31 l0 x23_2).f2), .slice A446_3 ((rd_T31 l0 x23_2).f3).length c446_3] 31 (0, 0))) := ⟨by (with_reducible repeat (first | refine bN_q ?_ _ | refine bW_q ?_ | refine bL_q ?_ _)); refine blk_put (cs := #[.int .i64 ((rd_T31 l0 x23_2).f0), .int .i64 ((rd_T31 l0 x23_2).f1), .int .i64 ((rd_T31 l0 x23_2).f2), .slice none 0 0]) ?_ 3 _ rfl; (with_reducible repeat (first | refine bN_q ?_ _ | refine bW_q ?_ | refine bL_q ?_ _)); refine blk_put (cs := #[.int .i64 ((rd_T31 l0 x23_2).f0), .int .i64 ((rd_T31 l0 x23_2).f1), .int .i64 0, .slice none 0 0]) ?_ 2 _ rfl; (with_reducible repeat (first | refine bN_q ?_ _ | refine bW_q ?_ | refine bL_q ?_ _)); refine blk_put (cs := #[.int .i64 ((rd_T31 l0 x23_2).f0), .int .i64 0, .int .i64 0, .slice none 0 0]) ?_ 1 _ rfl; (with_reducible repeat (first | refine bN_q ?_ _ | refine bW_q ?_ | refine bL_q ?_ _)); refine blk_put (cs := #[.int .i64 0, .int .i64 0, .int .i64 0, .slice none 0 0]) ?_ 0 _ rfl; (with_reducible repeat (first | refine bN_q ?_ _ | refine bW_q ?_ | refine bL_q ?_ _)); exact BK447.out⟩
     have n3_ : Aside0 (Below w.heap.size w ((((w23.setCell ⟨gb447, 0, none⟩ (.int .i64 ((rd_T31 l0 x23_2).f0))).setCell ⟨gb447, 1, none⟩ (.int .i64 ((rd_T31 l0 x23_2).f1))).setCell ⟨gb447, 2, none⟩ (.int .i64 ((rd_T31 l0 x23_2).f2))).setCell ⟨gb447, 3, none⟩ (.slice A446_3 ((rd_T31 l0 x23_2).f3).length c446_3))) := ⟨by repeat (with_reducible first | exact HB.out | apply bA_q | apply pB_q | apply bD_q | refine bS_q ?_ GE440.out | refine bS_q ?_ GE447.out)⟩
     (try clear HO_7)
     (try clear BK440)
     (try clear BK447)
     (try clear HB)
     generalize ((((w23.setCell ⟨gb447, 0, none⟩ (.int .i64 ((rd_T31 l0 x23_2).f0))).setCell ⟨gb447, 1, none⟩ (.int .i64 ((rd_T31 l0 x23_2).f1))).setCell ⟨gb447, 2, none⟩ (.int .i64 ((rd_T31 l0 x23_2).f2))).setCell ⟨gb447, 3, none⟩ (.slice A446_3 ((rd_T31 l0 x23_2).f3).length c446_3)) = w26 at n0_ n1_ n2_ n3_ ⊢
     have HO_7 := n0_
     have BK440 := n1_
     have BK447 := n2_
     have HB := n3_
     clear n0_ n1_ n2_ n3_
     have n0_ := Ae_q (rD_q HO_7.out)
     have n1_ := Ae_q (bW_q BK440.out)
     have n2_ := Ae_q (bW_q BK447.out)
     have n3_ := Ae_q (bD_q HB.out)
     clear HO_7
     clear BK440
     clear BK447
     clear HB
     have HO_7 := n0_
     have BK440 := n1_
     have BK447 := n2_
     have HB := n3_
     clear n0_ n1_ n2_ n3_
     have p448 : 0 ≤ (x23_2 : Int) := oD_q (by assumption)
     have q448 : x23_2 < (l1.length : Int) := oD_q (by assumption)
     obtain ⟨ad448, e448, hx448_0⟩ := aI_q HR1.out x23_2 p448 q448
     have hw448_0 := hx448_0
     cases e448
     replace hx448_0 := cel HB.out hx448_0
     replace p448 := eq_true p448
     replace q448 := eq_true q448
     refine start_ (n := 7) (S := fun w' => w'.cell? ⟨gb440, 0, none⟩ = some (.int .i64 a2_0) ∧ w'.cell? ⟨gb440, 1, none⟩ = some (.int .i64 a2_1) ∧ w'.cell? ⟨gb440, 2, none⟩ = some (.int .i64 a2_2) ∧ w'.cell? ⟨gb447, 0, none⟩ = some (.int .i64 ((rd_T31 l0 x23_2).f0)) ∧ w'.cell? ⟨gb447, 1, none⟩ = some (.int .i64 ((rd_T31 l0 x23_2).f1)) ∧ w'.cell? ⟨gb447, 2, none⟩ = some (.int .i64 ((rd_T31 l0 x23_2).f2)) ∧ w'.cell? ⟨gb447, 3, none⟩ = some (.slice A446_3 ((rd_T31 l0 x23_2).f3).length c446_3) ∧ w'.cell? (ad448.add (x23_2).toNat) = some (.int .i64 (rd l1 x23_2))) (ds := []) #[false, false, false, false, false, false, false] (by kernel_rfl) rfl rfl ⟨(bC_q BK440.out 0).trans rfl, (bC_q BK440.out 1).trans rfl, (bC_q BK440.out 2).trans rfl, (bC_q BK447.out 0).trans rfl, (bC_q BK447.out 1).trans rfl, (bC_q BK447.out 2).trans rfl, (bC_q BK447.out 3).trans rfl, (cel HB.out hw448_0)⟩ (fun hHeld => ?_)
     generalize w26.drew = w27 at HO_7 BK440 BK447 HB hx448_0 hHeld ⊢
     refine pure_ (i := 2) (N := some 30) (v := ?_) (a' := ?_) #[false, false, true, false, false, false, false] rfl rfl (by kernel_rfl) (fun _ _ _ h => h) (Or.inl ⟨by rfl, ?_⟩) ?_ ?_
     rotate_left
     ·intro w'
      go_simp
      with_reducible rfl
     rotate_left
     ·simp only [Act.put, sA_q, sZ_q, sS_q, i64_w, i32_w]
      rfl
     refine pure_ (i := 3) (N := some 31) (v := ?_) (a' := ?_) #[false, false, true, true, false, false, false] rfl rfl (by kernel_rfl) (fun _ _ _ h => h) (Or.inl ⟨by rfl, ?_⟩) ?_ ?_
     rotate_left
     ·intro w'
      go_simp
      with_reducible rfl
     rotate_left
     ·simp only [Act.put, sA_q, sZ_q, sS_q, i64_w, i32_w]
      rfl
     refine pure_ (i := 4) (N := some 32) (v := ?_) (a' := ?_) #[false, false, true, true, true, false, false] rfl rfl (by kernel_rfl) (fun _ _ _ h => h) (Or.inl ⟨by rfl, ?_⟩) ?_ ?_
     rotate_left
     ·intro w'
      go_simp
      with_reducible rfl
     rotate_left
     ·simp only [Act.put, sA_q, sZ_q, sS_q, i64_w, i32_w]
      rfl
     refine take_ (i := 0) (N := some 28) (v := ?_) (a' := ?_) #[true, false, true, true, true, false, false] rfl rfl (by kernel_rfl) (fun _ _ _ h => h) (Or.inl ⟨by rfl, ?_⟩) hHeld ?_ ?_
     rotate_left
     ·rintro w' ⟨s0, s1, s2, s3, s4, s5, s6, s7⟩
      go_simp
      with_reducible rfl
     rotate_left
     ·simp only [Act.put, sA_q, sZ_q, sS_q, i64_w, i32_w]
      rfl
     refine take_ (i := 1) (N := some 29) (v := ?_) (a' := ?_) #[true, true, true, true, true, false, false] rfl rfl (by kernel_rfl) (fun _ _ _ h => h) (Or.inl ⟨by rfl, ?_⟩) hHeld ?_ ?_
     rotate_left
     ·rintro w' ⟨s0, s1, s2, s3, s4, s5, s6, s7⟩
      go_simp
      with_reducible rfl
     rotate_left
     ·simp only [Act.put, sA_q, sZ_q, sS_q, i64_w, i32_w]
      rfl
     refine take_ (i := 5) (N := some 33) (v := ?_) (a' := ?_) #[true, true, true, true, true, true, false] rfl rfl (by kernel_rfl) (fun _ _ _ h => h) (Or.inl ⟨by rfl, ?_⟩) hHeld ?_ ?_
     rotate_left
     ·rintro w' ⟨s0, s1, s2, s3, s4, s5, s6, s7⟩
      go_simp
      with_reducible rfl
     rotate_left
     ·simp only [Act.put, sA_q, sZ_q, sS_q, i64_w, i32_w]
      rfl
     refine one_ (i := 6) (N := some 34) #[true, true, true, true, true, true, true] rfl rfl (by kernel_rfl) (by decide) (fun K hK => ?_)
     refine goes_ Try.func51 (by kernel_rfl) rfl #[.agg #[.int .i64 a2_0, .int .i64 a2_1, .int .i64 a2_2], .agg #[.int .i64 ((rd_T31 l0 x23_2).f0), .int .i64 ((rd_T31 l0 x23_2).f1), .int .i64 ((rd_T31 l0 x23_2).f2), .slice A446_3 ((rd_T31 l0 x23_2).f3).length c446_3], .int .i64 (rd l1 x23_2)] (by rfl) rfl rfl (by (try simp only [lM_q, lC_q, lN_q]); first | done | rfl | (simp only [lD_q, lT_q]; rfl)) ?_
     with_reducible refine (impl_Outage_disturbs.calls a2_0 a2_1 a2_2 ((rd_T31 l0 x23_2).f0) ((rd_T31 l0 x23_2).f1) ((rd_T31 l0 x23_2).f2) _ _ ((rd_T31 l0 x23_2).f3) (rd l1 x23_2) true _ ?side1 ?side2 A20.out).mono ?_
     (case side1 => exact cup (cB_q HR446_3.out HB.out))
     (case side2 => exact HC446_3.out)
     rintro e w28 ⟨rfl, hb⟩
     refine ⟨_, rfl, ?_⟩
     have n0_ := Ae_q (rO_q (rup HO_7.out) hb)
     have n1_ := Ae_q (bB_q (g := gb440) (o := .cells #[.int .i64 a2_0, .int .i64 a2_1, .int .i64 a2_2] 52 (0, 0)) (bup BK440.out) hb)
     have n2_ := Ae_q (bB_q (g := gb447) (o := .cells #[.int .i64 ((rd_T31 l0 x23_2).f0), .int .i64 ((rd_T31 l0 x23_2).f1), .int .i64 ((rd_T31 l0 x23_2).f2), .slice A446_3 ((rd_T31 l0 x23_2).f3).length c446_3] 31 (0, 0)) (bup BK447.out) hb)
     have n3_ := Ae_q (bT_q (by repeat (with_reducible first | exact HB.out | apply bA_q | apply pB_q | apply bD_q | refine bS_q ?_ GE440.out | refine bS_q ?_ GE447.out)) hb)
     clear HO_7
     clear BK440
     clear BK447
     clear HB
     have HO_7 := n0_
     have BK440 := n1_
     have BK447 := n2_
     have HB := n3_
     clear n0_ n1_ n2_ n3_
     (try clear hb)
     (try clear hb2)
     (try clear hk)
     (try clear hi)
     refine hK.out _ _ ⟨(bC_q BK440.out 0).trans rfl, (bC_q BK440.out 1).trans rfl, (bC_q BK440.out 2).trans rfl, (bC_q BK447.out 0).trans rfl, (bC_q BK447.out 1).trans rfl, (bC_q BK447.out 2).trans rfl, (bC_q BK447.out 3).trans rfl, (cel HB.out hw448_0)⟩ (fun hHeld => ?_)
     clear hK K
     refine norm_ (a' := ?_) ?_ ?_
     rotate_left
     ·show Act.put _ (some 34) _ = _
      simp only [Act.put, sA_q, sZ_q, sS_q, i64_w, i32_w]
      rfl
     refine done_ (by kernel_rfl) ?_
     try go_wp2_with (first | ((with_reducible refine gate_builtin (b := .append) (xs := #[.tmp 35, .tmp 37]) rfl ?_); at_builtin; refine Kd.R_append kI_q (w0 := w) w.heap.size rfl (.tmp 35) (.tmp 37) 24 3 (.int .i64 0) 8 rfl Try.underlying24 info3 rfl (by decide) (by omega) u7 x7_2 x23_2 [.int .i64 x23_2] (fun _ => True) (fun _ => False) rfl rfl ?aP (fun _ hk => hk.elim) ?aF ?aO ?aB ?aS ?aL ?_; (case aP => exact rfl); (case aB => exact (by repeat (with_reducible first | exact HB.out | apply bA_q | apply pB_q | apply bD_q | refine bS_q ?_ GE440.out | refine bS_q ?_ GE447.out))); (case aF => exact (fun _ _ => trivial)); (case aO => exact (rup HO_7.out)); (case aS => exact (bZ_q (by repeat (with_reducible first | exact HB.out | apply bA_q | apply pB_q | apply bD_q | refine bS_q ?_ GE440.out | refine bS_q ?_ GE447.out)))); (case aL => have := LMc22.out; omega); intro v451 w29 ho hb hg hat; rw [← Ny450.out] at ho; have n0_ := Ae_q (bG_q (g := gb440) (o := .cells #[.int .i64 a2_0, .int .i64 a2_1, .int .i64 a2_2] 52 (0, 0)) (bup BK440.out) hg (Kd.R_ne HO_7.out BK440.out (by decide))); have n1_ := Ae_q (bG_q (g := gb447) (o := .cells #[.int .i64 ((rd_T31 l0 x23_2).f0), .int .i64 ((rd_T31 l0 x23_2).f1), .int .i64 ((rd_T31 l0 x23_2).f2), .slice A446_3 ((rd_T31 l0 x23_2).f3).length c446_3] 31 (0, 0)) (bup BK447.out) hg (Kd.R_ne HO_7.out BK447.out (by decide))); have n2_ := Ae_q (hb); have n3_ := Ae_q (ho); clear BK440; clear BK447; clear HB; clear HO_7; have BK440 := n0_; have BK447 := n1_; have HB := n2_; have HO452 := n3_; clear n0_ n1_ n2_ n3_; clear ho hb hg hat))
     go_roundg k2
     case measure => have := HJ3.out; have := HK2.out; omega
     case rel => exact ⟨(y450), (wrap64 (x23_2 + 1)), (by first | rfl | (simp; done) | (simp [*]; done)), H', ⟨by have := HJ3.out; have := HK2.out; omega⟩, ⟨by (with_reducible repeat (first | apply rA_q | apply rN_q | apply rD_q)); exact HO452.out⟩, ⟨by (with_reducible repeat (first | refine bN_q ?_ _ | refine bW_q ?_ | refine bL_q ?_ _)); exact BK440.out⟩, ⟨by repeat (with_reducible first | exact HB.out | apply bA_q | apply pB_q | apply bD_q | refine bS_q ?_ GE440.out | refine bS_q ?_ GE447.out)⟩⟩

def spec_l33Outage.f (a0_0 : Int) (a0_1 : Int) (a0_2 : Int) : Option (Bool) := (spec_l6In.f a0_0 1 4).bind fun t454 => (if t454 = true then ((spec_l6In.f a0_1 0 999).bind fun t455 => (if t455 = true then ((spec_l6In.f a0_2 a0_1 999).bind fun t456 => (some t456)) else (some false))) else (some false))
set_option maxHeartbeats 8000000 in
set_option maxRecDepth 100000 in
theorem spec_l33Outage.calls (a0_0 : Int) (a0_1 : Int) (a0_2 : Int) (r : Bool) (w : World) (h : spec_l33Outage.f a0_0 a0_1 a0_2 = some r) :
    Calls Try.prog 52 #[.agg #[.int .i64 a0_0, .int .i64 a0_1, .int .i64 a0_2]] w fun e w' => e = .returned (.bool r) ∧ Below w.heap.size w w' := by
 have hu52 := Try.underlying52
 have HB := Ae_q (bR_q w.heap.size w)
 have H : ((spec_l6In.f a0_0 1 4).bind fun t454 => (if t454 = true then ((spec_l6In.f a0_1 0 999).bind fun t455 => (if t455 = true then ((spec_l6In.f a0_2 a0_1 999).bind fun t456 => (some t456)) else (some false))) else (some false))) = some r := h
 clear h
 replace H := oB_q.mp H
 obtain ⟨t454, A20, H⟩ := H
 replace H : (if t454 = true then ((spec_l6In.f a0_1 0 999).bind fun t455 => (if t455 = true then ((spec_l6In.f a0_2 a0_1 999).bind fun t456 => (some t456)) else (some false))) else (some false)) = some r := H
 have A2 := Ae_q A20
 clear A20
 by_cases c3 : t454 = true
 rotate_left
 ·replace c3 := fM_q.mpr c3
  subst c3
  have H1 : (some false) = some r := by rw [if_neg (show ¬ (false = true) by decide)] at H; exact H
  clear H
  have H := H1
  clear H1
  obtain rfl := oI_q H
  go_enter Try.func52, Try.ntmps52
  go_wp2_with (first | ((with_reducible refine gD_q (N := 1) rfl ?_); refine bE_q ?hg (N := 1) ?hd (cs := #[.int .i64 a0_0, .int .i64 a0_1, .int .i64 a0_2]) (t := 52) ?hr ?_; (case hd => rfl); (case hg => rfl); (case hr => first | (go_simp; done) | (go_simp; rfl)); intro gb453 hg w11 hbox hb; have n0_ := Ae_q (bT_q (bel HB.out) hb); have n1_ := Ae_q (hbox); have n2_ := Ae_q ((by rw [hg]; exact (bZ_q (bel HB.out)) : w.heap.size ≤ gb453)); have n3_ := Ae_q ((by rw [hg]; exact (bZ_q (bel HB.out)) : w.heap.size ≤ gb453)); clear HB; have HB := n0_; have BK453 := n1_; have GW453 := n2_; have GE453 := n3_; clear n0_ n1_ n2_ n3_; clear hb hbox hg; have hcz12_0 : w11.cell? ⟨gb453, 0, none⟩ = some (.int .i64 a0_0) := (bC_q BK453.out 0).trans rfl; have hcz12_1 : w11.cell? ⟨gb453, 1, none⟩ = some (.int .i64 a0_1) := (bC_q BK453.out 1).trans rfl; have hcz12_2 : w11.cell? ⟨gb453, 2, none⟩ = some (.int .i64 a0_2) := (bC_q BK453.out 2).trans rfl; have hfz12_0 := bF_q BK453.out 0; have hfz12_1 := bF_q BK453.out 1; have hfz12_2 := bF_q BK453.out 2) | ((with_reducible refine gC_q (f := 47) rfl ?_); refine gL_q (some 5) rfl rfl Try.func47 (by kernel_rfl) rfl #[.int .i64 a0_0, .int .i64 1, .int .i64 4] rfl (by (try simp only [lM_q, lC_q, lN_q]); first | done | rfl | (simp only [lD_q, lT_q]; rfl)) ?_; (with_reducible refine (spec_l6In.calls a0_0 1 4 false _ A2.out).mono ?_); rintro e w' ⟨rfl, ⟨nd, rfl⟩⟩; refine ⟨_, rfl, ?_⟩))
  go_ret
  exact ⟨by first | rfl | (simp [eN_q, eS_q] <;> rfl) | (simp [*, eN_q, eS_q] <;> rfl), by repeat (with_reducible first | exact HB.out | apply bA_q | apply pB_q | apply bD_q | refine bS_q ?_ GE453.out)⟩
 subst c3
 have H1 : ((spec_l6In.f a0_1 0 999).bind fun t455 => (if t455 = true then ((spec_l6In.f a0_2 a0_1 999).bind fun t456 => (some t456)) else (some false))) = some r := by rw [if_pos rfl] at H; exact H
 clear H
 have H := H1
 clear H1
 replace H := oB_q.mp H
 obtain ⟨t455, A40, H⟩ := H
 replace H : (if t455 = true then ((spec_l6In.f a0_2 a0_1 999).bind fun t456 => (some t456)) else (some false)) = some r := H
 have A4 := Ae_q A40
 clear A40
 by_cases c5 : t455 = true
 rotate_left
 ·replace c5 := fM_q.mpr c5
  subst c5
  have H1 : (some false) = some r := by rw [if_neg (show ¬ (false = true) by decide)] at H; exact H
  clear H
  have H := H1
  clear H1
  obtain rfl := oI_q H
  go_enter Try.func52, Try.ntmps52
  go_wp2_with (first | ((with_reducible refine gD_q (N := 1) rfl ?_); refine bE_q ?hg (N := 1) ?hd (cs := #[.int .i64 a0_0, .int .i64 a0_1, .int .i64 a0_2]) (t := 52) ?hr ?_; (case hd => rfl); (case hg => rfl); (case hr => first | (go_simp; done) | (go_simp; rfl)); intro gb453 hg w9 hbox hb; have n0_ := Ae_q (bT_q (bel HB.out) hb); have n1_ := Ae_q (hbox); have n2_ := Ae_q ((by rw [hg]; exact (bZ_q (bel HB.out)) : w.heap.size ≤ gb453)); have n3_ := Ae_q ((by rw [hg]; exact (bZ_q (bel HB.out)) : w.heap.size ≤ gb453)); clear HB; have HB := n0_; have BK453 := n1_; have GW453 := n2_; have GE453 := n3_; clear n0_ n1_ n2_ n3_; clear hb hbox hg; have hcz10_0 : w9.cell? ⟨gb453, 0, none⟩ = some (.int .i64 a0_0) := (bC_q BK453.out 0).trans rfl; have hcz10_1 : w9.cell? ⟨gb453, 1, none⟩ = some (.int .i64 a0_1) := (bC_q BK453.out 1).trans rfl; have hcz10_2 : w9.cell? ⟨gb453, 2, none⟩ = some (.int .i64 a0_2) := (bC_q BK453.out 2).trans rfl; have hfz10_0 := bF_q BK453.out 0; have hfz10_1 := bF_q BK453.out 1; have hfz10_2 := bF_q BK453.out 2) | ((with_reducible refine gC_q (f := 47) rfl ?_); refine gL_q (some 5) rfl rfl Try.func47 (by kernel_rfl) rfl #[.int .i64 a0_0, .int .i64 1, .int .i64 4] rfl (by (try simp only [lM_q, lC_q, lN_q]); first | done | rfl | (simp only [lD_q, lT_q]; rfl)) ?_; (with_reducible refine (spec_l6In.calls a0_0 1 4 true _ A2.out).mono ?_); rintro e w' ⟨rfl, ⟨nd, rfl⟩⟩; refine ⟨_, rfl, ?_⟩) | (go_at_call 47; (with_reducible refine (spec_l6In.calls a0_1 0 999 false _ A4.out).mono ?_); rintro e w' ⟨rfl, ⟨nd, rfl⟩⟩))
  go_ret
  exact ⟨by first | rfl | (simp [eN_q, eS_q] <;> rfl) | (simp [*, eN_q, eS_q] <;> rfl), by repeat (with_reducible first | exact HB.out | apply bA_q | apply pB_q | apply bD_q | refine bS_q ?_ GE453.out)⟩
 subst c5
 have H1 : ((spec_l6In.f a0_2 a0_1 999).bind fun t456 => (some t456)) = some r := by rw [if_pos rfl] at H; exact H
 clear H
 have H := H1
 clear H1
 replace H := oB_q.mp H
 obtain ⟨t456, A60, H⟩ := H
 replace H : (some t456) = some r := H
 have A6 := Ae_q A60
 clear A60
 obtain rfl := oI_q H
 go_enter Try.func52, Try.ntmps52
 go_wp2_with (first | ((with_reducible refine gD_q (N := 1) rfl ?_); refine bE_q ?hg (N := 1) ?hd (cs := #[.int .i64 a0_0, .int .i64 a0_1, .int .i64 a0_2]) (t := 52) ?hr ?_; (case hd => rfl); (case hg => rfl); (case hr => first | (go_simp; done) | (go_simp; rfl)); intro gb453 hg w7 hbox hb; have n0_ := Ae_q (bT_q (bel HB.out) hb); have n1_ := Ae_q (hbox); have n2_ := Ae_q ((by rw [hg]; exact (bZ_q (bel HB.out)) : w.heap.size ≤ gb453)); have n3_ := Ae_q ((by rw [hg]; exact (bZ_q (bel HB.out)) : w.heap.size ≤ gb453)); clear HB; have HB := n0_; have BK453 := n1_; have GW453 := n2_; have GE453 := n3_; clear n0_ n1_ n2_ n3_; clear hb hbox hg; have hcz8_0 : w7.cell? ⟨gb453, 0, none⟩ = some (.int .i64 a0_0) := (bC_q BK453.out 0).trans rfl; have hcz8_1 : w7.cell? ⟨gb453, 1, none⟩ = some (.int .i64 a0_1) := (bC_q BK453.out 1).trans rfl; have hcz8_2 : w7.cell? ⟨gb453, 2, none⟩ = some (.int .i64 a0_2) := (bC_q BK453.out 2).trans rfl; have hfz8_0 := bF_q BK453.out 0; have hfz8_1 := bF_q BK453.out 1; have hfz8_2 := bF_q BK453.out 2) | ((with_reducible refine gC_q (f := 47) rfl ?_); refine gL_q (some 5) rfl rfl Try.func47 (by kernel_rfl) rfl #[.int .i64 a0_0, .int .i64 1, .int .i64 4] rfl (by (try simp only [lM_q, lC_q, lN_q]); first | done | rfl | (simp only [lD_q, lT_q]; rfl)) ?_; (with_reducible refine (spec_l6In.calls a0_0 1 4 true _ A2.out).mono ?_); rintro e w' ⟨rfl, ⟨nd, rfl⟩⟩; refine ⟨_, rfl, ?_⟩) | (go_at_call 47; (with_reducible refine (spec_l6In.calls a0_1 0 999 true _ A4.out).mono ?_); rintro e w' ⟨rfl, ⟨nd, rfl⟩⟩) | (go_at_call 47; (with_reducible refine (spec_l6In.calls a0_2 a0_1 999 t456 _ A6.out).mono ?_); rintro e w' ⟨rfl, ⟨nd, rfl⟩⟩))
 go_ret
 exact ⟨by first | rfl | (simp [eN_q, eS_q] <;> rfl) | (simp [*, eN_q, eS_q] <;> rfl), by repeat (with_reducible first | exact HB.out | apply bA_q | apply pB_q | apply bD_q | refine bS_q ?_ GE453.out)⟩

def spec_l33Hit.f (a0_0 : Int) (a0_1 : Int) (a0_2 : Int) (l0_3 : List Int) (a1 : Int) (a2_0 : Int) (a2_1 : Int) (a2_2 : Int) : Option (Bool) := if a0_2 = a2_0 then (if a1 < a2_2 then (some (decide (a2_1 < (wrap64 (a1 + a0_0))))) else (some false)) else (some false)
set_option maxHeartbeats 8000000 in
set_option maxRecDepth 100000 in
theorem spec_l33Hit.calls (a0_0 : Int) (a0_1 : Int) (a0_2 : Int) (A0_3 : Option Addr) (c0_3 : Nat) (l0_3 : List Int) (a1 : Int) (a2_0 : Int) (a2_1 : Int) (a2_2 : Int) (r : Bool) (w : World) (hr0_3 : Kd.C kI_q w A0_3 l0_3.length l0_3) (hc0_3 : l0_3.length ≤ c0_3) (h : spec_l33Hit.f a0_0 a0_1 a0_2 l0_3 a1 a2_0 a2_1 a2_2 = some r) :
    Calls Try.prog 53 #[.agg #[.int .i64 a0_0, .int .i64 a0_1, .int .i64 a0_2, .slice A0_3 l0_3.length c0_3], .int .i64 a1, .agg #[.int .i64 a2_0, .int .i64 a2_1, .int .i64 a2_2]] w fun e w' => e = .returned (.bool r) ∧ Below w.heap.size w w' := by
 have hu31 := Try.underlying31
 have hu52 := Try.underlying52
 have HR0_3 := Ae_q hr0_3
 have HC0_3 := Ae_q hc0_3
 clear hr0_3 hc0_3
 have HB := Ae_q (bR_q w.heap.size w)
 have H : (if a0_2 = a2_0 then (if a1 < a2_2 then (some (decide (a2_1 < (wrap64 (a1 + a0_0))))) else (some false)) else (some false)) = some r := h
 clear h
 by_cases c4 : a0_2 = a2_0
 rotate_left
 ·rw [if_neg c4] at H
  have c4b0 : (a0_2 == a2_0) = false := fN_q.mpr c4
  have c4b1 : (a0_2 != a2_0) = true := nI_q.mpr c4
  obtain rfl := oI_q H
  go_enter Try.func53, Try.ntmps53
  go_wp2_with (first | ((with_reducible refine gD_q (N := 3) rfl ?_); refine bE_q ?hg (N := 3) ?hd (cs := #[.int .i64 a0_0, .int .i64 a0_1, .int .i64 a0_2, .slice A0_3 l0_3.length c0_3]) (t := 31) ?hr ?_; (case hd => rfl); (case hg => rfl); (case hr => first | (go_simp; done) | (go_simp; rfl)); intro gb457 hg w16 hbox hb; have n0_ := Ae_q (bT_q (bel HB.out) hb); have n1_ := Ae_q (hbox); have n2_ := Ae_q ((by rw [hg]; exact (bZ_q (bel HB.out)) : w.heap.size ≤ gb457)); have n3_ := Ae_q ((by rw [hg]; exact (bZ_q (bel HB.out)) : w.heap.size ≤ gb457)); clear HB; have HB := n0_; have BK457 := n1_; have GW457 := n2_; have GE457 := n3_; clear n0_ n1_ n2_ n3_; clear hb hbox hg) | ((with_reducible refine gD_q (N := 5) rfl ?_); refine bE_q ?hg (N := 5) ?hd (cs := #[.int .i64 a2_0, .int .i64 a2_1, .int .i64 a2_2]) (t := 52) ?hr ?_; (case hd => rfl); (case hg => rfl); (case hr => first | (go_simp; done) | (go_simp; rfl)); intro gb458 hg w17 hbox hb; have n0_ := Ae_q (bB_q (g := gb457) (o := .cells #[.int .i64 a0_0, .int .i64 a0_1, .int .i64 a0_2, .slice A0_3 l0_3.length c0_3] 31 (0, 0)) (bup BK457.out) hb); have n1_ := Ae_q (bT_q (by repeat (with_reducible first | exact HB.out | apply bA_q | apply pB_q | apply bD_q | refine bS_q ?_ GE457.out)) hb); have n2_ := Ae_q (hbox); have n3_ := Ae_q ((by rw [hg]; exact (bZ_q (by repeat (with_reducible first | exact HB.out | apply bA_q | apply pB_q | apply bD_q | refine bS_q ?_ GE457.out))) : w.heap.size ≤ gb458)); have n4_ := Ae_q ((by rw [hg]; exact (bZ_q (by repeat (with_reducible first | exact HB.out | apply bA_q | apply pB_q | apply bD_q | refine bS_q ?_ GE457.out))) : w.heap.size ≤ gb458)); have n5_ := Ae_q ((by rw [hg]; exact nL_q (blk_lt (g := gb457) (o := .cells #[.int .i64 a0_0, .int .i64 a0_1, .int .i64 a0_2, .slice A0_3 l0_3.length c0_3] 31 (0, 0)) (bup BK457.out)) : gb457 ≠ gb458)); have n6_ := Ae_q ((by rw [hg]; exact nG_q (blk_lt (g := gb457) (o := .cells #[.int .i64 a0_0, .int .i64 a0_1, .int .i64 a0_2, .slice A0_3 l0_3.length c0_3] 31 (0, 0)) (bup BK457.out)) : gb458 ≠ gb457)); clear BK457; clear HB; have BK457 := n0_; have HB := n1_; have BK458 := n2_; have GW458 := n3_; have GE458 := n4_; have NB457_458 := n5_; have NB458_457 := n6_; clear n0_ n1_ n2_ n3_ n4_ n5_ n6_; clear hb hbox hg; have hnb18 := NB457_458.out; have hnc18 := NB458_457.out; have hcz19_0 : w17.cell? ⟨gb457, 0, none⟩ = some (.int .i64 a0_0) := (bC_q BK457.out 0).trans rfl; have hcz19_1 : w17.cell? ⟨gb457, 1, none⟩ = some (.int .i64 a0_1) := (bC_q BK457.out 1).trans rfl; have hcz19_2 : w17.cell? ⟨gb457, 2, none⟩ = some (.int .i64 a0_2) := (bC_q BK457.out 2).trans rfl; have hcz19_3 : w17.cell? ⟨gb457, 3, none⟩ = some (.slice A0_3 l0_3.length c0_3) := (bC_q BK457.out 3).trans rfl; have hfz19_0 := bF_q BK457.out 0; have hfz19_1 := bF_q BK457.out 1; have hfz19_2 := bF_q BK457.out 2; have hfz19_3 := bF_q BK457.out 3; have hcz20_0 : w17.cell? ⟨gb458, 0, none⟩ = some (.int .i64 a2_0) := (bC_q BK458.out 0).trans rfl; have hcz20_1 : w17.cell? ⟨gb458, 1, none⟩ = some (.int .i64 a2_1) := (bC_q BK458.out 1).trans rfl; have hcz20_2 : w17.cell? ⟨gb458, 2, none⟩ = some (.int .i64 a2_2) := (bC_q BK458.out 2).trans rfl; have hfz20_0 := bF_q BK458.out 0; have hfz20_1 := bF_q BK458.out 1; have hfz20_2 := bF_q BK458.out 2))
  go_ret
  exact ⟨by first | rfl | (simp [eN_q, eS_q] <;> rfl) | (simp [*, eN_q, eS_q] <;> rfl), by repeat (with_reducible first | exact HB.out | apply bA_q | apply pB_q | apply bD_q | refine bS_q ?_ GE457.out | refine bS_q ?_ GE458.out)⟩
 rw [if_pos c4] at H
 have c4b0 : (a0_2 == a2_0) = true := beq_iff_eq.mpr c4
 have c4b1 : (a0_2 != a2_0) = false := nE_q.mpr c4
 clear c4
 by_cases c5 : a1 < a2_2
 ·rw [if_pos c5] at H
  have c5b0 : decide (a1 < a2_2) = true := dT_q c5
  clear c5
  obtain rfl := oI_q H
  go_enter Try.func53, Try.ntmps53
  go_wp2_with (first | ((with_reducible refine gD_q (N := 3) rfl ?_); refine bE_q ?hg (N := 3) ?hd (cs := #[.int .i64 a0_0, .int .i64 a0_1, .int .i64 a0_2, .slice A0_3 l0_3.length c0_3]) (t := 31) ?hr ?_; (case hd => rfl); (case hg => rfl); (case hr => first | (go_simp; done) | (go_simp; rfl)); intro gb457 hg w6 hbox hb; have n0_ := Ae_q (bT_q (bel HB.out) hb); have n1_ := Ae_q (hbox); have n2_ := Ae_q ((by rw [hg]; exact (bZ_q (bel HB.out)) : w.heap.size ≤ gb457)); have n3_ := Ae_q ((by rw [hg]; exact (bZ_q (bel HB.out)) : w.heap.size ≤ gb457)); clear HB; have HB := n0_; have BK457 := n1_; have GW457 := n2_; have GE457 := n3_; clear n0_ n1_ n2_ n3_; clear hb hbox hg) | ((with_reducible refine gD_q (N := 5) rfl ?_); refine bE_q ?hg (N := 5) ?hd (cs := #[.int .i64 a2_0, .int .i64 a2_1, .int .i64 a2_2]) (t := 52) ?hr ?_; (case hd => rfl); (case hg => rfl); (case hr => first | (go_simp; done) | (go_simp; rfl)); intro gb458 hg w7 hbox hb; have n0_ := Ae_q (bB_q (g := gb457) (o := .cells #[.int .i64 a0_0, .int .i64 a0_1, .int .i64 a0_2, .slice A0_3 l0_3.length c0_3] 31 (0, 0)) (bup BK457.out) hb); have n1_ := Ae_q (bT_q (by repeat (with_reducible first | exact HB.out | apply bA_q | apply pB_q | apply bD_q | refine bS_q ?_ GE457.out)) hb); have n2_ := Ae_q (hbox); have n3_ := Ae_q ((by rw [hg]; exact (bZ_q (by repeat (with_reducible first | exact HB.out | apply bA_q | apply pB_q | apply bD_q | refine bS_q ?_ GE457.out))) : w.heap.size ≤ gb458)); have n4_ := Ae_q ((by rw [hg]; exact (bZ_q (by repeat (with_reducible first | exact HB.out | apply bA_q | apply pB_q | apply bD_q | refine bS_q ?_ GE457.out))) : w.heap.size ≤ gb458)); have n5_ := Ae_q ((by rw [hg]; exact nL_q (blk_lt (g := gb457) (o := .cells #[.int .i64 a0_0, .int .i64 a0_1, .int .i64 a0_2, .slice A0_3 l0_3.length c0_3] 31 (0, 0)) (bup BK457.out)) : gb457 ≠ gb458)); have n6_ := Ae_q ((by rw [hg]; exact nG_q (blk_lt (g := gb457) (o := .cells #[.int .i64 a0_0, .int .i64 a0_1, .int .i64 a0_2, .slice A0_3 l0_3.length c0_3] 31 (0, 0)) (bup BK457.out)) : gb458 ≠ gb457)); clear BK457; clear HB; have BK457 := n0_; have HB := n1_; have BK458 := n2_; have GW458 := n3_; have GE458 := n4_; have NB457_458 := n5_; have NB458_457 := n6_; clear n0_ n1_ n2_ n3_ n4_ n5_ n6_; clear hb hbox hg; have hnb8 := NB457_458.out; have hnc8 := NB458_457.out; have hcz9_0 : w7.cell? ⟨gb457, 0, none⟩ = some (.int .i64 a0_0) := (bC_q BK457.out 0).trans rfl; have hcz9_1 : w7.cell? ⟨gb457, 1, none⟩ = some (.int .i64 a0_1) := (bC_q BK457.out 1).trans rfl; have hcz9_2 : w7.cell? ⟨gb457, 2, none⟩ = some (.int .i64 a0_2) := (bC_q BK457.out 2).trans rfl; have hcz9_3 : w7.cell? ⟨gb457, 3, none⟩ = some (.slice A0_3 l0_3.length c0_3) := (bC_q BK457.out 3).trans rfl; have hfz9_0 := bF_q BK457.out 0; have hfz9_1 := bF_q BK457.out 1; have hfz9_2 := bF_q BK457.out 2; have hfz9_3 := bF_q BK457.out 3; have hcz10_0 : w7.cell? ⟨gb458, 0, none⟩ = some (.int .i64 a2_0) := (bC_q BK458.out 0).trans rfl; have hcz10_1 : w7.cell? ⟨gb458, 1, none⟩ = some (.int .i64 a2_1) := (bC_q BK458.out 1).trans rfl; have hcz10_2 : w7.cell? ⟨gb458, 2, none⟩ = some (.int .i64 a2_2) := (bC_q BK458.out 2).trans rfl; have hfz10_0 := bF_q BK458.out 0; have hfz10_1 := bF_q BK458.out 1; have hfz10_2 := bF_q BK458.out 2))
  go_ret
  exact ⟨by first | rfl | (simp [eN_q, eS_q] <;> rfl) | (simp [*, eN_q, eS_q] <;> rfl), by repeat (with_reducible first | exact HB.out | apply bA_q | apply pB_q | apply bD_q | refine bS_q ?_ GE457.out | refine bS_q ?_ GE458.out)⟩
 rw [if_neg c5] at H
 have c5b0 : decide (a1 < a2_2) = false := dF_q c5
 clear c5
 obtain rfl := oI_q H
 go_enter Try.func53, Try.ntmps53
 go_wp2_with (first | ((with_reducible refine gD_q (N := 3) rfl ?_); refine bE_q ?hg (N := 3) ?hd (cs := #[.int .i64 a0_0, .int .i64 a0_1, .int .i64 a0_2, .slice A0_3 l0_3.length c0_3]) (t := 31) ?hr ?_; (case hd => rfl); (case hg => rfl); (case hr => first | (go_simp; done) | (go_simp; rfl)); intro gb457 hg w11 hbox hb; have n0_ := Ae_q (bT_q (bel HB.out) hb); have n1_ := Ae_q (hbox); have n2_ := Ae_q ((by rw [hg]; exact (bZ_q (bel HB.out)) : w.heap.size ≤ gb457)); have n3_ := Ae_q ((by rw [hg]; exact (bZ_q (bel HB.out)) : w.heap.size ≤ gb457)); clear HB; have HB := n0_; have BK457 := n1_; have GW457 := n2_; have GE457 := n3_; clear n0_ n1_ n2_ n3_; clear hb hbox hg) | ((with_reducible refine gD_q (N := 5) rfl ?_); refine bE_q ?hg (N := 5) ?hd (cs := #[.int .i64 a2_0, .int .i64 a2_1, .int .i64 a2_2]) (t := 52) ?hr ?_; (case hd => rfl); (case hg => rfl); (case hr => first | (go_simp; done) | (go_simp; rfl)); intro gb458 hg w12 hbox hb; have n0_ := Ae_q (bB_q (g := gb457) (o := .cells #[.int .i64 a0_0, .int .i64 a0_1, .int .i64 a0_2, .slice A0_3 l0_3.length c0_3] 31 (0, 0)) (bup BK457.out) hb); have n1_ := Ae_q (bT_q (by repeat (with_reducible first | exact HB.out | apply bA_q | apply pB_q | apply bD_q | refine bS_q ?_ GE457.out)) hb); have n2_ := Ae_q (hbox); have n3_ := Ae_q ((by rw [hg]; exact (bZ_q (by repeat (with_reducible first | exact HB.out | apply bA_q | apply pB_q | apply bD_q | refine bS_q ?_ GE457.out))) : w.heap.size ≤ gb458)); have n4_ := Ae_q ((by rw [hg]; exact (bZ_q (by repeat (with_reducible first | exact HB.out | apply bA_q | apply pB_q | apply bD_q | refine bS_q ?_ GE457.out))) : w.heap.size ≤ gb458)); have n5_ := Ae_q ((by rw [hg]; exact nL_q (blk_lt (g := gb457) (o := .cells #[.int .i64 a0_0, .int .i64 a0_1, .int .i64 a0_2, .slice A0_3 l0_3.length c0_3] 31 (0, 0)) (bup BK457.out)) : gb457 ≠ gb458)); have n6_ := Ae_q ((by rw [hg]; exact nG_q (blk_lt (g := gb457) (o := .cells #[.int .i64 a0_0, .int .i64 a0_1, .int .i64 a0_2, .slice A0_3 l0_3.length c0_3] 31 (0, 0)) (bup BK457.out)) : gb458 ≠ gb457)); clear BK457; clear HB; have BK457 := n0_; have HB := n1_; have BK458 := n2_; have GW458 := n3_; have GE458 := n4_; have NB457_458 := n5_; have NB458_457 := n6_; clear n0_ n1_ n2_ n3_ n4_ n5_ n6_; clear hb hbox hg; have hnb13 := NB457_458.out; have hnc13 := NB458_457.out; have hcz14_0 : w12.cell? ⟨gb457, 0, none⟩ = some (.int .i64 a0_0) := (bC_q BK457.out 0).trans rfl; have hcz14_1 : w12.cell? ⟨gb457, 1, none⟩ = some (.int .i64 a0_1) := (bC_q BK457.out 1).trans rfl; have hcz14_2 : w12.cell? ⟨gb457, 2, none⟩ = some (.int .i64 a0_2) := (bC_q BK457.out 2).trans rfl; have hcz14_3 : w12.cell? ⟨gb457, 3, none⟩ = some (.slice A0_3 l0_3.length c0_3) := (bC_q BK457.out 3).trans rfl; have hfz14_0 := bF_q BK457.out 0; have hfz14_1 := bF_q BK457.out 1; have hfz14_2 := bF_q BK457.out 2; have hfz14_3 := bF_q BK457.out 3; have hcz15_0 : w12.cell? ⟨gb458, 0, none⟩ = some (.int .i64 a2_0) := (bC_q BK458.out 0).trans rfl; have hcz15_1 : w12.cell? ⟨gb458, 1, none⟩ = some (.int .i64 a2_1) := (bC_q BK458.out 1).trans rfl; have hcz15_2 : w12.cell? ⟨gb458, 2, none⟩ = some (.int .i64 a2_2) := (bC_q BK458.out 2).trans rfl; have hfz15_0 := bF_q BK458.out 0; have hfz15_1 := bF_q BK458.out 1; have hfz15_2 := bF_q BK458.out 2))
 go_ret
 exact ⟨by first | rfl | (simp [eN_q, eS_q] <;> rfl) | (simp [*, eN_q, eS_q] <;> rfl), by repeat (with_reducible first | exact HB.out | apply bA_q | apply pB_q | apply bD_q | refine bS_q ?_ GE457.out | refine bS_q ?_ GE458.out)⟩

end Go.Proofs.Ytoaigcdoblnmhaa.PPn
