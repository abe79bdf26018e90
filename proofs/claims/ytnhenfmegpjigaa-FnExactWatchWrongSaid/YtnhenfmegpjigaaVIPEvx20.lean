import Derived.Test.YtnhenfmegpjigaaVIPEvx0
import Derived.Test.YtnhenfmegpjigaaVIPEvx1
import Derived.Test.YtnhenfmegpjigaaVIPEvx3
namespace Go.Proofs.Ytnhenfmegpjigaa.PEv
open Go.RowKit Go.Proofs.YtnhenfmegpjigaaW.PrintWords Go.Proofs.YtnhenfmegpjigaaW.PrintLast Go.Proofs.YtnhenfmegpjigaaW.PrintMore
attribute [local go_sem] max2_int min2_int max_two min_two max_three min_three max_four min_four
set_option linter.unusedVariables false
set_option linter.unusedSimpArgs false

def impl_guestValid.f (a0_0 : Int) (a0_1 : Int) (a0_2 : Int) : Option (Bool) := (impl_within.f a0_0 1 99).bind fun t501 => (if t501 = true then ((impl_within.f a0_1 1 4).bind fun t502 => (if t502 = true then ((impl_isSet.f a0_2).bind fun t503 => (some t503)) else (some false))) else (some false))
set_option maxHeartbeats 8000000 in
set_option maxRecDepth 100000 in
theorem impl_guestValid.calls (a0_0 : Int) (a0_1 : Int) (a0_2 : Int) (r : Bool) (w : World) (h : impl_guestValid.f a0_0 a0_1 a0_2 = some r) :
    Calls Try.prog 58 #[.agg #[.int .i64 a0_0, .int .i64 a0_1, .int .i64 a0_2]] w fun e w' => e = .returned (.bool r) ∧ Below w.heap.size w w' := by
 have hu50 := Try.underlying50
 have HB := Ae_q (bR_q w.heap.size w)
 have H : ((impl_within.f a0_0 1 99).bind fun t501 => (if t501 = true then ((impl_within.f a0_1 1 4).bind fun t502 => (if t502 = true then ((impl_isSet.f a0_2).bind fun t503 => (some t503)) else (some false))) else (some false))) = some r := h
 clear h
 replace H := oB_q.mp H
 obtain ⟨t501, A20, H⟩ := H
 replace H : (if t501 = true then ((impl_within.f a0_1 1 4).bind fun t502 => (if t502 = true then ((impl_isSet.f a0_2).bind fun t503 => (some t503)) else (some false))) else (some false)) = some r := H
 have A2 := Ae_q A20
 clear A20
 by_cases c3 : t501 = true
 rotate_left
 ·replace c3 := fM_q.mpr c3
  subst c3
  have H1 : (some false) = some r := by rw [if_neg (show ¬ (false = true) by decide)] at H; exact H
  clear H
  have H := H1
  clear H1
  obtain rfl := oI_q H
  go_enter Try.func58, Try.ntmps58
  go_wp2_with (first | ((with_reducible refine gD_q (N := 1) rfl ?_); refine bE_q ?hg (N := 1) ?hd (cs := #[.int .i64 a0_0, .int .i64 a0_1, .int .i64 a0_2]) (t := 50) ?hr ?_; (case hd => rfl); (case hg => rfl); (case hr => first | (go_simp; done) | (go_simp; rfl)); intro gb500 hg w11 hbox hb; have n0_ := Ae_q (bT_q (bel HB.out) hb); have n1_ := Ae_q (hbox); have n2_ := Ae_q ((by rw [hg]; exact (bZ_q (bel HB.out)) : w.heap.size ≤ gb500)); have n3_ := Ae_q ((by rw [hg]; exact (bZ_q (bel HB.out)) : w.heap.size ≤ gb500)); clear HB; have HB := n0_; have BK500 := n1_; have GW500 := n2_; have GE500 := n3_; clear n0_ n1_ n2_ n3_; clear hb hbox hg; have hcz12_0 : w11.cell? ⟨gb500, 0, none⟩ = some (.int .i64 a0_0) := (bC_q BK500.out 0).trans rfl; have hcz12_1 : w11.cell? ⟨gb500, 1, none⟩ = some (.int .i64 a0_1) := (bC_q BK500.out 1).trans rfl; have hcz12_2 : w11.cell? ⟨gb500, 2, none⟩ = some (.int .i64 a0_2) := (bC_q BK500.out 2).trans rfl; have hfz12_0 := bF_q BK500.out 0; have hfz12_1 := bF_q BK500.out 1; have hfz12_2 := bF_q BK500.out 2) | ((with_reducible refine gC_q (f := 66) rfl ?_); refine gL_q (some 5) rfl rfl Try.func66 (by kernel_rfl) rfl #[.int .i64 a0_0, .int .i64 1, .int .i64 99] rfl (by (try simp only [lM_q, lC_q, lN_q]); first | done | rfl | (simp only [lD_q, lT_q]; rfl)) ?_; (with_reducible refine (impl_within.calls a0_0 1 99 false _ A2.out).mono ?_); rintro e w' ⟨rfl, ⟨nd, rfl⟩⟩; refine ⟨_, rfl, ?_⟩))
  go_ret
  exact ⟨by first | rfl | (simp [eN_q, eS_q] <;> rfl) | (simp [*, eN_q, eS_q] <;> rfl), by repeat (with_reducible first | exact HB.out | apply bA_q | apply pB_q | apply bD_q | refine bS_q ?_ GE500.out)⟩
 subst c3
 have H1 : ((impl_within.f a0_1 1 4).bind fun t502 => (if t502 = true then ((impl_isSet.f a0_2).bind fun t503 => (some t503)) else (some false))) = some r := by rw [if_pos rfl] at H; exact H
 clear H
 have H := H1
 clear H1
 replace H := oB_q.mp H
 obtain ⟨t502, A40, H⟩ := H
 replace H : (if t502 = true then ((impl_isSet.f a0_2).bind fun t503 => (some t503)) else (some false)) = some r := H
 have A4 := Ae_q A40
 clear A40
 by_cases c5 : t502 = true
 rotate_left
 ·replace c5 := fM_q.mpr c5
  subst c5
  have H1 : (some false) = some r := by rw [if_neg (show ¬ (false = true) by decide)] at H; exact H
  clear H
  have H := H1
  clear H1
  obtain rfl := oI_q H
  go_enter Try.func58, Try.ntmps58
  go_wp2_with (first | ((with_reducible refine gD_q (N := 1) rfl ?_); refine bE_q ?hg (N := 1) ?hd (cs := #[.int .i64 a0_0, .int .i64 a0_1, .int .i64 a0_2]) (t := 50) ?hr ?_; (case hd => rfl); (case hg => rfl); (case hr => first | (go_simp; done) | (go_simp; rfl)); intro gb500 hg w9 hbox hb; have n0_ := Ae_q (bT_q (bel HB.out) hb); have n1_ := Ae_q (hbox); have n2_ := Ae_q ((by rw [hg]; exact (bZ_q (bel HB.out)) : w.heap.size ≤ gb500)); have n3_ := Ae_q ((by rw [hg]; exact (bZ_q (bel HB.out)) : w.heap.size ≤ gb500)); clear HB; have HB := n0_; have BK500 := n1_; have GW500 := n2_; have GE500 := n3_; clear n0_ n1_ n2_ n3_; clear hb hbox hg; have hcz10_0 : w9.cell? ⟨gb500, 0, none⟩ = some (.int .i64 a0_0) := (bC_q BK500.out 0).trans rfl; have hcz10_1 : w9.cell? ⟨gb500, 1, none⟩ = some (.int .i64 a0_1) := (bC_q BK500.out 1).trans rfl; have hcz10_2 : w9.cell? ⟨gb500, 2, none⟩ = some (.int .i64 a0_2) := (bC_q BK500.out 2).trans rfl; have hfz10_0 := bF_q BK500.out 0; have hfz10_1 := bF_q BK500.out 1; have hfz10_2 := bF_q BK500.out 2) | ((with_reducible refine gC_q (f := 66) rfl ?_); refine gL_q (some 5) rfl rfl Try.func66 (by kernel_rfl) rfl #[.int .i64 a0_0, .int .i64 1, .int .i64 99] rfl (by (try simp only [lM_q, lC_q, lN_q]); first | done | rfl | (simp only [lD_q, lT_q]; rfl)) ?_; (with_reducible refine (impl_within.calls a0_0 1 99 true _ A2.out).mono ?_); rintro e w' ⟨rfl, ⟨nd, rfl⟩⟩; refine ⟨_, rfl, ?_⟩) | (go_at_call 66; (with_reducible refine (impl_within.calls a0_1 1 4 false _ A4.out).mono ?_); rintro e w' ⟨rfl, ⟨nd, rfl⟩⟩))
  go_ret
  exact ⟨by first | rfl | (simp [eN_q, eS_q] <;> rfl) | (simp [*, eN_q, eS_q] <;> rfl), by repeat (with_reducible first | exact HB.out | apply bA_q | apply pB_q | apply bD_q | refine bS_q ?_ GE500.out)⟩
 subst c5
 have H1 : ((impl_isSet.f a0_2).bind fun t503 => (some t503)) = some r := by rw [if_pos rfl] at H; exact H
 clear H
 have H := H1
 clear H1
 replace H := oB_q.mp H
 obtain ⟨t503, A60, H⟩ := H
 replace H : (some t503) = some r := H
 have A6 := Ae_q A60
 clear A60
 obtain rfl := oI_q H
 go_enter Try.func58, Try.ntmps58
 go_wp2_with (first | ((with_reducible refine gD_q (N := 1) rfl ?_); refine bE_q ?hg (N := 1) ?hd (cs := #[.int .i64 a0_0, .int .i64 a0_1, .int .i64 a0_2]) (t := 50) ?hr ?_; (case hd => rfl); (case hg => rfl); (case hr => first | (go_simp; done) | (go_simp; rfl)); intro gb500 hg w7 hbox hb; have n0_ := Ae_q (bT_q (bel HB.out) hb); have n1_ := Ae_q (hbox); have n2_ := Ae_q ((by rw [hg]; exact (bZ_q (bel HB.out)) : w.heap.size ≤ gb500)); have n3_ := Ae_q ((by rw [hg]; exact (bZ_q (bel HB.out)) : w.heap.size ≤ gb500)); clear HB; have HB := n0_; have BK500 := n1_; have GW500 := n2_; have GE500 := n3_; clear n0_ n1_ n2_ n3_; clear hb hbox hg; have hcz8_0 : w7.cell? ⟨gb500, 0, none⟩ = some (.int .i64 a0_0) := (bC_q BK500.out 0).trans rfl; have hcz8_1 : w7.cell? ⟨gb500, 1, none⟩ = some (.int .i64 a0_1) := (bC_q BK500.out 1).trans rfl; have hcz8_2 : w7.cell? ⟨gb500, 2, none⟩ = some (.int .i64 a0_2) := (bC_q BK500.out 2).trans rfl; have hfz8_0 := bF_q BK500.out 0; have hfz8_1 := bF_q BK500.out 1; have hfz8_2 := bF_q BK500.out 2) | ((with_reducible refine gC_q (f := 66) rfl ?_); refine gL_q (some 5) rfl rfl Try.func66 (by kernel_rfl) rfl #[.int .i64 a0_0, .int .i64 1, .int .i64 99] rfl (by (try simp only [lM_q, lC_q, lN_q]); first | done | rfl | (simp only [lD_q, lT_q]; rfl)) ?_; (with_reducible refine (impl_within.calls a0_0 1 99 true _ A2.out).mono ?_); rintro e w' ⟨rfl, ⟨nd, rfl⟩⟩; refine ⟨_, rfl, ?_⟩) | (go_at_call 66; (with_reducible refine (impl_within.calls a0_1 1 4 true _ A4.out).mono ?_); rintro e w' ⟨rfl, ⟨nd, rfl⟩⟩) | (go_at_call 59; (with_reducible refine (impl_isSet.calls a0_2 t503 _ A6.out).mono ?_); rintro e w' ⟨rfl, ⟨nd, rfl⟩⟩))
 go_ret
 exact ⟨by first | rfl | (simp [eN_q, eS_q] <;> rfl) | (simp [*, eN_q, eS_q] <;> rfl), by repeat (with_reducible first | exact HB.out | apply bA_q | apply pB_q | apply bD_q | refine bS_q ?_ GE500.out)⟩

end Go.Proofs.Ytnhenfmegpjigaa.PEv
