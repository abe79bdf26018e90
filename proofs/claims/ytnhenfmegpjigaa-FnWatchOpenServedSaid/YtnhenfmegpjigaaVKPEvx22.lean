import Derived.Test.YtnhenfmegpjigaaVKPEvx0
import Derived.Test.YtnhenfmegpjigaaVKPEvx3
import Derived.Test.YtnhenfmegpjigaaVKPEvx20
namespace Go.Proofs.Ytnhenfmegpjigaa.PEv
open Go.RowKit Go.Proofs.YtnhenfmegpjigaaW.PrintWords Go.Proofs.YtnhenfmegpjigaaW.PrintLast Go.Proofs.YtnhenfmegpjigaaW.PrintMore
attribute [local go_sem] max2_int min2_int max_two min_two max_three min_three max_four min_four
set_option linter.unusedVariables false
set_option linter.unusedSimpArgs false

def impl_DietAllows.f (a0 : Int) (a1 : Int) : Option (Bool) := (impl_isKind.f a1).bind fun t508 => (if t508 = true then (if a0 = 1 then (some true) else (if a0 = 2 then (some (a1 != 5)) else (if a0 = 3 then (if a1 = 5 then (some false) else (some (a1 != 4))) else (if a0 = 4 then (some (a1 == 1)) else (some false))))) else (some false))
set_option maxHeartbeats 8000000 in
set_option maxRecDepth 100000 in
theorem impl_DietAllows.calls (a0 : Int) (a1 : Int) (r : Bool) (w : World) (h : impl_DietAllows.f a0 a1 = some r) :
    Calls Try.prog 60 #[.int .i64 a0, .int .i64 a1] w fun e w' => e = .returned (.bool r) ∧ Drawn0 w w' := by
 have H : ((impl_isKind.f a1).bind fun t508 => (if t508 = true then (if a0 = 1 then (some true) else (if a0 = 2 then (some (a1 != 5)) else (if a0 = 3 then (if a1 = 5 then (some false) else (some (a1 != 4))) else (if a0 = 4 then (some (a1 == 1)) else (some false))))) else (some false))) = some r := h
 clear h
 replace H := oB_q.mp H
 obtain ⟨t508, A30, H⟩ := H
 replace H : (if t508 = true then (if a0 = 1 then (some true) else (if a0 = 2 then (some (a1 != 5)) else (if a0 = 3 then (if a1 = 5 then (some false) else (some (a1 != 4))) else (if a0 = 4 then (some (a1 == 1)) else (some false))))) else (some false)) = some r := H
 have A3 := Ae_q A30
 clear A30
 by_cases c4 : t508 = true
 rotate_left
 ·replace c4 := fM_q.mpr c4
  subst c4
  have H1 : (some false) = some r := by rw [if_neg (show ¬ (false = true) by decide)] at H; exact H
  clear H
  have H := H1
  clear H1
  obtain rfl := oI_q H
  go_enter Try.func60, Try.ntmps60
  go_wp2_with (first | ((with_reducible refine gC_q (f := 65) rfl ?_); refine gL_q (some 6) rfl rfl Try.func65 (by kernel_rfl) rfl #[.int .i64 a1] rfl (by (try simp only [lM_q, lC_q, lN_q]); first | done | rfl | (simp only [lD_q, lT_q]; rfl)) ?_; (with_reducible refine (impl_isKind.calls a1 false _ A3.out).mono ?_); rintro e w' ⟨rfl, ⟨nd, rfl⟩⟩; refine ⟨_, rfl, ?_⟩))
  go_ret
  exact ⟨by first | rfl | (simp; done) | (simp [*]; done), by repeat (first | exact Drawn0.refl _ | apply Drawn0.step)⟩
 subst c4
 have H1 : (if a0 = 1 then (some true) else (if a0 = 2 then (some (a1 != 5)) else (if a0 = 3 then (if a1 = 5 then (some false) else (some (a1 != 4))) else (if a0 = 4 then (some (a1 == 1)) else (some false))))) = some r := by rw [if_pos rfl] at H; exact H
 clear H
 have H := H1
 clear H1
 by_cases c5 : a0 = 1
 ·rw [if_pos c5] at H
  have c5b0 : (a0 == 1) = true := beq_iff_eq.mpr c5
  have c5b1 : (a0 != 1) = false := nE_q.mpr c5
  clear c5
  obtain rfl := oI_q H
  go_enter Try.func60, Try.ntmps60
  go_wp2_with (first | ((with_reducible refine gC_q (f := 65) rfl ?_); refine gL_q (some 6) rfl rfl Try.func65 (by kernel_rfl) rfl #[.int .i64 a1] rfl (by (try simp only [lM_q, lC_q, lN_q]); first | done | rfl | (simp only [lD_q, lT_q]; rfl)) ?_; (with_reducible refine (impl_isKind.calls a1 true _ A3.out).mono ?_); rintro e w' ⟨rfl, ⟨nd, rfl⟩⟩; refine ⟨_, rfl, ?_⟩))
  go_ret
  exact ⟨by first | rfl | (simp; done) | (simp [*]; done), by repeat (first | exact Drawn0.refl _ | apply Drawn0.step)⟩
 rw [if_neg c5] at H
 have c5b0 : (a0 == 1) = false := fN_q.mpr c5
 have c5b1 : (a0 != 1) = true := nI_q.mpr c5
 by_cases c6 : a0 = 2
 ·rw [if_pos c6] at H
  have c6b0 : (a0 == 2) = true := beq_iff_eq.mpr c6
  have c6b1 : (a0 != 2) = false := nE_q.mpr c6
  clear c6
  obtain rfl := oI_q H
  go_enter Try.func60, Try.ntmps60
  go_wp2_with (first | ((with_reducible refine gC_q (f := 65) rfl ?_); refine gL_q (some 6) rfl rfl Try.func65 (by kernel_rfl) rfl #[.int .i64 a1] rfl (by (try simp only [lM_q, lC_q, lN_q]); first | done | rfl | (simp only [lD_q, lT_q]; rfl)) ?_; (with_reducible refine (impl_isKind.calls a1 true _ A3.out).mono ?_); rintro e w' ⟨rfl, ⟨nd, rfl⟩⟩; refine ⟨_, rfl, ?_⟩))
  go_ret
  exact ⟨by first | rfl | (simp; done) | (simp [*]; done), by repeat (first | exact Drawn0.refl _ | apply Drawn0.step)⟩
 rw [if_neg c6] at H
 have c6b0 : (a0 == 2) = false := fN_q.mpr c6
 have c6b1 : (a0 != 2) = true := nI_q.mpr c6
 by_cases c7 : a0 = 3
 ·rw [if_pos c7] at H
  have c7b0 : (a0 == 3) = true := beq_iff_eq.mpr c7
  have c7b1 : (a0 != 3) = false := nE_q.mpr c7
  clear c7
  by_cases c8 : a1 = 5
  ·rw [if_pos c8] at H
   have c8b0 : (a1 == 5) = true := beq_iff_eq.mpr c8
   have c8b1 : (a1 != 5) = false := nE_q.mpr c8
   clear c8
   obtain rfl := oI_q H
   go_enter Try.func60, Try.ntmps60
   go_wp2_with (first | ((with_reducible refine gC_q (f := 65) rfl ?_); refine gL_q (some 6) rfl rfl Try.func65 (by kernel_rfl) rfl #[.int .i64 a1] rfl (by (try simp only [lM_q, lC_q, lN_q]); first | done | rfl | (simp only [lD_q, lT_q]; rfl)) ?_; (with_reducible refine (impl_isKind.calls a1 true _ A3.out).mono ?_); rintro e w' ⟨rfl, ⟨nd, rfl⟩⟩; refine ⟨_, rfl, ?_⟩))
   go_ret
   exact ⟨by first | rfl | (simp; done) | (simp [*]; done), by repeat (first | exact Drawn0.refl _ | apply Drawn0.step)⟩
  rw [if_neg c8] at H
  have c8b0 : (a1 == 5) = false := fN_q.mpr c8
  have c8b1 : (a1 != 5) = true := nI_q.mpr c8
  obtain rfl := oI_q H
  go_enter Try.func60, Try.ntmps60
  go_wp2_with (first | ((with_reducible refine gC_q (f := 65) rfl ?_); refine gL_q (some 6) rfl rfl Try.func65 (by kernel_rfl) rfl #[.int .i64 a1] rfl (by (try simp only [lM_q, lC_q, lN_q]); first | done | rfl | (simp only [lD_q, lT_q]; rfl)) ?_; (with_reducible refine (impl_isKind.calls a1 true _ A3.out).mono ?_); rintro e w' ⟨rfl, ⟨nd, rfl⟩⟩; refine ⟨_, rfl, ?_⟩))
  go_ret
  exact ⟨by first | rfl | (simp; done) | (simp [*]; done), by repeat (first | exact Drawn0.refl _ | apply Drawn0.step)⟩
 rw [if_neg c7] at H
 have c7b0 : (a0 == 3) = false := fN_q.mpr c7
 have c7b1 : (a0 != 3) = true := nI_q.mpr c7
 by_cases c9 : a0 = 4
 ·rw [if_pos c9] at H
  have c9b0 : (a0 == 4) = true := beq_iff_eq.mpr c9
  have c9b1 : (a0 != 4) = false := nE_q.mpr c9
  clear c9
  obtain rfl := oI_q H
  go_enter Try.func60, Try.ntmps60
  go_wp2_with (first | ((with_reducible refine gC_q (f := 65) rfl ?_); refine gL_q (some 6) rfl rfl Try.func65 (by kernel_rfl) rfl #[.int .i64 a1] rfl (by (try simp only [lM_q, lC_q, lN_q]); first | done | rfl | (simp only [lD_q, lT_q]; rfl)) ?_; (with_reducible refine (impl_isKind.calls a1 true _ A3.out).mono ?_); rintro e w' ⟨rfl, ⟨nd, rfl⟩⟩; refine ⟨_, rfl, ?_⟩))
  go_ret
  exact ⟨by first | rfl | (simp; done) | (simp [*]; done), by repeat (first | exact Drawn0.refl _ | apply Drawn0.step)⟩
 rw [if_neg c9] at H
 have c9b0 : (a0 == 4) = false := fN_q.mpr c9
 have c9b1 : (a0 != 4) = true := nI_q.mpr c9
 obtain rfl := oI_q H
 go_enter Try.func60, Try.ntmps60
 go_wp2_with (first | ((with_reducible refine gC_q (f := 65) rfl ?_); refine gL_q (some 6) rfl rfl Try.func65 (by kernel_rfl) rfl #[.int .i64 a1] rfl (by (try simp only [lM_q, lC_q, lN_q]); first | done | rfl | (simp only [lD_q, lT_q]; rfl)) ?_; (with_reducible refine (impl_isKind.calls a1 true _ A3.out).mono ?_); rintro e w' ⟨rfl, ⟨nd, rfl⟩⟩; refine ⟨_, rfl, ?_⟩))
 go_ret
 exact ⟨by first | rfl | (simp; done) | (simp [*]; done), by repeat (first | exact Drawn0.refl _ | apply Drawn0.step)⟩

def impl_GuestMay.f (a0_0 : Int) (a0_1 : Int) (a0_2 : Int) (a1 : Int) (a2 : Int) : Option (Bool) := (impl_guestValid.f a0_0 a0_1 a0_2).bind fun t510 => (if t510 = true then ((impl_isSet.f a1).bind fun t511 => (if t511 = true then (if (Go.bits .and .i64 a0_2 a1) = 0 then ((impl_DietAllows.f a0_1 a2).bind fun t512 => (some t512)) else (some false)) else (some false))) else (some false))
set_option maxHeartbeats 8000000 in
set_option maxRecDepth 100000 in
theorem impl_GuestMay.calls (a0_0 : Int) (a0_1 : Int) (a0_2 : Int) (a1 : Int) (a2 : Int) (r : Bool) (w : World) (h : impl_GuestMay.f a0_0 a0_1 a0_2 a1 a2 = some r) :
    Calls Try.prog 37 #[.agg #[.int .i64 a0_0, .int .i64 a0_1, .int .i64 a0_2], .int .i64 a1, .int .i64 a2] w fun e w' => e = .returned (.bool r) ∧ Below w.heap.size w w' := by
 have hu50 := Try.underlying50
 have HB := Ae_q (bR_q w.heap.size w)
 have H : ((impl_guestValid.f a0_0 a0_1 a0_2).bind fun t510 => (if t510 = true then ((impl_isSet.f a1).bind fun t511 => (if t511 = true then (if (Go.bits .and .i64 a0_2 a1) = 0 then ((impl_DietAllows.f a0_1 a2).bind fun t512 => (some t512)) else (some false)) else (some false))) else (some false))) = some r := h
 clear h
 replace H := oB_q.mp H
 obtain ⟨t510, A40, H⟩ := H
 replace H : (if t510 = true then ((impl_isSet.f a1).bind fun t511 => (if t511 = true then (if (Go.bits .and .i64 a0_2 a1) = 0 then ((impl_DietAllows.f a0_1 a2).bind fun t512 => (some t512)) else (some false)) else (some false))) else (some false)) = some r := H
 have A4 := Ae_q A40
 clear A40
 by_cases c5 : t510 = true
 rotate_left
 ·replace c5 := fM_q.mpr c5
  subst c5
  have H1 : (some false) = some r := by rw [if_neg (show ¬ (false = true) by decide)] at H; exact H
  clear H
  have H := H1
  clear H1
  obtain rfl := oI_q H
  go_enter Try.func37, Try.ntmps37
  go_wp2_with (first | ((with_reducible refine gD_q (N := 3) rfl ?_); refine bE_q ?hg (N := 3) ?hd (cs := #[.int .i64 a0_0, .int .i64 a0_1, .int .i64 a0_2]) (t := 50) ?hr ?_; (case hd => rfl); (case hg => rfl); (case hr => first | (go_simp; done) | (go_simp; rfl)); intro gb509 hg w21 hbox hb; have n0_ := Ae_q (bT_q (bel HB.out) hb); have n1_ := Ae_q (hbox); have n2_ := Ae_q ((by rw [hg]; exact (bZ_q (bel HB.out)) : w.heap.size ≤ gb509)); have n3_ := Ae_q ((by rw [hg]; exact (bZ_q (bel HB.out)) : w.heap.size ≤ gb509)); clear HB; have HB := n0_; have BK509 := n1_; have GW509 := n2_; have GE509 := n3_; clear n0_ n1_ n2_ n3_; clear hb hbox hg; have hcz22_0 : cI w21 gb509 0 a0_0 := cZ BK509 0 rfl; have hcz22_1 : cI w21 gb509 1 a0_1 := cZ BK509 1 rfl; have hcz22_2 : cI w21 gb509 2 a0_2 := cZ BK509 2 rfl; have hfz22_0 := bF_q BK509.out 0; have hfz22_1 := bF_q BK509.out 1; have hfz22_2 := bF_q BK509.out 2) | ((with_reducible refine gC_q (f := 58) rfl ?_); refine gL_q (some 8) rfl rfl Try.func58 (by kernel_rfl) rfl #[.agg #[.int .i64 a0_0, .int .i64 a0_1, .int .i64 a0_2]] rfl (by (try simp only [lM_q, lC_q, lN_q]); first | done | rfl | (simp only [lD_q, lT_q]; rfl)) ?_; (with_reducible refine (impl_guestValid.calls a0_0 a0_1 a0_2 false _ A4.out).mono ?_); rintro e w23 ⟨rfl, hb⟩; refine ⟨_, rfl, ?_⟩; have n0_ := Ae_q (bB_q (g := gb509) (o := .cells #[.int .i64 a0_0, .int .i64 a0_1, .int .i64 a0_2] 50 (0, 0)) (bup BK509.out) hb); have n1_ := Ae_q (bT_q (by repeat (with_reducible first | exact HB.out | apply bA_q | apply pB_q | apply bD_q | refine bS_q ?_ GE509.out)) hb); clear BK509; clear HB; have BK509 := n0_; have HB := n1_; clear n0_ n1_; (try clear hb); (try clear hb2); (try clear hk); (try clear hi)))
  go_ret
  exact ⟨by first | rfl | (simp [eN_q, eS_q] <;> rfl) | (simp [*, eN_q, eS_q] <;> rfl), by repeat (with_reducible first | exact HB.out | apply bA_q | apply pB_q | apply bD_q | refine bS_q ?_ GE509.out)⟩
 subst c5
 have H1 : ((impl_isSet.f a1).bind fun t511 => (if t511 = true then (if (Go.bits .and .i64 a0_2 a1) = 0 then ((impl_DietAllows.f a0_1 a2).bind fun t512 => (some t512)) else (some false)) else (some false))) = some r := by rw [if_pos rfl] at H; exact H
 clear H
 have H := H1
 clear H1
 replace H := oB_q.mp H
 obtain ⟨t511, A60, H⟩ := H
 replace H : (if t511 = true then (if (Go.bits .and .i64 a0_2 a1) = 0 then ((impl_DietAllows.f a0_1 a2).bind fun t512 => (some t512)) else (some false)) else (some false)) = some r := H
 have A6 := Ae_q A60
 clear A60
 by_cases c7 : t511 = true
 rotate_left
 ·replace c7 := fM_q.mpr c7
  subst c7
  have H1 : (some false) = some r := by rw [if_neg (show ¬ (false = true) by decide)] at H; exact H
  clear H
  have H := H1
  clear H1
  obtain rfl := oI_q H
  go_enter Try.func37, Try.ntmps37
  go_wp2_with (first | ((with_reducible refine gD_q (N := 3) rfl ?_); refine bE_q ?hg (N := 3) ?hd (cs := #[.int .i64 a0_0, .int .i64 a0_1, .int .i64 a0_2]) (t := 50) ?hr ?_; (case hd => rfl); (case hg => rfl); (case hr => first | (go_simp; done) | (go_simp; rfl)); intro gb509 hg w18 hbox hb; have n0_ := Ae_q (bT_q (bel HB.out) hb); have n1_ := Ae_q (hbox); have n2_ := Ae_q ((by rw [hg]; exact (bZ_q (bel HB.out)) : w.heap.size ≤ gb509)); have n3_ := Ae_q ((by rw [hg]; exact (bZ_q (bel HB.out)) : w.heap.size ≤ gb509)); clear HB; have HB := n0_; have BK509 := n1_; have GW509 := n2_; have GE509 := n3_; clear n0_ n1_ n2_ n3_; clear hb hbox hg; have hcz19_0 : cI w18 gb509 0 a0_0 := cZ BK509 0 rfl; have hcz19_1 : cI w18 gb509 1 a0_1 := cZ BK509 1 rfl; have hcz19_2 : cI w18 gb509 2 a0_2 := cZ BK509 2 rfl; have hfz19_0 := bF_q BK509.out 0; have hfz19_1 := bF_q BK509.out 1; have hfz19_2 := bF_q BK509.out 2) | ((with_reducible refine gC_q (f := 58) rfl ?_); refine gL_q (some 8) rfl rfl Try.func58 (by kernel_rfl) rfl #[.agg #[.int .i64 a0_0, .int .i64 a0_1, .int .i64 a0_2]] rfl (by (try simp only [lM_q, lC_q, lN_q]); first | done | rfl | (simp only [lD_q, lT_q]; rfl)) ?_; (with_reducible refine (impl_guestValid.calls a0_0 a0_1 a0_2 true _ A4.out).mono ?_); rintro e w20 ⟨rfl, hb⟩; refine ⟨_, rfl, ?_⟩; have n0_ := Ae_q (bB_q (g := gb509) (o := .cells #[.int .i64 a0_0, .int .i64 a0_1, .int .i64 a0_2] 50 (0, 0)) (bup BK509.out) hb); have n1_ := Ae_q (bT_q (by repeat (with_reducible first | exact HB.out | apply bA_q | apply pB_q | apply bD_q | refine bS_q ?_ GE509.out)) hb); clear BK509; clear HB; have BK509 := n0_; have HB := n1_; clear n0_ n1_; (try clear hb); (try clear hb2); (try clear hk); (try clear hi)) | (go_at_call 59; (with_reducible refine (impl_isSet.calls a1 false _ A6.out).mono ?_); rintro e w' ⟨rfl, ⟨nd, rfl⟩⟩))
  go_ret
  exact ⟨by first | rfl | (simp [eN_q, eS_q] <;> rfl) | (simp [*, eN_q, eS_q] <;> rfl), by repeat (with_reducible first | exact HB.out | apply bA_q | apply pB_q | apply bD_q | refine bS_q ?_ GE509.out)⟩
 subst c7
 have H1 : (if (Go.bits .and .i64 a0_2 a1) = 0 then ((impl_DietAllows.f a0_1 a2).bind fun t512 => (some t512)) else (some false)) = some r := by rw [if_pos rfl] at H; exact H
 clear H
 have H := H1
 clear H1
 by_cases c8 : (Go.bits .and .i64 a0_2 a1) = 0
 rotate_left
 ·rw [if_neg c8] at H
  have c8b0 : ((Go.bits .and .i64 a0_2 a1) == 0) = false := fN_q.mpr c8
  have c8b1 : ((Go.bits .and .i64 a0_2 a1) != 0) = true := nI_q.mpr c8
  obtain rfl := oI_q H
  go_enter Try.func37, Try.ntmps37
  go_wp2_with (first | ((with_reducible refine gD_q (N := 3) rfl ?_); refine bE_q ?hg (N := 3) ?hd (cs := #[.int .i64 a0_0, .int .i64 a0_1, .int .i64 a0_2]) (t := 50) ?hr ?_; (case hd => rfl); (case hg => rfl); (case hr => first | (go_simp; done) | (go_simp; rfl)); intro gb509 hg w14 hbox hb; have n0_ := Ae_q (bT_q (bel HB.out) hb); have n1_ := Ae_q (hbox); have n2_ := Ae_q ((by rw [hg]; exact (bZ_q (bel HB.out)) : w.heap.size ≤ gb509)); have n3_ := Ae_q ((by rw [hg]; exact (bZ_q (bel HB.out)) : w.heap.size ≤ gb509)); clear HB; have HB := n0_; have BK509 := n1_; have GW509 := n2_; have GE509 := n3_; clear n0_ n1_ n2_ n3_; clear hb hbox hg; have hcz15_0 : cI w14 gb509 0 a0_0 := cZ BK509 0 rfl; have hcz15_1 : cI w14 gb509 1 a0_1 := cZ BK509 1 rfl; have hcz15_2 : cI w14 gb509 2 a0_2 := cZ BK509 2 rfl; have hfz15_0 := bF_q BK509.out 0; have hfz15_1 := bF_q BK509.out 1; have hfz15_2 := bF_q BK509.out 2) | ((with_reducible refine gC_q (f := 58) rfl ?_); refine gL_q (some 8) rfl rfl Try.func58 (by kernel_rfl) rfl #[.agg #[.int .i64 a0_0, .int .i64 a0_1, .int .i64 a0_2]] rfl (by (try simp only [lM_q, lC_q, lN_q]); first | done | rfl | (simp only [lD_q, lT_q]; rfl)) ?_; (with_reducible refine (impl_guestValid.calls a0_0 a0_1 a0_2 true _ A4.out).mono ?_); rintro e w16 ⟨rfl, hb⟩; refine ⟨_, rfl, ?_⟩; have n0_ := Ae_q (bB_q (g := gb509) (o := .cells #[.int .i64 a0_0, .int .i64 a0_1, .int .i64 a0_2] 50 (0, 0)) (bup BK509.out) hb); have n1_ := Ae_q (bT_q (by repeat (with_reducible first | exact HB.out | apply bA_q | apply pB_q | apply bD_q | refine bS_q ?_ GE509.out)) hb); clear BK509; clear HB; have BK509 := n0_; have HB := n1_; clear n0_ n1_; (try clear hb); (try clear hb2); (try clear hk); (try clear hi)) | (go_at_call 59; (with_reducible refine (impl_isSet.calls a1 true _ A6.out).mono ?_); rintro e w' ⟨rfl, ⟨nd, rfl⟩⟩; have hcz17_0 : cI w16 gb509 0 a0_0 := cZ BK509 0 rfl; have hcz17_1 : cI w16 gb509 1 a0_1 := cZ BK509 1 rfl; have hcz17_2 : cI w16 gb509 2 a0_2 := cZ BK509 2 rfl; have hfz17_0 := bF_q BK509.out 0; have hfz17_1 := bF_q BK509.out 1; have hfz17_2 := bF_q BK509.out 2))
  go_ret
  exact ⟨by first | rfl | (simp [eN_q, eS_q] <;> rfl) | (simp [*, eN_q, eS_q] <;> rfl), by repeat (with_reducible first | exact HB.out | apply bA_q | apply pB_q | apply bD_q | refine bS_q ?_ GE509.out)⟩
 rw [if_pos c8] at H
 have c8b0 : ((Go.bits .and .i64 a0_2 a1) == 0) = true := beq_iff_eq.mpr c8
 have c8b1 : ((Go.bits .and .i64 a0_2 a1) != 0) = false := nE_q.mpr c8
 clear c8
 replace H := oB_q.mp H
 obtain ⟨t512, A90, H⟩ := H
 replace H : (some t512) = some r := H
 have A9 := Ae_q A90
 clear A90
 obtain rfl := oI_q H
 go_enter Try.func37, Try.ntmps37
 go_wp2_with (first | ((with_reducible refine gD_q (N := 3) rfl ?_); refine bE_q ?hg (N := 3) ?hd (cs := #[.int .i64 a0_0, .int .i64 a0_1, .int .i64 a0_2]) (t := 50) ?hr ?_; (case hd => rfl); (case hg => rfl); (case hr => first | (go_simp; done) | (go_simp; rfl)); intro gb509 hg w10 hbox hb; have n0_ := Ae_q (bT_q (bel HB.out) hb); have n1_ := Ae_q (hbox); have n2_ := Ae_q ((by rw [hg]; exact (bZ_q (bel HB.out)) : w.heap.size ≤ gb509)); have n3_ := Ae_q ((by rw [hg]; exact (bZ_q (bel HB.out)) : w.heap.size ≤ gb509)); clear HB; have HB := n0_; have BK509 := n1_; have GW509 := n2_; have GE509 := n3_; clear n0_ n1_ n2_ n3_; clear hb hbox hg; have hcz11_0 : cI w10 gb509 0 a0_0 := cZ BK509 0 rfl; have hcz11_1 : cI w10 gb509 1 a0_1 := cZ BK509 1 rfl; have hcz11_2 : cI w10 gb509 2 a0_2 := cZ BK509 2 rfl; have hfz11_0 := bF_q BK509.out 0; have hfz11_1 := bF_q BK509.out 1; have hfz11_2 := bF_q BK509.out 2) | ((with_reducible refine gC_q (f := 58) rfl ?_); refine gL_q (some 8) rfl rfl Try.func58 (by kernel_rfl) rfl #[.agg #[.int .i64 a0_0, .int .i64 a0_1, .int .i64 a0_2]] rfl (by (try simp only [lM_q, lC_q, lN_q]); first | done | rfl | (simp only [lD_q, lT_q]; rfl)) ?_; (with_reducible refine (impl_guestValid.calls a0_0 a0_1 a0_2 true _ A4.out).mono ?_); rintro e w12 ⟨rfl, hb⟩; refine ⟨_, rfl, ?_⟩; have n0_ := Ae_q (bB_q (g := gb509) (o := .cells #[.int .i64 a0_0, .int .i64 a0_1, .int .i64 a0_2] 50 (0, 0)) (bup BK509.out) hb); have n1_ := Ae_q (bT_q (by repeat (with_reducible first | exact HB.out | apply bA_q | apply pB_q | apply bD_q | refine bS_q ?_ GE509.out)) hb); clear BK509; clear HB; have BK509 := n0_; have HB := n1_; clear n0_ n1_; (try clear hb); (try clear hb2); (try clear hk); (try clear hi)) | (go_at_call 59; (with_reducible refine (impl_isSet.calls a1 true _ A6.out).mono ?_); rintro e w' ⟨rfl, ⟨nd, rfl⟩⟩; have hcz13_0 : cI w12 gb509 0 a0_0 := cZ BK509 0 rfl; have hcz13_1 : cI w12 gb509 1 a0_1 := cZ BK509 1 rfl; have hcz13_2 : cI w12 gb509 2 a0_2 := cZ BK509 2 rfl; have hfz13_0 := bF_q BK509.out 0; have hfz13_1 := bF_q BK509.out 1; have hfz13_2 := bF_q BK509.out 2) | (go_at_call 60; (with_reducible refine (impl_DietAllows.calls a0_1 a2 t512 _ A9.out).mono ?_); rintro e w' ⟨rfl, ⟨nd, rfl⟩⟩))
 go_ret
 exact ⟨by first | rfl | (simp [eN_q, eS_q] <;> rfl) | (simp [*, eN_q, eS_q] <;> rfl), by repeat (with_reducible first | exact HB.out | apply bA_q | apply pB_q | apply bD_q | refine bS_q ?_ GE509.out)⟩

end Go.Proofs.Ytnhenfmegpjigaa.PEv
