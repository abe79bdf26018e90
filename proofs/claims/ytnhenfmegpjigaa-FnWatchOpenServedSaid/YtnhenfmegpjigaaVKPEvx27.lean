import Derived.Test.YtnhenfmegpjigaaVKPEvx0
import Derived.Test.YtnhenfmegpjigaaVKPEvx1
import Derived.Test.YtnhenfmegpjigaaVKPEvx5
import Derived.Test.YtnhenfmegpjigaaVKPEvx6
import Derived.Test.YtnhenfmegpjigaaVKPEvx25
namespace Go.Proofs.Ytnhenfmegpjigaa.PEv
open Go.RowKit Go.Proofs.YtnhenfmegpjigaaW.PrintWords Go.Proofs.YtnhenfmegpjigaaW.PrintLast Go.Proofs.YtnhenfmegpjigaaW.PrintMore
attribute [local go_sem] max2_int min2_int max_two min_two max_three min_three max_four min_four
set_option linter.unusedVariables false
set_option linter.unusedSimpArgs false

def spec_l43Guest.l0 : Nat → List (S50) → Int → Int → Option (Int)
 | 0, _, _, _ => none
 | k + 1, x0, x1, x5 => if x5 < (x0.length : Int) then (if 0 ≤ x5 then (if ((rd_T50 x0 x5).f0) = x1 then (some x5) else (spec_l43Guest.l0 k x0 x1 (wrap64 (x5 + 1)))) else (none)) else (some (-1))
def spec_l43Guest.f (k : Nat) (l0 : List (S50)) (a1 : Int) : Option (Int) := spec_l43Guest.l0 k l0 a1 0
set_option maxHeartbeats 8000000 in
set_option maxRecDepth 100000 in
theorem spec_l43Guest.calls (k : Nat) (A0 : Option Addr) (c0 : Nat) (l0 : List (S50)) (a1 : Int) (r : Int) (w : World) (hr0 : Kd.C k50 w A0 l0.length l0) (hc0 : l0.length ≤ c0) (h : spec_l43Guest.f k l0 a1 = some r) :
    Calls Try.prog 71 #[.slice A0 l0.length c0, .int .i64 a1] w fun e w' => e = .returned (.int .i64 r) ∧ Drawn0 w w' := by
 have HR0 := Ae_q hr0
 have HC0 := Ae_q hc0
 clear hr0 hc0
 have H : (spec_l43Guest.l0 k l0 a1 0) = some r := h
 clear h
 have H' := Ae_q H
 clear H
 go_enter Try.func71, Try.ntmps71
 go_wp2
 go_loopg [5] k (fun kq v5 w' => ∃ (x5_1 : Int), v5 = .int .i64 x5_1 ∧ Aside0 (spec_l43Guest.l0 kq l0 a1 x5_1 = some r) ∧ Aside0 (kq ≤ k) ∧ Drawn0 w w')
 case atStart => exact ⟨(0), (by first | rfl | (simp; done) | (simp [*]; done)), H', ⟨nR_q _⟩, by repeat (first | exact Drawn0.refl _ | apply Drawn0.step)⟩
 case round =>
  clear H'
  try clear p2
  obtain ⟨x5_1, rfl, HA, HK1, ⟨m1, rfl⟩⟩ := hrel
  cases gk with
  | zero => exact absurd HA.out (by simp [spec_l43Guest.l0])
  | succ k1 =>
   have H := HA.out
   clear HA
   simp only [spec_l43Guest.l0] at H
   by_cases c3 : x5_1 < (l0.length : Int)
   rotate_left
   ·rw [if_neg c3] at H
    have c3b0 : decide (x5_1 < (l0.length : Int)) = false := dF_q c3
    clear c3
    obtain rfl := oI_q H
    go_wp2
    go_ret
    exact ⟨by first | rfl | (simp; done) | (simp [*]; done), by repeat (first | exact Drawn0.refl _ | apply Drawn0.step)⟩
   rw [if_pos c3] at H
   have c3b0 : decide (x5_1 < (l0.length : Int)) = true := dT_q c3
   clear c3
   by_cases c4 : 0 ≤ x5_1
   rotate_left
   ·rw [if_neg c4] at H
    exact absurd H (by simp)
   rw [if_pos c4] at H
   have c4b0 : decide (0 ≤ x5_1) = true := dT_q c4
   clear c4
   by_cases c5 : ((rd_T50 l0 x5_1).f0) = a1
   ·rw [if_pos c5] at H
    have c5b0 : (((rd_T50 l0 x5_1).f0) == a1) = true := beq_iff_eq.mpr c5
    have c5b1 : (((rd_T50 l0 x5_1).f0) != a1) = false := nE_q.mpr c5
    clear c5
    obtain rfl := oI_q H
    have p548 : 0 ≤ (x5_1 : Int) := oD_q (by assumption)
    have q548 : x5_1 < (l0.length : Int) := oD_q (by assumption)
    obtain ⟨ad548, e548, hx548_0, hx548_1, hx548_2⟩ := at_T50 HR0.out x5_1 p548 q548
    cases e548
    replace p548 := eq_true p548
    replace q548 := eq_true q548
    go_wp2
    go_ret
    exact ⟨by first | rfl | (simp; done) | (simp [*]; done), by repeat (first | exact Drawn0.refl _ | apply Drawn0.step)⟩
   rw [if_neg c5] at H
   have c5b0 : (((rd_T50 l0 x5_1).f0) == a1) = false := fN_q.mpr c5
   have c5b1 : (((rd_T50 l0 x5_1).f0) != a1) = true := nI_q.mpr c5
   have H' := Ae_q H
   clear H
   have p548 : 0 ≤ (x5_1 : Int) := oD_q (by assumption)
   have q548 : x5_1 < (l0.length : Int) := oD_q (by assumption)
   obtain ⟨ad548, e548, hx548_0, hx548_1, hx548_2⟩ := at_T50 HR0.out x5_1 p548 q548
   cases e548
   replace p548 := eq_true p548
   replace q548 := eq_true q548
   go_wp2
   go_roundg k1
   case measure => have := HK1.out; omega
   case rel => exact ⟨(wrap64 (x5_1 + 1)), (by first | rfl | (simp; done) | (simp [*]; done)), H', ⟨by have := HK1.out; omega⟩, by repeat (first | exact Drawn0.refl _ | apply Drawn0.step)⟩

def spec_l12Last.f (a0 : Int) : Option (Int) := (some (([0, 5, 4, 3, 1] : List Int) : List Int)).bind fun y549 => (if 0 ≤ a0 then (if a0 < (y549.length : Int) then (some (rd y549 a0)) else (none)) else (none))
set_option maxHeartbeats 8000000 in
set_option maxRecDepth 100000 in
theorem spec_l12Last.calls (a0 : Int) (r : Int) (w : World) (h : spec_l12Last.f a0 = some r) :
    Calls Try.prog 77 #[.int .i64 a0] w fun e w' => e = .returned (.int .i64 r) ∧ Below w.heap.size w w' := by
 have HB := Ae_q (bR_q w.heap.size w)
 have H : ((some (([0, 5, 4, 3, 1] : List Int) : List Int)).bind fun y549 => (if 0 ≤ a0 then (if a0 < (y549.length : Int) then (some (rd y549 a0)) else (none)) else (none))) = some r := h
 clear h
 obtain ⟨y549, hy549⟩ : ∃ y_ : List Int, y_ = (([0, 5, 4, 3, 1] : List Int)) := ⟨_, rfl⟩
 replace H : (if 0 ≤ a0 then (if a0 < (y549.length : Int) then (some (rd y549 a0)) else (none)) else (none)) = some r := by first | (rw [hy549]; with_reducible exact H) | (have H2_ := (oS_q _ _).symm.trans H; rw [hy549]; with_reducible exact H2_) | (have H2_ := (oS_q _ _).symm.trans H; with_reducible exact H2_) | with_reducible exact H | (rw [hy549]; exact H) | exact H
 have Ny549 := Ae_q hy549
 clear hy549
 by_cases c2 : 0 ≤ a0
 rotate_left
 ·rw [if_neg c2] at H
  exact absurd H (by simp)
 rw [if_pos c2] at H
 have c2b0 : decide (0 ≤ a0) = true := dT_q c2
 clear c2
 by_cases c3 : a0 < (y549.length : Int)
 rotate_left
 ·rw [if_neg c3] at H
  exact absurd H (by simp)
 rw [if_pos c3] at H
 have c3b0 : decide (a0 < (y549.length : Int)) = true := dT_q c3
 clear c3
 obtain rfl := oI_q H
 go_enter Try.func77, Try.ntmps77
 go_wp2_with (first | ((with_reducible refine gD_q (N := 3) rfl ?_); refine Kd.R_lit kI_q _ 3 ?hg (N := 3) ?hd (xs := ([0, 5, 4, 3, 1] : List Int)) (inner := [.int .i64 0, .int .i64 5, .int .i64 4, .int .i64 3, .int .i64 1]) (ok := fun _ => True) (okp := fun _ => True) ?hr ?hp (fun _ hk => hk) trivial (bR_q _ _) (nR_q _) (by simp) ?_; (case hd => rfl); (case hg => rfl); (case hr => first | (go_simp; done) | (go_simp; rfl)); (case hp => exact (Reps.one (show Kd.M kI_q _ _ _ 0 [.int .i64 0] from rfl) (Reps.one (show Kd.M kI_q _ _ _ 5 [.int .i64 5] from rfl) (Reps.one (show Kd.M kI_q _ _ _ 4 [.int .i64 4] from rfl) (Reps.one (show Kd.M kI_q _ _ _ 3 [.int .i64 3] from rfl) (Reps.one (show Kd.M kI_q _ _ _ 1 [.int .i64 1] from rfl) (Reps.none _ _))))))); intro v550 w4 ho5 hb hg_ hnew_; clear hg_ hnew_; (first | rw [← Ny549.out] at ho5 | (simp only [Int.reduceToNat] at ho5; rw [← Ny549.out] at ho5)); have n0_ := Ae_q (rL_q ho5 (bZ_q (bel HB.out))); have n1_ := Ae_q (bT_q (bel HB.out) hb); clear HB; have HO551 := n0_; have HB := n1_; clear n0_ n1_; clear hb ho5; obtain ⟨Ao6, co6, eo6⟩ := rS_q HO551.out; subst eo6; have p552 : 0 ≤ (a0 : Int) := oD_q (by assumption); have q552 : a0 < (y549.length : Int) := oD_q (by assumption); obtain ⟨ad552, e552, hx552_0⟩ := aI_q (rR_q HO551.out).2.2 a0 p552 q552; cases e552; replace p552 := eq_true p552; replace q552 := eq_true q552))
 go_ret
 exact ⟨by first | rfl | (simp [eN_q, eS_q] <;> rfl) | (simp [*, eN_q, eS_q] <;> rfl), bel HB.out⟩

def spec_DietAllows.f (a0 : Int) (a1 : Int) : Option (Bool) := (spec_l6In.f a0 1 4).bind fun t553 => (if t553 = true then ((spec_l6In.f a1 1 5).bind fun t554 => (if t554 = true then ((spec_l12Last.f a0).bind fun t555 => (some (decide (a1 ≤ t555)))) else (some false))) else (some false))
set_option maxHeartbeats 8000000 in
set_option maxRecDepth 100000 in
theorem spec_DietAllows.calls (a0 : Int) (a1 : Int) (r : Bool) (w : World) (h : spec_DietAllows.f a0 a1 = some r) :
    Calls Try.prog 75 #[.int .i64 a0, .int .i64 a1] w fun e w' => e = .returned (.bool r) ∧ Below w.heap.size w w' := by
 have HB := Ae_q (bR_q w.heap.size w)
 have H : ((spec_l6In.f a0 1 4).bind fun t553 => (if t553 = true then ((spec_l6In.f a1 1 5).bind fun t554 => (if t554 = true then ((spec_l12Last.f a0).bind fun t555 => (some (decide (a1 ≤ t555)))) else (some false))) else (some false))) = some r := h
 clear h
 replace H := oB_q.mp H
 obtain ⟨t553, A30, H⟩ := H
 replace H : (if t553 = true then ((spec_l6In.f a1 1 5).bind fun t554 => (if t554 = true then ((spec_l12Last.f a0).bind fun t555 => (some (decide (a1 ≤ t555)))) else (some false))) else (some false)) = some r := H
 have A3 := Ae_q A30
 clear A30
 by_cases c4 : t553 = true
 rotate_left
 ·replace c4 := fM_q.mpr c4
  subst c4
  have H1 : (some false) = some r := by rw [if_neg (show ¬ (false = true) by decide)] at H; exact H
  clear H
  have H := H1
  clear H1
  obtain rfl := oI_q H
  go_enter Try.func75, Try.ntmps75
  go_wp2_with (first | ((with_reducible refine gC_q (f := 45) rfl ?_); refine gL_q (some 6) rfl rfl Try.func45 (by kernel_rfl) rfl #[.int .i64 a0, .int .i64 1, .int .i64 4] rfl (by (try simp only [lM_q, lC_q, lN_q]); first | done | rfl | (simp only [lD_q, lT_q]; rfl)) ?_; (with_reducible refine (spec_l6In.calls a0 1 4 false _ A3.out).mono ?_); rintro e w' ⟨rfl, ⟨nd, rfl⟩⟩; refine ⟨_, rfl, ?_⟩))
  go_ret
  exact ⟨by first | rfl | (simp [eN_q, eS_q] <;> rfl) | (simp [*, eN_q, eS_q] <;> rfl), bel HB.out⟩
 subst c4
 have H1 : ((spec_l6In.f a1 1 5).bind fun t554 => (if t554 = true then ((spec_l12Last.f a0).bind fun t555 => (some (decide (a1 ≤ t555)))) else (some false))) = some r := by rw [if_pos rfl] at H; exact H
 clear H
 have H := H1
 clear H1
 replace H := oB_q.mp H
 obtain ⟨t554, A50, H⟩ := H
 replace H : (if t554 = true then ((spec_l12Last.f a0).bind fun t555 => (some (decide (a1 ≤ t555)))) else (some false)) = some r := H
 have A5 := Ae_q A50
 clear A50
 by_cases c6 : t554 = true
 rotate_left
 ·replace c6 := fM_q.mpr c6
  subst c6
  have H1 : (some false) = some r := by rw [if_neg (show ¬ (false = true) by decide)] at H; exact H
  clear H
  have H := H1
  clear H1
  obtain rfl := oI_q H
  go_enter Try.func75, Try.ntmps75
  go_wp2_with (first | ((with_reducible refine gC_q (f := 45) rfl ?_); refine gL_q (some 6) rfl rfl Try.func45 (by kernel_rfl) rfl #[.int .i64 a0, .int .i64 1, .int .i64 4] rfl (by (try simp only [lM_q, lC_q, lN_q]); first | done | rfl | (simp only [lD_q, lT_q]; rfl)) ?_; (with_reducible refine (spec_l6In.calls a0 1 4 true _ A3.out).mono ?_); rintro e w' ⟨rfl, ⟨nd, rfl⟩⟩; refine ⟨_, rfl, ?_⟩) | (go_at_call 45; (with_reducible refine (spec_l6In.calls a1 1 5 false _ A5.out).mono ?_); rintro e w' ⟨rfl, ⟨nd, rfl⟩⟩))
  go_ret
  exact ⟨by first | rfl | (simp [eN_q, eS_q] <;> rfl) | (simp [*, eN_q, eS_q] <;> rfl), bel HB.out⟩
 subst c6
 have H1 : ((spec_l12Last.f a0).bind fun t555 => (some (decide (a1 ≤ t555)))) = some r := by rw [if_pos rfl] at H; exact H
 clear H
 have H := H1
 clear H1
 replace H := oB_q.mp H
 obtain ⟨t555, A70, H⟩ := H
 replace H : (some (decide (a1 ≤ t555))) = some r := H
 have A7 := Ae_q A70
 clear A70
 obtain rfl := oI_q H
 go_enter Try.func75, Try.ntmps75
 go_wp2_with (first | ((with_reducible refine gC_q (f := 45) rfl ?_); refine gL_q (some 6) rfl rfl Try.func45 (by kernel_rfl) rfl #[.int .i64 a0, .int .i64 1, .int .i64 4] rfl (by (try simp only [lM_q, lC_q, lN_q]); first | done | rfl | (simp only [lD_q, lT_q]; rfl)) ?_; (with_reducible refine (spec_l6In.calls a0 1 4 true _ A3.out).mono ?_); rintro e w' ⟨rfl, ⟨nd, rfl⟩⟩; refine ⟨_, rfl, ?_⟩) | (go_at_call 45; (with_reducible refine (spec_l6In.calls a1 1 5 true _ A5.out).mono ?_); rintro e w' ⟨rfl, ⟨nd, rfl⟩⟩) | (go_at_call 77; (with_reducible refine (spec_l12Last.calls a0 t555 _ A7.out).mono ?_); rintro e w8 ⟨rfl, hb⟩; have n0_ := Ae_q (bT_q (bel HB.out) hb); clear HB; have HB := n0_; clear n0_; (try clear hb); (try clear hb2); (try clear hk); (try clear hi)))
 go_ret
 exact ⟨by first | rfl | (simp [eN_q, eS_q] <;> rfl) | (simp [*, eN_q, eS_q] <;> rfl), bel HB.out⟩

def spec_l3Has.f (k : Nat) (a0 : Int) (a1 : Int) : Option (Bool) := (spec_l3Weight.f k a1).bind fun t556 => (if t556 = 0 then (none) else (some ((Int.tmod (wrap64 (Int.tdiv a0 t556)) 2) == 1)))
set_option maxHeartbeats 8000000 in
set_option maxRecDepth 100000 in
theorem spec_l3Has.calls (k : Nat) (a0 : Int) (a1 : Int) (r : Bool) (w : World) (h : spec_l3Has.f k a0 a1 = some r) :
    Calls Try.prog 78 #[.int .i64 a0, .int .i64 a1] w fun e w' => e = .returned (.bool r) ∧ Drawn0 w w' := by
 have H : ((spec_l3Weight.f k a1).bind fun t556 => (if t556 = 0 then (none) else (some ((Int.tmod (wrap64 (Int.tdiv a0 t556)) 2) == 1)))) = some r := h
 clear h
 replace H := oB_q.mp H
 obtain ⟨t556, A30, H⟩ := H
 replace H : (if t556 = 0 then (none) else (some ((Int.tmod (wrap64 (Int.tdiv a0 t556)) 2) == 1))) = some r := H
 have A3 := Ae_q A30
 clear A30
 by_cases c4 : t556 = 0
 ·rw [if_pos c4] at H
  exact absurd H (by simp)
 rw [if_neg c4] at H
 have c4b0 : (t556 == 0) = false := fN_q.mpr c4
 have c4b1 : (t556 != 0) = true := nI_q.mpr c4
 obtain rfl := oI_q H
 go_enter Try.func78, Try.ntmps78
 go_wp2_with (first | ((with_reducible refine gC_q (f := 73) rfl ?_); refine gL_q (some 7) rfl rfl Try.func73 (by kernel_rfl) rfl #[.int .i64 a1] rfl (by (try simp only [lM_q, lC_q, lN_q]); first | done | rfl | (simp only [lD_q, lT_q]; rfl)) ?_; (with_reducible refine (spec_l3Weight.calls k a1 t556 _ A3.out).mono ?_); rintro e w' ⟨rfl, ⟨nd, rfl⟩⟩; refine ⟨_, rfl, ?_⟩))
 go_ret
 exact ⟨by first | rfl | (simp; done) | (simp [*]; done), by repeat (first | exact Drawn0.refl _ | apply Drawn0.step)⟩

def spec_l3Meet.l0 : Nat → Int → Int → Int → Int → Option (Int)
 | 0, _, _, _, _ => none
 | k + 1, x0, x1, x5, x6 => if x6 < 8 then ((spec_l3Has.f k x0 x6).bind fun t557 => (if t557 = true then ((spec_l3Has.f k x1 x6).bind fun t558 => (if t558 = true then ((spec_l3Weight.f k x6).bind fun t559 => (spec_l3Meet.l0 k x0 x1 (wrap64 (x5 + t559)) (wrap64 (x6 + 1)))) else (spec_l3Meet.l0 k x0 x1 x5 (wrap64 (x6 + 1))))) else (spec_l3Meet.l0 k x0 x1 x5 (wrap64 (x6 + 1))))) else (some x5)
def spec_l3Meet.f (k : Nat) (a0 : Int) (a1 : Int) : Option (Int) := spec_l3Meet.l0 k a0 a1 0 0
set_option maxHeartbeats 8000000 in
set_option maxRecDepth 100000 in
theorem spec_l3Meet.calls (k : Nat) (a0 : Int) (a1 : Int) (r : Int) (w : World) (h : spec_l3Meet.f k a0 a1 = some r) :
    Calls Try.prog 76 #[.int .i64 a0, .int .i64 a1] w fun e w' => e = .returned (.int .i64 r) ∧ Drawn0 w w' := by
 have H : (spec_l3Meet.l0 k a0 a1 0 0) = some r := h
 clear h
 have H' := Ae_q H
 clear H
 go_enter Try.func76, Try.ntmps76
 go_wp2
 go_loopg [5, 6] k (fun kq v5 v6 w' => ∃ (x5_1 : Int) (x6_1 : Int), v5 = .int .i64 x5_1 ∧ v6 = .int .i64 x6_1 ∧ Aside0 (spec_l3Meet.l0 kq a0 a1 x5_1 x6_1 = some r) ∧ Aside0 (kq ≤ k) ∧ Drawn0 w w')
 case atStart => exact ⟨(0), (0), (by first | rfl | (simp; done) | (simp [*]; done)), (by first | rfl | (simp; done) | (simp [*]; done)), H', ⟨nR_q _⟩, by repeat (first | exact Drawn0.refl _ | apply Drawn0.step)⟩
 case round =>
  clear H'
  try clear p2
  obtain ⟨x5_1, x6_1, rfl, rfl, HA, HK1, ⟨m1, rfl⟩⟩ := hrel
  cases gk with
  | zero => exact absurd HA.out (by simp [spec_l3Meet.l0])
  | succ k1 =>
   have H := HA.out
   clear HA
   simp only [spec_l3Meet.l0] at H
   by_cases c3 : x6_1 < 8
   rotate_left
   ·rw [if_neg c3] at H
    have c3b0 : decide (x6_1 < 8) = false := dF_q c3
    clear c3
    obtain rfl := oI_q H
    go_wp2
    go_ret
    exact ⟨by first | rfl | (simp; done) | (simp [*]; done), by repeat (first | exact Drawn0.refl _ | apply Drawn0.step)⟩
   rw [if_pos c3] at H
   have c3b0 : decide (x6_1 < 8) = true := dT_q c3
   clear c3
   replace H := oB_q.mp H
   obtain ⟨t557, A40, H⟩ := H
   replace H : (if t557 = true then ((spec_l3Has.f k1 a1 x6_1).bind fun t558 => (if t558 = true then ((spec_l3Weight.f k1 x6_1).bind fun t559 => (spec_l3Meet.l0 k1 a0 a1 (wrap64 (x5_1 + t559)) (wrap64 (x6_1 + 1)))) else (spec_l3Meet.l0 k1 a0 a1 x5_1 (wrap64 (x6_1 + 1))))) else (spec_l3Meet.l0 k1 a0 a1 x5_1 (wrap64 (x6_1 + 1)))) = some r := H
   have A4 := Ae_q A40
   clear A40
   by_cases c5 : t557 = true
   rotate_left
   ·replace c5 := fM_q.mpr c5
    subst c5
    have H1 : (spec_l3Meet.l0 k1 a0 a1 x5_1 (wrap64 (x6_1 + 1))) = some r := by rw [if_neg (show ¬ (false = true) by decide)] at H; exact H
    clear H
    have H := H1
    clear H1
    have H' := Ae_q H
    clear H
    go_wp2_with (first | ((with_reducible refine gC_q (f := 78) rfl ?_); refine gL_q (some 13) rfl rfl Try.func78 (by kernel_rfl) rfl #[.int .i64 a0, .int .i64 x6_1] rfl (by (try simp only [lM_q, lC_q, lN_q]); first | done | rfl | (simp only [lD_q, lT_q]; rfl)) ?_; (with_reducible refine (spec_l3Has.calls k1 a0 x6_1 false _ A4.out).mono ?_); rintro e w' ⟨rfl, ⟨nd, rfl⟩⟩; refine ⟨_, rfl, ?_⟩))
    go_roundg k1
    case measure => have := HK1.out; omega
    case rel => exact ⟨(x5_1), (wrap64 (x6_1 + 1)), (by first | rfl | (simp; done) | (simp [*]; done)), (by first | rfl | (simp; done) | (simp [*]; done)), H', ⟨by have := HK1.out; omega⟩, by repeat (first | exact Drawn0.refl _ | apply Drawn0.step)⟩
   subst c5
   have H1 : ((spec_l3Has.f k1 a1 x6_1).bind fun t558 => (if t558 = true then ((spec_l3Weight.f k1 x6_1).bind fun t559 => (spec_l3Meet.l0 k1 a0 a1 (wrap64 (x5_1 + t559)) (wrap64 (x6_1 + 1)))) else (spec_l3Meet.l0 k1 a0 a1 x5_1 (wrap64 (x6_1 + 1))))) = some r := by rw [if_pos rfl] at H; exact H
   clear H
   have H := H1
   clear H1
   replace H := oB_q.mp H
   obtain ⟨t558, A60, H⟩ := H
   replace H : (if t558 = true then ((spec_l3Weight.f k1 x6_1).bind fun t559 => (spec_l3Meet.l0 k1 a0 a1 (wrap64 (x5_1 + t559)) (wrap64 (x6_1 + 1)))) else (spec_l3Meet.l0 k1 a0 a1 x5_1 (wrap64 (x6_1 + 1)))) = some r := H
   have A6 := Ae_q A60
   clear A60
   by_cases c7 : t558 = true
   rotate_left
   ·replace c7 := fM_q.mpr c7
    subst c7
    have H1 : (spec_l3Meet.l0 k1 a0 a1 x5_1 (wrap64 (x6_1 + 1))) = some r := by rw [if_neg (show ¬ (false = true) by decide)] at H; exact H
    clear H
    have H := H1
    clear H1
    have H' := Ae_q H
    clear H
    go_wp2_with (first | ((with_reducible refine gC_q (f := 78) rfl ?_); refine gL_q (some 13) rfl rfl Try.func78 (by kernel_rfl) rfl #[.int .i64 a0, .int .i64 x6_1] rfl (by (try simp only [lM_q, lC_q, lN_q]); first | done | rfl | (simp only [lD_q, lT_q]; rfl)) ?_; (with_reducible refine (spec_l3Has.calls k1 a0 x6_1 true _ A4.out).mono ?_); rintro e w' ⟨rfl, ⟨nd, rfl⟩⟩; refine ⟨_, rfl, ?_⟩) | (go_at_call 78; (with_reducible refine (spec_l3Has.calls k1 a1 x6_1 false _ A6.out).mono ?_); rintro e w' ⟨rfl, ⟨nd, rfl⟩⟩))
    go_roundg k1
    case measure => have := HK1.out; omega
    case rel => exact ⟨(x5_1), (wrap64 (x6_1 + 1)), (by first | rfl | (simp; done) | (simp [*]; done)), (by first | rfl | (simp; done) | (simp [*]; done)), H', ⟨by have := HK1.out; omega⟩, by repeat (first | exact Drawn0.refl _ | apply Drawn0.step)⟩
   subst c7
   have H1 : ((spec_l3Weight.f k1 x6_1).bind fun t559 => (spec_l3Meet.l0 k1 a0 a1 (wrap64 (x5_1 + t559)) (wrap64 (x6_1 + 1)))) = some r := by rw [if_pos rfl] at H; exact H
   clear H
   have H := H1
   clear H1
   replace H := oB_q.mp H
   obtain ⟨t559, A80, H⟩ := H
   replace H : (spec_l3Meet.l0 k1 a0 a1 (wrap64 (x5_1 + t559)) (wrap64 (x6_1 + 1))) = some r := H
   have A8 := Ae_q A80
   clear A80
   have H' := Ae_q H
   clear H
   go_wp2_with (first | ((with_reducible refine gC_q (f := 78) rfl ?_); refine gL_q (some 13) rfl rfl Try.func78 (by kernel_rfl) rfl #[.int .i64 a0, .int .i64 x6_1] rfl (by (try simp only [lM_q, lC_q, lN_q]); first | done | rfl | (simp only [lD_q, lT_q]; rfl)) ?_; (with_reducible refine (spec_l3Has.calls k1 a0 x6_1 true _ A4.out).mono ?_); rintro e w' ⟨rfl, ⟨nd, rfl⟩⟩; refine ⟨_, rfl, ?_⟩) | (go_at_call 78; (with_reducible refine (spec_l3Has.calls k1 a1 x6_1 true _ A6.out).mono ?_); rintro e w' ⟨rfl, ⟨nd, rfl⟩⟩) | ((with_reducible refine gC_q (f := 73) rfl ?_); refine gL_q (some 21) rfl rfl Try.func73 (by kernel_rfl) rfl #[.int .i64 x6_1] rfl (by (try simp only [lM_q, lC_q, lN_q]); first | done | rfl | (simp only [lD_q, lT_q]; rfl)) ?_; (with_reducible refine (spec_l3Weight.calls k1 x6_1 t559 _ A8.out).mono ?_); rintro e w' ⟨rfl, ⟨nd, rfl⟩⟩; refine ⟨_, rfl, ?_⟩))
   go_roundg k1
   case measure => have := HK1.out; omega
   case rel => exact ⟨(wrap64 (x5_1 + t559)), (wrap64 (x6_1 + 1)), (by first | rfl | (simp; done) | (simp [*]; done)), (by first | rfl | (simp; done) | (simp [*]; done)), H', ⟨by have := HK1.out; omega⟩, by repeat (first | exact Drawn0.refl _ | apply Drawn0.step)⟩

def spec_GuestMay.f (k : Nat) (a0_0 : Int) (a0_1 : Int) (a0_2 : Int) (a1 : Int) (a2 : Int) : Option (Bool) := (spec_l12Guest.f a0_0 a0_1 a0_2).bind fun t561 => (if t561 = true then ((spec_l3Set.f a1).bind fun t562 => (if t562 = true then ((spec_DietAllows.f a0_1 a2).bind fun t563 => (if t563 = true then ((spec_l3Meet.f k a0_2 a1).bind fun t564 => (some (t564 == 0))) else (some false))) else (some false))) else (some false))
set_option maxHeartbeats 8000000 in
set_option maxRecDepth 100000 in
theorem spec_GuestMay.calls (k : Nat) (a0_0 : Int) (a0_1 : Int) (a0_2 : Int) (a1 : Int) (a2 : Int) (r : Bool) (w : World) (h : spec_GuestMay.f k a0_0 a0_1 a0_2 a1 a2 = some r) :
    Calls Try.prog 72 #[.agg #[.int .i64 a0_0, .int .i64 a0_1, .int .i64 a0_2], .int .i64 a1, .int .i64 a2] w fun e w' => e = .returned (.bool r) ∧ Below w.heap.size w w' := by
 have hu50 := Try.underlying50
 have HB := Ae_q (bR_q w.heap.size w)
 have H : ((spec_l12Guest.f a0_0 a0_1 a0_2).bind fun t561 => (if t561 = true then ((spec_l3Set.f a1).bind fun t562 => (if t562 = true then ((spec_DietAllows.f a0_1 a2).bind fun t563 => (if t563 = true then ((spec_l3Meet.f k a0_2 a1).bind fun t564 => (some (t564 == 0))) else (some false))) else (some false))) else (some false))) = some r := h
 clear h
 replace H := oB_q.mp H
 obtain ⟨t561, A40, H⟩ := H
 replace H : (if t561 = true then ((spec_l3Set.f a1).bind fun t562 => (if t562 = true then ((spec_DietAllows.f a0_1 a2).bind fun t563 => (if t563 = true then ((spec_l3Meet.f k a0_2 a1).bind fun t564 => (some (t564 == 0))) else (some false))) else (some false))) else (some false)) = some r := H
 have A4 := Ae_q A40
 clear A40
 by_cases c5 : t561 = true
 rotate_left
 ·replace c5 := fM_q.mpr c5
  subst c5
  have H1 : (some false) = some r := by rw [if_neg (show ¬ (false = true) by decide)] at H; exact H
  clear H
  have H := H1
  clear H1
  obtain rfl := oI_q H
  go_enter Try.func72, Try.ntmps72
  go_wp2_with (first | ((with_reducible refine gD_q (N := 3) rfl ?_); refine bE_q ?hg (N := 3) ?hd (cs := #[.int .i64 a0_0, .int .i64 a0_1, .int .i64 a0_2]) (t := 50) ?hr ?_; (case hd => rfl); (case hg => rfl); (case hr => first | (go_simp; done) | (go_simp; rfl)); intro gb560 hg w25 hbox hb; have n0_ := Ae_q (bT_q (bel HB.out) hb); have n1_ := Ae_q (hbox); have n2_ := Ae_q ((by rw [hg]; exact (bZ_q (bel HB.out)) : w.heap.size ≤ gb560)); have n3_ := Ae_q ((by rw [hg]; exact (bZ_q (bel HB.out)) : w.heap.size ≤ gb560)); clear HB; have HB := n0_; have BK560 := n1_; have GW560 := n2_; have GE560 := n3_; clear n0_ n1_ n2_ n3_; clear hb hbox hg; have hcz26_0 : cI w25 gb560 0 a0_0 := cZ BK560 0 rfl; have hcz26_1 : cI w25 gb560 1 a0_1 := cZ BK560 1 rfl; have hcz26_2 : cI w25 gb560 2 a0_2 := cZ BK560 2 rfl; have hfz26_0 := bF_q BK560.out 0; have hfz26_1 := bF_q BK560.out 1; have hfz26_2 := bF_q BK560.out 2) | ((with_reducible refine gC_q (f := 57) rfl ?_); refine gL_q (some 8) rfl rfl Try.func57 (by kernel_rfl) rfl #[.agg #[.int .i64 a0_0, .int .i64 a0_1, .int .i64 a0_2]] rfl (by (try simp only [lM_q, lC_q, lN_q]); first | done | rfl | (simp only [lD_q, lT_q]; rfl)) ?_; (with_reducible refine (spec_l12Guest.calls a0_0 a0_1 a0_2 false _ A4.out).mono ?_); rintro e w27 ⟨rfl, hb⟩; refine ⟨_, rfl, ?_⟩; have n0_ := Ae_q (bB_q (g := gb560) (o := .cells #[.int .i64 a0_0, .int .i64 a0_1, .int .i64 a0_2] 50 (0, 0)) (bup BK560.out) hb); have n1_ := Ae_q (bT_q (by repeat (with_reducible first | exact HB.out | apply bA_q | apply pB_q | apply bD_q | refine bS_q ?_ GE560.out)) hb); clear BK560; clear HB; have BK560 := n0_; have HB := n1_; clear n0_ n1_; (try clear hb); (try clear hb2); (try clear hk); (try clear hi)))
  go_ret
  exact ⟨by first | rfl | (simp [eN_q, eS_q] <;> rfl) | (simp [*, eN_q, eS_q] <;> rfl), by repeat (with_reducible first | exact HB.out | apply bA_q | apply pB_q | apply bD_q | refine bS_q ?_ GE560.out)⟩
 subst c5
 have H1 : ((spec_l3Set.f a1).bind fun t562 => (if t562 = true then ((spec_DietAllows.f a0_1 a2).bind fun t563 => (if t563 = true then ((spec_l3Meet.f k a0_2 a1).bind fun t564 => (some (t564 == 0))) else (some false))) else (some false))) = some r := by rw [if_pos rfl] at H; exact H
 clear H
 have H := H1
 clear H1
 replace H := oB_q.mp H
 obtain ⟨t562, A60, H⟩ := H
 replace H : (if t562 = true then ((spec_DietAllows.f a0_1 a2).bind fun t563 => (if t563 = true then ((spec_l3Meet.f k a0_2 a1).bind fun t564 => (some (t564 == 0))) else (some false))) else (some false)) = some r := H
 have A6 := Ae_q A60
 clear A60
 by_cases c7 : t562 = true
 rotate_left
 ·replace c7 := fM_q.mpr c7
  subst c7
  have H1 : (some false) = some r := by rw [if_neg (show ¬ (false = true) by decide)] at H; exact H
  clear H
  have H := H1
  clear H1
  obtain rfl := oI_q H
  go_enter Try.func72, Try.ntmps72
  go_wp2_with (first | ((with_reducible refine gD_q (N := 3) rfl ?_); refine bE_q ?hg (N := 3) ?hd (cs := #[.int .i64 a0_0, .int .i64 a0_1, .int .i64 a0_2]) (t := 50) ?hr ?_; (case hd => rfl); (case hg => rfl); (case hr => first | (go_simp; done) | (go_simp; rfl)); intro gb560 hg w22 hbox hb; have n0_ := Ae_q (bT_q (bel HB.out) hb); have n1_ := Ae_q (hbox); have n2_ := Ae_q ((by rw [hg]; exact (bZ_q (bel HB.out)) : w.heap.size ≤ gb560)); have n3_ := Ae_q ((by rw [hg]; exact (bZ_q (bel HB.out)) : w.heap.size ≤ gb560)); clear HB; have HB := n0_; have BK560 := n1_; have GW560 := n2_; have GE560 := n3_; clear n0_ n1_ n2_ n3_; clear hb hbox hg; have hcz23_0 : cI w22 gb560 0 a0_0 := cZ BK560 0 rfl; have hcz23_1 : cI w22 gb560 1 a0_1 := cZ BK560 1 rfl; have hcz23_2 : cI w22 gb560 2 a0_2 := cZ BK560 2 rfl; have hfz23_0 := bF_q BK560.out 0; have hfz23_1 := bF_q BK560.out 1; have hfz23_2 := bF_q BK560.out 2) | ((with_reducible refine gC_q (f := 57) rfl ?_); refine gL_q (some 8) rfl rfl Try.func57 (by kernel_rfl) rfl #[.agg #[.int .i64 a0_0, .int .i64 a0_1, .int .i64 a0_2]] rfl (by (try simp only [lM_q, lC_q, lN_q]); first | done | rfl | (simp only [lD_q, lT_q]; rfl)) ?_; (with_reducible refine (spec_l12Guest.calls a0_0 a0_1 a0_2 true _ A4.out).mono ?_); rintro e w24 ⟨rfl, hb⟩; refine ⟨_, rfl, ?_⟩; have n0_ := Ae_q (bB_q (g := gb560) (o := .cells #[.int .i64 a0_0, .int .i64 a0_1, .int .i64 a0_2] 50 (0, 0)) (bup BK560.out) hb); have n1_ := Ae_q (bT_q (by repeat (with_reducible first | exact HB.out | apply bA_q | apply pB_q | apply bD_q | refine bS_q ?_ GE560.out)) hb); clear BK560; clear HB; have BK560 := n0_; have HB := n1_; clear n0_ n1_; (try clear hb); (try clear hb2); (try clear hk); (try clear hi)) | (go_at_call 46; (with_reducible refine (spec_l3Set.calls a1 false _ A6.out).mono ?_); rintro e w' ⟨rfl, ⟨nd, rfl⟩⟩))
  go_ret
  exact ⟨by first | rfl | (simp [eN_q, eS_q] <;> rfl) | (simp [*, eN_q, eS_q] <;> rfl), by repeat (with_reducible first | exact HB.out | apply bA_q | apply pB_q | apply bD_q | refine bS_q ?_ GE560.out)⟩
 subst c7
 have H1 : ((spec_DietAllows.f a0_1 a2).bind fun t563 => (if t563 = true then ((spec_l3Meet.f k a0_2 a1).bind fun t564 => (some (t564 == 0))) else (some false))) = some r := by rw [if_pos rfl] at H; exact H
 clear H
 have H := H1
 clear H1
 replace H := oB_q.mp H
 obtain ⟨t563, A80, H⟩ := H
 replace H : (if t563 = true then ((spec_l3Meet.f k a0_2 a1).bind fun t564 => (some (t564 == 0))) else (some false)) = some r := H
 have A8 := Ae_q A80
 clear A80
 by_cases c9 : t563 = true
 rotate_left
 ·replace c9 := fM_q.mpr c9
  subst c9
  have H1 : (some false) = some r := by rw [if_neg (show ¬ (false = true) by decide)] at H; exact H
  clear H
  have H := H1
  clear H1
  obtain rfl := oI_q H
  go_enter Try.func72, Try.ntmps72
  go_wp2_with (first | ((with_reducible refine gD_q (N := 3) rfl ?_); refine bE_q ?hg (N := 3) ?hd (cs := #[.int .i64 a0_0, .int .i64 a0_1, .int .i64 a0_2]) (t := 50) ?hr ?_; (case hd => rfl); (case hg => rfl); (case hr => first | (go_simp; done) | (go_simp; rfl)); intro gb560 hg w17 hbox hb; have n0_ := Ae_q (bT_q (bel HB.out) hb); have n1_ := Ae_q (hbox); have n2_ := Ae_q ((by rw [hg]; exact (bZ_q (bel HB.out)) : w.heap.size ≤ gb560)); have n3_ := Ae_q ((by rw [hg]; exact (bZ_q (bel HB.out)) : w.heap.size ≤ gb560)); clear HB; have HB := n0_; have BK560 := n1_; have GW560 := n2_; have GE560 := n3_; clear n0_ n1_ n2_ n3_; clear hb hbox hg; have hcz18_0 : cI w17 gb560 0 a0_0 := cZ BK560 0 rfl; have hcz18_1 : cI w17 gb560 1 a0_1 := cZ BK560 1 rfl; have hcz18_2 : cI w17 gb560 2 a0_2 := cZ BK560 2 rfl; have hfz18_0 := bF_q BK560.out 0; have hfz18_1 := bF_q BK560.out 1; have hfz18_2 := bF_q BK560.out 2) | ((with_reducible refine gC_q (f := 57) rfl ?_); refine gL_q (some 8) rfl rfl Try.func57 (by kernel_rfl) rfl #[.agg #[.int .i64 a0_0, .int .i64 a0_1, .int .i64 a0_2]] rfl (by (try simp only [lM_q, lC_q, lN_q]); first | done | rfl | (simp only [lD_q, lT_q]; rfl)) ?_; (with_reducible refine (spec_l12Guest.calls a0_0 a0_1 a0_2 true _ A4.out).mono ?_); rintro e w19 ⟨rfl, hb⟩; refine ⟨_, rfl, ?_⟩; have n0_ := Ae_q (bB_q (g := gb560) (o := .cells #[.int .i64 a0_0, .int .i64 a0_1, .int .i64 a0_2] 50 (0, 0)) (bup BK560.out) hb); have n1_ := Ae_q (bT_q (by repeat (with_reducible first | exact HB.out | apply bA_q | apply pB_q | apply bD_q | refine bS_q ?_ GE560.out)) hb); clear BK560; clear HB; have BK560 := n0_; have HB := n1_; clear n0_ n1_; (try clear hb); (try clear hb2); (try clear hk); (try clear hi)) | (go_at_call 46; (with_reducible refine (spec_l3Set.calls a1 true _ A6.out).mono ?_); rintro e w' ⟨rfl, ⟨nd, rfl⟩⟩; have hcz20_0 : cI w19 gb560 0 a0_0 := cZ BK560 0 rfl; have hcz20_1 : cI w19 gb560 1 a0_1 := cZ BK560 1 rfl; have hcz20_2 : cI w19 gb560 2 a0_2 := cZ BK560 2 rfl; have hfz20_0 := bF_q BK560.out 0; have hfz20_1 := bF_q BK560.out 1; have hfz20_2 := bF_q BK560.out 2) | (go_at_call 75; (with_reducible refine (spec_DietAllows.calls a0_1 a2 false _ A8.out).mono ?_); rintro e w21 ⟨rfl, hb⟩; have n0_ := Ae_q (bB_q (g := gb560) (o := .cells #[.int .i64 a0_0, .int .i64 a0_1, .int .i64 a0_2] 50 (0, 0)) (bup BK560.out) hb); have n1_ := Ae_q (bT_q (by repeat (with_reducible first | exact HB.out | apply bA_q | apply pB_q | apply bD_q | refine bS_q ?_ GE560.out)) hb); clear BK560; clear HB; have BK560 := n0_; have HB := n1_; clear n0_ n1_; (try clear hb); (try clear hb2); (try clear hk); (try clear hi)))
  go_ret
  exact ⟨by first | rfl | (simp [eN_q, eS_q] <;> rfl) | (simp [*, eN_q, eS_q] <;> rfl), by repeat (with_reducible first | exact HB.out | apply bA_q | apply pB_q | apply bD_q | refine bS_q ?_ GE560.out)⟩
 subst c9
 have H1 : ((spec_l3Meet.f k a0_2 a1).bind fun t564 => (some (t564 == 0))) = some r := by rw [if_pos rfl] at H; exact H
 clear H
 have H := H1
 clear H1
 replace H := oB_q.mp H
 obtain ⟨t564, A100, H⟩ := H
 replace H : (some (t564 == 0)) = some r := H
 have A10 := Ae_q A100
 clear A100
 obtain rfl := oI_q H
 go_enter Try.func72, Try.ntmps72
 go_wp2_with (first | ((with_reducible refine gD_q (N := 3) rfl ?_); refine bE_q ?hg (N := 3) ?hd (cs := #[.int .i64 a0_0, .int .i64 a0_1, .int .i64 a0_2]) (t := 50) ?hr ?_; (case hd => rfl); (case hg => rfl); (case hr => first | (go_simp; done) | (go_simp; rfl)); intro gb560 hg w11 hbox hb; have n0_ := Ae_q (bT_q (bel HB.out) hb); have n1_ := Ae_q (hbox); have n2_ := Ae_q ((by rw [hg]; exact (bZ_q (bel HB.out)) : w.heap.size ≤ gb560)); have n3_ := Ae_q ((by rw [hg]; exact (bZ_q (bel HB.out)) : w.heap.size ≤ gb560)); clear HB; have HB := n0_; have BK560 := n1_; have GW560 := n2_; have GE560 := n3_; clear n0_ n1_ n2_ n3_; clear hb hbox hg; have hcz12_0 : cI w11 gb560 0 a0_0 := cZ BK560 0 rfl; have hcz12_1 : cI w11 gb560 1 a0_1 := cZ BK560 1 rfl; have hcz12_2 : cI w11 gb560 2 a0_2 := cZ BK560 2 rfl; have hfz12_0 := bF_q BK560.out 0; have hfz12_1 := bF_q BK560.out 1; have hfz12_2 := bF_q BK560.out 2) | ((with_reducible refine gC_q (f := 57) rfl ?_); refine gL_q (some 8) rfl rfl Try.func57 (by kernel_rfl) rfl #[.agg #[.int .i64 a0_0, .int .i64 a0_1, .int .i64 a0_2]] rfl (by (try simp only [lM_q, lC_q, lN_q]); first | done | rfl | (simp only [lD_q, lT_q]; rfl)) ?_; (with_reducible refine (spec_l12Guest.calls a0_0 a0_1 a0_2 true _ A4.out).mono ?_); rintro e w13 ⟨rfl, hb⟩; refine ⟨_, rfl, ?_⟩; have n0_ := Ae_q (bB_q (g := gb560) (o := .cells #[.int .i64 a0_0, .int .i64 a0_1, .int .i64 a0_2] 50 (0, 0)) (bup BK560.out) hb); have n1_ := Ae_q (bT_q (by repeat (with_reducible first | exact HB.out | apply bA_q | apply pB_q | apply bD_q | refine bS_q ?_ GE560.out)) hb); clear BK560; clear HB; have BK560 := n0_; have HB := n1_; clear n0_ n1_; (try clear hb); (try clear hb2); (try clear hk); (try clear hi)) | (go_at_call 46; (with_reducible refine (spec_l3Set.calls a1 true _ A6.out).mono ?_); rintro e w' ⟨rfl, ⟨nd, rfl⟩⟩; have hcz14_0 : cI w13 gb560 0 a0_0 := cZ BK560 0 rfl; have hcz14_1 : cI w13 gb560 1 a0_1 := cZ BK560 1 rfl; have hcz14_2 : cI w13 gb560 2 a0_2 := cZ BK560 2 rfl; have hfz14_0 := bF_q BK560.out 0; have hfz14_1 := bF_q BK560.out 1; have hfz14_2 := bF_q BK560.out 2) | (go_at_call 75; (with_reducible refine (spec_DietAllows.calls a0_1 a2 true _ A8.out).mono ?_); rintro e w15 ⟨rfl, hb⟩; have n0_ := Ae_q (bB_q (g := gb560) (o := .cells #[.int .i64 a0_0, .int .i64 a0_1, .int .i64 a0_2] 50 (0, 0)) (bup BK560.out) hb); have n1_ := Ae_q (bT_q (by repeat (with_reducible first | exact HB.out | apply bA_q | apply pB_q | apply bD_q | refine bS_q ?_ GE560.out)) hb); clear BK560; clear HB; have BK560 := n0_; have HB := n1_; clear n0_ n1_; (try clear hb); (try clear hb2); (try clear hk); (try clear hi); have hcz16_0 : cI w15 gb560 0 a0_0 := cZ BK560 0 rfl; have hcz16_1 : cI w15 gb560 1 a0_1 := cZ BK560 1 rfl; have hcz16_2 : cI w15 gb560 2 a0_2 := cZ BK560 2 rfl; have hfz16_0 := bF_q BK560.out 0; have hfz16_1 := bF_q BK560.out 1; have hfz16_2 := bF_q BK560.out 2) | (go_at_call 76; (with_reducible refine (spec_l3Meet.calls k a0_2 a1 t564 _ A10.out).mono ?_); rintro e w' ⟨rfl, ⟨nd, rfl⟩⟩))
 go_ret
 exact ⟨by first | rfl | (simp [eN_q, eS_q] <;> rfl) | (simp [*, eN_q, eS_q] <;> rfl), by repeat (with_reducible first | exact HB.out | apply bA_q | apply pB_q | apply bD_q | refine bS_q ?_ GE560.out)⟩

end Go.Proofs.Ytnhenfmegpjigaa.PEv
