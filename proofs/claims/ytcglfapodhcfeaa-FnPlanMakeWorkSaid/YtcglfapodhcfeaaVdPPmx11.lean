/- Written by the session's own driver (wip/tools/gprint.sh) over the kit's printing program: the machine side of a group of laws. Not trusted: the kernel checks it. -/
import Derived.Test.YtcglfapodhcfeaaVdPPmx0
import Derived.Test.YtcglfapodhcfeaaVdPPmx10
namespace Go.Proofs.Ytcglfapodhcfeaa.PPm
open Go.RowKit Go.Proofs.YtcglfapodhcfeaaW.PrintWords Go.Proofs.YtcglfapodhcfeaaW.PrintLast Go.Proofs.YtcglfapodhcfeaaW.PrintMore
attribute [local go_sem] max2_int min2_int max_two min_two max_three min_three max_four min_four   -- for this text's walks alone
set_option linter.unusedVariables false
set_option linter.unusedSimpArgs false

/-! ### spec_l32Use: function 37 -/
def spec_l32Use.l0 : Nat → List (S39) → List Int → Int → Int → List Int → Int → Option (Int × List Int)
 | 0, _, _, _, _, _, _ => none
 | k + 1, x0, x1, x2, x8, x9, x10 => if x10 < (x1.length : Int) then (if 0 ≤ x10 then (if x10 < (x0.length : Int) then ((spec_l32On.f ((rd_T39 x0 x10).f0) ((rd_T39 x0 x10).f1) ((rd_T39 x0 x10).f2) ((rd_T39 x0 x10).f3) (rd x1 x10) x2).bind fun t294 => (if t294 = true then (if ((rd_T39 x0 x10).f2) > 0 then (if 0 ≤ (wrap64 (((rd_T39 x0 x10).f2) - 1)) then (if (wrap64 (((rd_T39 x0 x10).f2) - 1)) < (x9.length : Int) then (spec_l32Use.l0 k x0 x1 x2 (wrap64 (x8 + ((rd_T39 x0 x10).f1))) (x9.set ((wrap64 (((rd_T39 x0 x10).f2) - 1)) : Int).toNat (wrap64 ((rd x9 (wrap64 (((rd_T39 x0 x10).f2) - 1))) + 1))) (wrap64 (x10 + 1))) else (none)) else (none)) else (spec_l32Use.l0 k x0 x1 x2 (wrap64 (x8 + ((rd_T39 x0 x10).f1))) x9 (wrap64 (x10 + 1)))) else (spec_l32Use.l0 k x0 x1 x2 x8 x9 (wrap64 (x10 + 1))))) else (none)) else (none)) else (some (x8, x9))
def spec_l32Use.f (k : Nat) (l0 : List (S39)) (l1 : List Int) (a2 : Int) : Option (Int × List Int) := if 4 ≤ 35184372088832 then (spec_l32Use.l0 k l0 l1 a2 0 (List.replicate 4 0) 0) else (none)
theorem spec_l32Use.mono_l : ∀ k, (∀ y0 y1 y2 y3 y4 y5, LeO (spec_l32Use.l0 k y0 y1 y2 y3 y4 y5) (spec_l32Use.l0 (k + 1) y0 y1 y2 y3 y4 y5))
 | 0 => fun _ _ _ _ _ _ r h => by simp [spec_l32Use.l0] at h
 | k + 1 => by
  have ih0 := spec_l32Use.mono_l k
  intro y0 y1 y2 y3 y4 y5
  unfold spec_l32Use.l0
  repeat' first
  | (with_reducible exact ih0 _ _ _ _ _ _)
  | (with_reducible exact LeO.refl _)
  | (with_reducible exact LeO.none _)
  | (with_reducible refine LeO.ite ?_ ?_)
  | (with_reducible refine LeO.bind ?_ (fun _ => ?_))
  | exact ih0 _ _ _ _ _ _
  | exact LeO.none _
  | refine LeO.ite ?_ ?_
  | refine LeO.bind ?_ (fun _ => ?_)
theorem spec_l32Use.mono : ∀ a0 a1 a2 k, LeO (spec_l32Use.f k a0 a1 a2) (spec_l32Use.f (k + 1) a0 a1 a2) := by
 intro a0 a1 a2 k
 have ih0 := spec_l32Use.mono_l k
 unfold spec_l32Use.f
 repeat' first
  | (with_reducible exact ih0 _ _ _ _ _ _)
  | (with_reducible exact LeO.refl _)
  | (with_reducible exact LeO.none _)
  | (with_reducible refine LeO.ite ?_ ?_)
  | (with_reducible refine LeO.bind ?_ (fun _ => ?_))
  | exact ih0 _ _ _ _ _ _
  | exact LeO.none _
  | refine LeO.ite ?_ ?_
  | refine LeO.bind ?_ (fun _ => ?_)
def spec_l32Use.T6 : Bool × List (List Nat × List Nat) := (true, [([], []), ([], []), ([0, 1], [0, 1]), ([2], [2]), ([], []), ([], []), ([4, 5], [4, 5]), ([6], [6]), ([], []), ([3, 7, 8], [3, 7, 8])])
def spec_l32Use.B6 : List Nat := [0, 0, 3, 7, 0, 0, 48, 112, 0, 511]
theorem spec_l32Use.tab6 : rtab .any (opsOf Try.f37 6) = spec_l32Use.T6 := by kernel_rfl
theorem spec_l32Use.bits6 : waitsOk spec_l32Use.T6.2 spec_l32Use.B6 = true := by kernel_rfl
def spec_l32Use.T9 : Bool × List (List Nat × List Nat) := (true, [([], []), ([], []), ([], []), ([1, 2], [1, 2]), ([3], [3]), ([4], [4]), ([5], [5]), ([], []), ([], []), ([], []), ([8, 9], [8, 9]), ([10], [10]), ([11], [11]), ([12], [12]), ([7, 13], [7, 13]), ([14], [14]), ([15], [15]), ([0, 6, 0, 1, 2, 3, 4, 5, 6, 7, 8, 9, 10, 11, 12, 13, 14, 15, 16], [0, 6]), ([17, 16, 0, 1, 2, 3, 4, 5, 6, 7, 8, 9, 10, 11, 12, 13, 14, 15, 16], [16, 17])])
def spec_l32Use.B9 : List Nat := [0, 0, 0, 6, 14, 30, 62, 0, 0, 0, 768, 1792, 3840, 7936, 16256, 32640, 65408, 131071, 262143]
theorem spec_l32Use.tab9 : rtab .any (opsOf Try.f37 9) = spec_l32Use.T9 := by kernel_rfl
theorem spec_l32Use.bits9 : waitsOk spec_l32Use.T9.2 spec_l32Use.B9 = true := by kernel_rfl
set_option maxHeartbeats 8000000 in
set_option maxRecDepth 100000 in
theorem spec_l32Use.calls (k : Nat) (A0 : Option Addr) (c0 : Nat) (l0 : List (S39)) (A1 : Option Addr) (c1 : Nat) (l1 : List Int) (a2 : Int) (r1 : Int) (r2 : List Int) (w : World) (hr0 : Kd.C k39 w A0 l0.length l0) (hc0 : l0.length ≤ c0) (hr1 : Kd.C (Kd.int .i64) w A1 l1.length l1) (hc1 : l1.length ≤ c1) (h : spec_l32Use.f k l0 l1 a2 = some (r1, r2)) :
    Calls Try.prog 37 #[.slice A0 l0.length c0, .slice A1 l1.length c1, .int .i64 a2] w fun e w' => ∃ v1_ : Value, e = .returned (.tuple #[.int .i64 r1, v1_]) ∧ Kd.R (Kd.int .i64) 3 w' w.heap.size (fun _ => True) v1_ r2 ∧ Below w.heap.size w w' := by
 have hu39 := Try.underlying39
 have HR0 := Aside0.mk hr0
 have HC0 := Aside0.mk hc0
 clear hr0 hc0
 have HR1 := Aside0.mk hr1
 have HC1 := Aside0.mk hc1
 clear hr1 hc1
 have HB := Aside0.mk (Below.refl w.heap.size w)
 have H : (if 4 ≤ 35184372088832 then (spec_l32Use.l0 k l0 l1 a2 0 (List.replicate 4 0) 0) else (none)) = some (r1, r2) := h
 clear h
 by_cases c4 : 4 ≤ 35184372088832
 ·rw [if_pos c4] at H
  have c4b0 := eq_true c4
  have c4b1 : decide (4 ≤ 35184372088832) = true := decide_eq_true c4
  clear c4
  obtain ⟨y289, hy289⟩ : ∃ y_ : List Int, y_ = (List.replicate 4 0) := ⟨_, rfl⟩
  replace H : (spec_l32Use.l0 k l0 l1 a2 0 y289 0) = some (r1, r2) := by first | (rw [hy289]; with_reducible exact H) | (have H2_ := (Option.bind_some _ _).symm.trans H; rw [hy289]; with_reducible exact H2_) | (have H2_ := (Option.bind_some _ _).symm.trans H; with_reducible exact H2_) | with_reducible exact H | (rw [hy289]; exact H) | exact H
  have Ny289 := Aside0.mk hy289
  clear hy289
  have H' := Aside0.mk H
  clear H
  go_enter Try.func37, Try.ntmps37
  go_wp2_with (first | ((with_reducible refine gate_dst (N := 11) rfl ?_); refine Kd.R_make (Kd.int .i64) _ 3 rfl (N := 11) rfl 24 _ _ rfl 4 rfl rfl Try.underlying24 (.int .i64 0) 8 info3 rfl (by decide) (by omega) 0 (ok := fun _ => True) (okp := fun _ => True) rfl (fun _ hk => hk) trivial (by omega) (by omega) (Below.refl _ _) (Nat.le_refl _) ?_; intro v290 w5 ho6 hb hg_ hnew_; clear hg_ hnew_; (first | rw [← Ny289.out] at ho6 | (simp only [Int.reduceToNat] at ho6; rw [← Ny289.out] at ho6)); have n0_ := Aside0.mk (Kd.R_lower ho6 (below_size (bel HB.out))); have n1_ := Aside0.mk (below_step (bel HB.out) hb); clear HB; have HO291 := n0_; have HB := n1_; clear n0_ n1_; clear hb ho6))
  go_loopg [8, 10] k (fun kq v8 v10 w' => ∃ (x8_1 : Int) (x9_1 : List Int) (x10_1 : Int), v8 = .int .i64 x8_1 ∧ v10 = .int .i64 x10_1 ∧ Aside0 (spec_l32Use.l0 kq l0 l1 a2 x8_1 x9_1 x10_1 = some (r1, r2)) ∧ Aside0 (kq ≤ k) ∧ Aside0 (Kd.R (Kd.int .i64) 3 w' w.heap.size (fun _ => True) v290 x9_1) ∧ Aside0 (Below w.heap.size w w'))
  case atStart => exact ⟨(0), (y289), (0), (by first | rfl | (simp; done) | (simp [*]; done)), (by first | rfl | (simp; done) | (simp [*]; done)), H', ⟨Nat.le_refl _⟩, ⟨by (with_reducible repeat (first | apply Kd.R_alloc | apply Kd.R_drewN | apply Kd.R_drew)); exact HO291.out⟩, ⟨bel HB.out⟩⟩
  case round =>
   clear H'
   try clear c1
   try clear p2
   try clear c3
   try clear c4
   try clear c4b0
   try clear c4b1
   obtain ⟨x8_1, x9_1, x10_1, rfl, rfl, HA, HK1, HO_9, HB⟩ := hrel
   cases gk with
   | zero => exact absurd HA.out (by simp [spec_l32Use.l0])
   | succ k1 =>
    have H := HA.out
    clear HA
    simp only [spec_l32Use.l0] at H
    by_cases c7 : x10_1 < (l1.length : Int)
    ·rw [if_pos c7] at H
     have c7b0 : decide (x10_1 < (l1.length : Int)) = true := decide_eq_true c7
     clear c7
     by_cases c8 : 0 ≤ x10_1
     ·rw [if_pos c8] at H
      have c8b0 : decide (0 ≤ x10_1) = true := decide_eq_true c8
      clear c8
      by_cases c9 : x10_1 < (l0.length : Int)
      ·rw [if_pos c9] at H
       have c9b0 : decide (x10_1 < (l0.length : Int)) = true := decide_eq_true c9
       clear c9
       replace H := Option.bind_eq_some_iff.mp H
       obtain ⟨t294, A100, H⟩ := H
       replace H : (if t294 = true then (if ((rd_T39 l0 x10_1).f2) > 0 then (if 0 ≤ (wrap64 (((rd_T39 l0 x10_1).f2) - 1)) then (if (wrap64 (((rd_T39 l0 x10_1).f2) - 1)) < (x9_1.length : Int) then (spec_l32Use.l0 k1 l0 l1 a2 (wrap64 (x8_1 + ((rd_T39 l0 x10_1).f1))) (x9_1.set ((wrap64 (((rd_T39 l0 x10_1).f2) - 1)) : Int).toNat (wrap64 ((rd x9_1 (wrap64 (((rd_T39 l0 x10_1).f2) - 1))) + 1))) (wrap64 (x10_1 + 1))) else (none)) else (none)) else (spec_l32Use.l0 k1 l0 l1 a2 (wrap64 (x8_1 + ((rd_T39 l0 x10_1).f1))) x9_1 (wrap64 (x10_1 + 1)))) else (spec_l32Use.l0 k1 l0 l1 a2 x8_1 x9_1 (wrap64 (x10_1 + 1)))) = some (r1, r2) := H
       have A10 := Aside0.mk A100
       clear A100
       by_cases c11 : t294 = true
       ·subst c11
        have H1 : (if ((rd_T39 l0 x10_1).f2) > 0 then (if 0 ≤ (wrap64 (((rd_T39 l0 x10_1).f2) - 1)) then (if (wrap64 (((rd_T39 l0 x10_1).f2) - 1)) < (x9_1.length : Int) then (spec_l32Use.l0 k1 l0 l1 a2 (wrap64 (x8_1 + ((rd_T39 l0 x10_1).f1))) (x9_1.set ((wrap64 (((rd_T39 l0 x10_1).f2) - 1)) : Int).toNat (wrap64 ((rd x9_1 (wrap64 (((rd_T39 l0 x10_1).f2) - 1))) + 1))) (wrap64 (x10_1 + 1))) else (none)) else (none)) else (spec_l32Use.l0 k1 l0 l1 a2 (wrap64 (x8_1 + ((rd_T39 l0 x10_1).f1))) x9_1 (wrap64 (x10_1 + 1)))) = some (r1, r2) := by rw [if_pos rfl] at H; exact H
        clear H
        have H := H1
        clear H1
        by_cases c12 : ((rd_T39 l0 x10_1).f2) > 0
        ·rw [if_pos c12] at H
         have c12b0 : decide (0 < ((rd_T39 l0 x10_1).f2)) = true := decide_eq_true c12
         clear c12
         obtain ⟨ji13, hji13⟩ : ∃ j_ : Int, (wrap64 (((rd_T39 l0 x10_1).f2) - 1)) = j_ := ⟨_, rfl⟩
         replace H : (if 0 ≤ (ji13) then (if (ji13) < (x9_1.length : Int) then (spec_l32Use.l0 k1 l0 l1 a2 (wrap64 (x8_1 + ((rd_T39 l0 x10_1).f1))) (x9_1.set ((ji13) : Int).toNat (wrap64 ((rd x9_1 (ji13)) + 1))) (wrap64 (x10_1 + 1))) else (none)) else (none)) = some (r1, r2) := by first | (rw [hji13] at H; exact H) | (simp only [hji13] at H ⊢; exact H)
         (try rw [hji13] at A10)
         have hji13w : (IntKind.i64.wrap (((rd_T39 l0 x10_1).f2) - 1)) = ji13 := (i64_w _).trans hji13
         by_cases c14 : 0 ≤ (ji13)
         ·rw [if_pos c14] at H
          have c14b0 : decide (0 ≤ (ji13)) = true := decide_eq_true c14
          clear c14
          by_cases c15 : (ji13) < (x9_1.length : Int)
          ·rw [if_pos c15] at H
           have c15b0 : decide ((ji13) < (x9_1.length : Int)) = true := decide_eq_true c15
           clear c15
           obtain ⟨y300, hy300⟩ : ∃ y_ : List Int, y_ = (x9_1.set ((ji13) : Int).toNat (wrap64 ((rd x9_1 (ji13)) + 1))) := ⟨_, rfl⟩
           replace H : (spec_l32Use.l0 k1 l0 l1 a2 (wrap64 (x8_1 + ((rd_T39 l0 x10_1).f1))) y300 (wrap64 (x10_1 + 1))) = some (r1, r2) := by first | (rw [hy300]; with_reducible exact H) | (have H2_ := (Option.bind_some _ _).symm.trans H; rw [hy300]; with_reducible exact H2_) | (have H2_ := (Option.bind_some _ _).symm.trans H; with_reducible exact H2_) | with_reducible exact H | (rw [hy300]; exact H) | exact H
           have Ny300 := Aside0.mk hy300
           clear hy300
           have H' := Aside0.mk H
           clear H
           try go_wp2
           have n0_ := Aside0.mk (Kd.R_drew HO_9.out)
           have n1_ := Aside0.mk (below_drew1 HB.out)
           clear HO_9
           clear HB
           have HO_9 := n0_
           have HB := n1_
           clear n0_ n1_
           have p292 : 0 ≤ (x10_1 : Int) := of_decide_eq_true (by assumption)
           have q292 : x10_1 < (l0.length : Int) := of_decide_eq_true (by assumption)
           obtain ⟨ad292, A292_3, c292_3, e292, hx292_0, hx292_1, hx292_2, hx292_3, hl292_3, hi292_3⟩ := at_T39 HR0.out x10_1 p292 q292
           have hw292_3 := hx292_3
           have hw292_2 := hx292_2
           have hw292_1 := hx292_1
           have hw292_0 := hx292_0
           cases e292
           replace hx292_0 := cel HB.out hx292_0
           replace hx292_1 := cel HB.out hx292_1
           replace hx292_2 := cel HB.out hx292_2
           replace hx292_3 := cel HB.out hx292_3
           have HR292_3 := Aside0.mk hi292_3
           have HC292_3 := Aside0.mk hl292_3
           clear hi292_3 hl292_3
           replace p292 := eq_true p292
           replace q292 := eq_true q292
           have p293 : 0 ≤ (x10_1 : Int) := of_decide_eq_true (by assumption)
           have q293 : x10_1 < (l1.length : Int) := of_decide_eq_true (by assumption)
           obtain ⟨ad293, e293, hx293_0⟩ := Kd.at_int HR1.out x10_1 p293 q293
           have hw293_0 := hx293_0
           cases e293
           replace hx293_0 := cel HB.out hx293_0
           replace p293 := eq_true p293
           replace q293 := eq_true q293
           refine start_ (n := 10) (S := fun w' => w'.cell? (ad292.add ((x10_1).toNat * 4)) = some (.int .i64 ((rd_T39 l0 x10_1).f0)) ∧ w'.cell? ⟨(ad292.add ((x10_1).toNat * 4)).block, (ad292.add ((x10_1).toNat * 4)).off + 1, none⟩ = some (.int .i64 ((rd_T39 l0 x10_1).f1)) ∧ w'.cell? ⟨(ad292.add ((x10_1).toNat * 4)).block, (ad292.add ((x10_1).toNat * 4)).off + 2, none⟩ = some (.int .i64 ((rd_T39 l0 x10_1).f2)) ∧ w'.cell? ⟨(ad292.add ((x10_1).toNat * 4)).block, (ad292.add ((x10_1).toNat * 4)).off + 3, none⟩ = some (.slice A292_3 ((rd_T39 l0 x10_1).f3).length c292_3) ∧ w'.cell? (ad293.add (x10_1).toNat) = some (.int .i64 (rd l1 x10_1))) (ds := []) #[false, false, false, false, false, false, false, false, false, false] (by kernel_rfl) rfl rfl ⟨(cel HB.out hw292_0), (cel HB.out hw292_1), (cel HB.out hw292_2), (cel HB.out hw292_3), (cel HB.out hw293_0)⟩ (fun hHeld => ?_); refine with_tabW spec_l32Use.tab6 spec_l32Use.bits6 (fun HT_ HW_ => ?_)
           generalize wr.drew = w17 at HO_9 HB HR292_3 hx292_0 hx292_1 hx292_2 hx292_3 hx293_0 hHeld ⊢
           refine pure_ (i := 0) (N := some 18) (v := ?_) (a' := ?_) #[true, false, false, false, false, false, false, false, false, false] rfl rfl (any_of HT_.out (by kernel_rfl)) (fun _ _ _ h => h) (Or.inl ⟨by rfl, ?_⟩) ?_ ?_
           rotate_left
           ·intro w'
            go_simp
            with_reducible rfl
           rotate_left
           ·simp only [Act.put, List.setIfInBounds_toArray, List.set_cons_zero, List.set_cons_succ, i64_w, i32_w]
            rfl
           refine pure_ (i := 1) (N := some 19) (v := ?_) (a' := ?_) #[true, true, false, false, false, false, false, false, false, false] rfl rfl (any_of HT_.out (by kernel_rfl)) (fun _ _ _ h => h) (Or.inl ⟨by rfl, ?_⟩) ?_ ?_
           rotate_left
           ·intro w'
            go_simp
            with_reducible rfl
           rotate_left
           ·simp only [Act.put, List.setIfInBounds_toArray, List.set_cons_zero, List.set_cons_succ, i64_w, i32_w]
            rfl
           refine pure_ (i := 2) (N := some 20) (v := ?_) (a' := ?_) #[true, true, true, false, false, false, false, false, false, false] rfl rfl (any_of HT_.out (by kernel_rfl)) (fun _ _ _ h => h) (Or.inl ⟨by rfl, ?_⟩) ?_ ?_
           rotate_left
           ·intro w'
            go_simp
            with_reducible rfl
           rotate_left
           ·simp only [Act.put, List.setIfInBounds_toArray, List.set_cons_zero, List.set_cons_succ, i64_w, i32_w]
            rfl
           refine pure_ (i := 4) (N := some 22) (v := ?_) (a' := ?_) #[true, true, true, false, true, false, false, false, false, false] rfl rfl (any_of HT_.out (by kernel_rfl)) (fun _ _ _ h => h) (Or.inl ⟨by rfl, ?_⟩) ?_ ?_
           rotate_left
           ·intro w'
            go_simp
            with_reducible rfl
           rotate_left
           ·simp only [Act.put, List.setIfInBounds_toArray, List.set_cons_zero, List.set_cons_succ, i64_w, i32_w]
            rfl
           refine pure_ (i := 5) (N := some 23) (v := ?_) (a' := ?_) #[true, true, true, false, true, true, false, false, false, false] rfl rfl (any_of HT_.out (by kernel_rfl)) (fun _ _ _ h => h) (Or.inl ⟨by rfl, ?_⟩) ?_ ?_
           rotate_left
           ·intro w'
            go_simp
            with_reducible rfl
           rotate_left
           ·simp only [Act.put, List.setIfInBounds_toArray, List.set_cons_zero, List.set_cons_succ, i64_w, i32_w]
            rfl
           refine pure_ (i := 6) (N := some 24) (v := ?_) (a' := ?_) #[true, true, true, false, true, true, true, false, false, false] rfl rfl (any_of HT_.out (by kernel_rfl)) (fun _ _ _ h => h) (Or.inl ⟨by rfl, ?_⟩) ?_ ?_
           rotate_left
           ·intro w'
            go_simp
            with_reducible rfl
           rotate_left
           ·simp only [Act.put, List.setIfInBounds_toArray, List.set_cons_zero, List.set_cons_succ, i64_w, i32_w]
            rfl
           refine pure_ (i := 8) (N := some 26) (v := ?_) (a' := ?_) #[true, true, true, false, true, true, true, false, true, false] rfl rfl (any_of HT_.out (by kernel_rfl)) (fun _ _ _ h => h) (Or.inl ⟨by rfl, ?_⟩) ?_ ?_
           rotate_left
           ·intro w'
            go_simp
            with_reducible rfl
           rotate_left
           ·simp only [Act.put, List.setIfInBounds_toArray, List.set_cons_zero, List.set_cons_succ, i64_w, i32_w]
            rfl
           refine take_ (i := 3) (N := some 21) (v := ?_) (a' := ?_) #[true, true, true, true, true, true, true, false, true, false] rfl rfl (take_ofW HT_.out HW_.out (by kernel_rfl)) (fun _ _ _ h => h) (Or.inl ⟨by rfl, ?_⟩) hHeld ?_ ?_
           rotate_left
           ·rintro w' ⟨s0, s1, s2, s3, s4⟩
            go_simp
            with_reducible rfl
           rotate_left
           ·simp only [Act.put, List.setIfInBounds_toArray, List.set_cons_zero, List.set_cons_succ, i64_w, i32_w]
            rfl
           refine take_ (i := 7) (N := some 25) (v := ?_) (a' := ?_) #[true, true, true, true, true, true, true, true, true, false] rfl rfl (take_ofW HT_.out HW_.out (by kernel_rfl)) (fun _ _ _ h => h) (Or.inl ⟨by rfl, ?_⟩) hHeld ?_ ?_
           rotate_left
           ·rintro w' ⟨s0, s1, s2, s3, s4⟩
            go_simp
            with_reducible rfl
           rotate_left
           ·simp only [Act.put, List.setIfInBounds_toArray, List.set_cons_zero, List.set_cons_succ, i64_w, i32_w]
            rfl
           refine one_ (i := 9) (N := some 27) #[true, true, true, true, true, true, true, true, true, true] rfl rfl (one_of HT_.out (by kernel_rfl)) (by decide) (fun K hK => ?_)
           refine goes_ Try.func42 (by kernel_rfl) rfl #[.agg #[.int .i64 ((rd_T39 l0 x10_1).f0), .int .i64 ((rd_T39 l0 x10_1).f1), .int .i64 ((rd_T39 l0 x10_1).f2), .slice A292_3 ((rd_T39 l0 x10_1).f3).length c292_3], .int .i64 (rd l1 x10_1), .int .i64 a2] (by rfl) rfl rfl (by (try simp only [List.map_toArray, List.map_cons, List.map_nil]); first | done | rfl | (simp only [List.length_drop, List.length_take]; rfl)) ?_
           with_reducible refine (spec_l32On.calls ((rd_T39 l0 x10_1).f0) ((rd_T39 l0 x10_1).f1) ((rd_T39 l0 x10_1).f2) _ _ ((rd_T39 l0 x10_1).f3) (rd l1 x10_1) a2 true _ ?side1 ?side2 A10.out).mono ?_
           (case side1 => exact cup (Kd.C_below HR292_3.out HB.out))
           (case side2 => exact HC292_3.out)
           rintro e w18 ⟨rfl, hb⟩
           refine ⟨_, rfl, ?_⟩
           have n0_ := Aside0.mk (Kd.R_below (rup HO_9.out) hb)
           have n1_ := Aside0.mk (below_step (bel HB.out) hb)
           clear HO_9
           clear HB
           have HO_9 := n0_
           have HB := n1_
           clear n0_ n1_
           (try clear hb)
           (try clear hb2)
           (try clear hk)
           (try clear hi)
           refine hK.out _ _ ⟨(cel HB.out hw292_0), (cel HB.out hw292_1), (cel HB.out hw292_2), (cel HB.out hw292_3), (cel HB.out hw293_0)⟩ (fun hHeld => ?_)
           clear hK K
           refine norm_ (a' := ?_) ?_ ?_
           rotate_left
           ·show Act.put _ (some 27) _ = _
            simp only [Act.put, List.setIfInBounds_toArray, List.set_cons_zero, List.set_cons_succ, i64_w, i32_w]
            rfl
           refine done_ (done_of HT_.out (by kernel_rfl)) ?_
           have p295 : 0 ≤ (x10_1 : Int) := of_decide_eq_true (by assumption)
           have q295 : x10_1 < (l0.length : Int) := of_decide_eq_true (by assumption)
           obtain ⟨ad295, A295_3, c295_3, e295, hx295_0, hx295_1, hx295_2, hx295_3, hl295_3, hi295_3⟩ := at_T39 HR0.out x10_1 p295 q295
           obtain rfl : ad292 = ad295 := (by injection e295)
           replace hx295_0 := cel HB.out hx295_0
           replace hx295_1 := cel HB.out hx295_1
           replace hx295_2 := cel HB.out hx295_2
           replace hx295_3 := cel HB.out hx295_3
           have HR295_3 := Aside0.mk hi295_3
           have HC295_3 := Aside0.mk hl295_3
           clear hi295_3 hl295_3
           replace p295 := eq_true p295
           replace q295 := eq_true q295
           have p296 : 0 ≤ (x10_1 : Int) := of_decide_eq_true (by assumption)
           have q296 : x10_1 < (l0.length : Int) := of_decide_eq_true (by assumption)
           obtain ⟨ad296, A296_3, c296_3, e296, hx296_0, hx296_1, hx296_2, hx296_3, hl296_3, hi296_3⟩ := at_T39 HR0.out x10_1 p296 q296
           obtain rfl : ad292 = ad296 := (by injection e296)
           replace hx296_0 := cel HB.out hx296_0
           replace hx296_1 := cel HB.out hx296_1
           replace hx296_2 := cel HB.out hx296_2
           replace hx296_3 := cel HB.out hx296_3
           have HR296_3 := Aside0.mk hi296_3
           have HC296_3 := Aside0.mk hl296_3
           clear hi296_3 hl296_3
           replace p296 := eq_true p296
           replace q296 := eq_true q296
           have ea_ := Option.some.inj (hx295_3.symm.trans hx296_3)
           injection ea_ with ea_ en_ ec_
           subst ea_
           subst ec_
           clear en_
           try go_wp2
           have n0_ := Aside0.mk (Kd.R_drew HO_9.out)
           have n1_ := Aside0.mk (below_drew1 HB.out)
           clear HO_9
           clear HB
           have HO_9 := n0_
           have HB := n1_
           clear n0_ n1_
           have p297 : 0 ≤ (x10_1 : Int) := of_decide_eq_true (by assumption)
           have q297 : x10_1 < (l0.length : Int) := of_decide_eq_true (by assumption)
           obtain ⟨ad297, A297_3, c297_3, e297, hx297_0, hx297_1, hx297_2, hx297_3, hl297_3, hi297_3⟩ := at_T39 HR0.out x10_1 p297 q297
           have hw297_3 := hx297_3
           have hw297_2 := hx297_2
           have hw297_1 := hx297_1
           have hw297_0 := hx297_0
           obtain rfl : ad292 = ad297 := (by injection e297)
           replace hx297_0 := cel HB.out hx297_0
           replace hx297_1 := cel HB.out hx297_1
           replace hx297_2 := cel HB.out hx297_2
           replace hx297_3 := cel HB.out hx297_3
           have HR297_3 := Aside0.mk hi297_3
           have HC297_3 := Aside0.mk hl297_3
           clear hi297_3 hl297_3
           replace p297 := eq_true p297
           replace q297 := eq_true q297
           have p298 : 0 ≤ (x10_1 : Int) := of_decide_eq_true (by assumption)
           have q298 : x10_1 < (l0.length : Int) := of_decide_eq_true (by assumption)
           obtain ⟨ad298, A298_3, c298_3, e298, hx298_0, hx298_1, hx298_2, hx298_3, hl298_3, hi298_3⟩ := at_T39 HR0.out x10_1 p298 q298
           have hw298_3 := hx298_3
           have hw298_2 := hx298_2
           have hw298_1 := hx298_1
           have hw298_0 := hx298_0
           obtain rfl : ad292 = ad298 := (by injection e298)
           replace hx298_0 := cel HB.out hx298_0
           replace hx298_1 := cel HB.out hx298_1
           replace hx298_2 := cel HB.out hx298_2
           replace hx298_3 := cel HB.out hx298_3
           have HR298_3 := Aside0.mk hi298_3
           have HC298_3 := Aside0.mk hl298_3
           clear hi298_3 hl298_3
           replace p298 := eq_true p298
           replace q298 := eq_true q298
           have ea_ := Option.some.inj (hx297_3.symm.trans hx298_3)
           injection ea_ with ea_ en_ ec_
           subst ea_
           subst ec_
           clear en_
           obtain ⟨Ao20, co20, eo20⟩ := Kd.R_slice HO_9.out
           (first | subst eo20 | (injection eo20 with f1_ f2_ f3_; have f4_ := f1_.symm; have f5_ := f3_.symm; clear f1_ f2_ f3_; subst f4_; subst f5_))
           have p299 : 0 ≤ ((ji13) : Int) := of_decide_eq_true (by assumption)
           have q299 : (ji13) < (x9_1.length : Int) := of_decide_eq_true (by assumption)
           obtain ⟨ad299, e299, hx299_0⟩ := Kd.at_int (Kd.R_reads' HO_9.out).2.2 (ji13) p299 q299
           cases e299
           replace p299 := eq_true p299
           replace q299 := eq_true q299
           have p16 : 0 ≤ ((ji13) : Int) := of_decide_eq_true (by assumption)
           have q16 : ((ji13) : Int) < ((x9_1.length : Int) : Int) := of_decide_eq_true (by assumption)
           obtain ⟨go16, co16, eo16, gb16, gl16, cl16, HG16⟩ := Kd.R_form HO_9.out (by omega)
           (first | cases eo16 | (injection eo16 with ea_ en_ ec_; (first | subst ea_ | (injection ea_ with ea_; subst ea_)); subst ec_; clear en_))
           have GB16 := Aside0.mk gb16
           have GG16 := Aside0.mk HG16
           clear gb16 gl16 HG16
           (first | simp only [add_plain] at hx299_0 | skip)
           obtain ⟨hx16_0, hf16_0⟩ := Kd.R_celln 0 HO_9.out ((ji13) : Int) p16 q16
           replace p16 := eq_true p16
           replace q16 := eq_true q16
           have HP21 := Kd.R_putn HO_9.out ((ji13) : Int) (wrap64 ((rd x9_1 (ji13)) + 1))
           rw [← Ny300.out] at HP21
           have HQ21 := Aside0.mk HP21
           clear HP21
           refine start_ (n := 19) (S := fun w' => w'.cell? (ad292.add ((x10_1).toNat * 4)) = some (.int .i64 ((rd_T39 l0 x10_1).f0)) ∧ w'.cell? ⟨(ad292.add ((x10_1).toNat * 4)).block, (ad292.add ((x10_1).toNat * 4)).off + 1, none⟩ = some (.int .i64 ((rd_T39 l0 x10_1).f1)) ∧ w'.cell? ⟨(ad292.add ((x10_1).toNat * 4)).block, (ad292.add ((x10_1).toNat * 4)).off + 2, none⟩ = some (.int .i64 ((rd_T39 l0 x10_1).f2)) ∧ w'.cell? ⟨(ad292.add ((x10_1).toNat * 4)).block, (ad292.add ((x10_1).toNat * 4)).off + 3, none⟩ = some (.slice A297_3 ((rd_T39 l0 x10_1).f3).length c297_3) ∧ w'.cell? (ad292.add ((x10_1).toNat * 4)) = some (.int .i64 ((rd_T39 l0 x10_1).f0)) ∧ w'.cell? ⟨(ad292.add ((x10_1).toNat * 4)).block, (ad292.add ((x10_1).toNat * 4)).off + 1, none⟩ = some (.int .i64 ((rd_T39 l0 x10_1).f1)) ∧ w'.cell? ⟨(ad292.add ((x10_1).toNat * 4)).block, (ad292.add ((x10_1).toNat * 4)).off + 2, none⟩ = some (.int .i64 ((rd_T39 l0 x10_1).f2)) ∧ w'.cell? ⟨(ad292.add ((x10_1).toNat * 4)).block, (ad292.add ((x10_1).toNat * 4)).off + 3, none⟩ = some (.slice A297_3 ((rd_T39 l0 x10_1).f3).length c297_3) ∧ w'.cell? ⟨go16, ((ji13)).toNat, none⟩ = some (.int .i64 (rd x9_1 (ji13)))) (ds := [18]) #[false, false, false, false, false, false, false, false, false, false, false, false, false, false, false, false, false, false, false] (by kernel_rfl) rfl rfl ⟨(cel HB.out hw297_0), (cel HB.out hw297_1), (cel HB.out hw297_2), (cel HB.out hw297_3), (cel HB.out hw298_0), (cel HB.out hw298_1), (cel HB.out hw298_2), (cel HB.out hw298_3), hx299_0⟩ (fun hHeld => ?_); refine with_tabW spec_l32Use.tab9 spec_l32Use.bits9 (fun HT_ HW_ => ?_)
           generalize w18.drew = w19 at HO_9 HB GG16 HQ21 HR297_3 HR298_3 hf16_0 hx16_0 hx297_0 hx297_1 hx297_2 hx297_3 hx298_0 hx298_1 hx298_2 hx298_3 hx299_0 hHeld ⊢
           refine pure_ (i := 0) (N := some 41) (v := ?_) (a' := ?_) #[true, false, false, false, false, false, false, false, false, false, false, false, false, false, false, false, false, false, false] rfl rfl (any_of HT_.out (by kernel_rfl)) (fun _ _ _ h => h) (Or.inl ⟨by rfl, ?_⟩) ?_ ?_
           rotate_left
           ·intro w'
            go_simp
            with_reducible rfl
           rotate_left
           ·simp only [Act.put, List.setIfInBounds_toArray, List.set_cons_zero, List.set_cons_succ, i64_w, i32_w]
            rfl
           refine pure_ (i := 1) (N := some 42) (v := ?_) (a' := ?_) #[true, true, false, false, false, false, false, false, false, false, false, false, false, false, false, false, false, false, false] rfl rfl (any_of HT_.out (by kernel_rfl)) (fun _ _ _ h => h) (Or.inl ⟨by rfl, ?_⟩) ?_ ?_
           rotate_left
           ·intro w'
            go_simp
            with_reducible rfl
           rotate_left
           ·simp only [Act.put, List.setIfInBounds_toArray, List.set_cons_zero, List.set_cons_succ, i64_w, i32_w]
            rfl
           refine pure_ (i := 2) (N := some 43) (v := ?_) (a' := ?_) #[true, true, true, false, false, false, false, false, false, false, false, false, false, false, false, false, false, false, false] rfl rfl (any_of HT_.out (by kernel_rfl)) (fun _ _ _ h => h) (Or.inl ⟨by rfl, ?_⟩) ?_ ?_
           rotate_left
           ·intro w'
            go_simp
            with_reducible rfl
           rotate_left
           ·simp only [Act.put, List.setIfInBounds_toArray, List.set_cons_zero, List.set_cons_succ, i64_w, i32_w]
            rfl
           refine pure_ (i := 3) (N := some 44) (v := ?_) (a' := ?_) #[true, true, true, true, false, false, false, false, false, false, false, false, false, false, false, false, false, false, false] rfl rfl (any_of HT_.out (by kernel_rfl)) (fun _ _ _ h => h) (Or.inl ⟨by rfl, ?_⟩) ?_ ?_
           rotate_left
           ·intro w'
            go_simp
            with_reducible rfl
           rotate_left
           ·simp only [Act.put, List.setIfInBounds_toArray, List.set_cons_zero, List.set_cons_succ, i64_w, i32_w]
            rfl
           refine pure_ (i := 4) (N := some 45) (v := ?_) (a' := ?_) #[true, true, true, true, true, false, false, false, false, false, false, false, false, false, false, false, false, false, false] rfl rfl (any_of HT_.out (by kernel_rfl)) (fun _ _ _ h => h) (Or.inl ⟨by rfl, ?_⟩) ?_ ?_
           rotate_left
           ·intro w'
            go_simp
            with_reducible rfl
           rotate_left
           ·simp only [Act.put, List.setIfInBounds_toArray, List.set_cons_zero, List.set_cons_succ, i64_w, i32_w]
            rfl
           refine pure_ (i := 7) (N := some 48) (v := ?_) (a' := ?_) #[true, true, true, true, true, false, false, true, false, false, false, false, false, false, false, false, false, false, false] rfl rfl (any_of HT_.out (by kernel_rfl)) (fun _ _ _ h => h) (Or.inl ⟨by rfl, ?_⟩) ?_ ?_
           rotate_left
           ·intro w'
            go_simp
            with_reducible rfl
           rotate_left
           ·simp only [Act.put, List.setIfInBounds_toArray, List.set_cons_zero, List.set_cons_succ, i64_w, i32_w]
            rfl
           refine pure_ (i := 8) (N := some 49) (v := ?_) (a' := ?_) #[true, true, true, true, true, false, false, true, true, false, false, false, false, false, false, false, false, false, false] rfl rfl (any_of HT_.out (by kernel_rfl)) (fun _ _ _ h => h) (Or.inl ⟨by rfl, ?_⟩) ?_ ?_
           rotate_left
           ·intro w'
            go_simp
            with_reducible rfl
           rotate_left
           ·simp only [Act.put, List.setIfInBounds_toArray, List.set_cons_zero, List.set_cons_succ, i64_w, i32_w]
            rfl
           refine pure_ (i := 9) (N := some 50) (v := ?_) (a' := ?_) #[true, true, true, true, true, false, false, true, true, true, false, false, false, false, false, false, false, false, false] rfl rfl (any_of HT_.out (by kernel_rfl)) (fun _ _ _ h => h) (Or.inl ⟨by rfl, ?_⟩) ?_ ?_
           rotate_left
           ·intro w'
            go_simp
            with_reducible rfl
           rotate_left
           ·simp only [Act.put, List.setIfInBounds_toArray, List.set_cons_zero, List.set_cons_succ, i64_w, i32_w]
            rfl
           refine pure_ (i := 10) (N := some 51) (v := ?_) (a' := ?_) #[true, true, true, true, true, false, false, true, true, true, true, false, false, false, false, false, false, false, false] rfl rfl (any_of HT_.out (by kernel_rfl)) (fun _ _ _ h => h) (Or.inl ⟨by rfl, ?_⟩) ?_ ?_
           rotate_left
           ·intro w'
            go_simp
            with_reducible rfl
           rotate_left
           ·simp only [Act.put, List.setIfInBounds_toArray, List.set_cons_zero, List.set_cons_succ, i64_w, i32_w]
            rfl
           refine pure_ (i := 11) (N := some 52) (v := ?_) (a' := ?_) #[true, true, true, true, true, false, false, true, true, true, true, true, false, false, false, false, false, false, false] rfl rfl (any_of HT_.out (by kernel_rfl)) (fun _ _ _ h => h) (Or.inl ⟨by rfl, ?_⟩) ?_ ?_
           rotate_left
           ·intro w'
            go_simp
            with_reducible rfl
           rotate_left
           ·simp only [Act.put, List.setIfInBounds_toArray, List.set_cons_zero, List.set_cons_succ, i64_w, i32_w]
            rfl
           refine take_ (i := 5) (N := some 46) (v := ?_) (a' := ?_) #[true, true, true, true, true, true, false, true, true, true, true, true, false, false, false, false, false, false, false] rfl rfl (take_ofW HT_.out HW_.out (by kernel_rfl)) (fun _ _ _ h => h) (Or.inl ⟨by rfl, ?_⟩) hHeld ?_ ?_
           rotate_left
           ·rintro w' ⟨s0, s1, s2, s3, s4, s5, s6, s7, s8⟩
            go_simp
            with_reducible rfl
           rotate_left
           ·simp only [Act.put, List.setIfInBounds_toArray, List.set_cons_zero, List.set_cons_succ, i64_w, i32_w]
            rfl
           refine pure_ (i := 6) (N := some 47) (v := ?_) (a' := ?_) #[true, true, true, true, true, true, true, true, true, true, true, true, false, false, false, false, false, false, false] rfl rfl (any_of HT_.out (by kernel_rfl)) (fun _ _ _ h => h) (Or.inl ⟨by rfl, ?_⟩) ?_ ?_
           rotate_left
           ·intro w'
            go_simp
            with_reducible rfl
           rotate_left
           ·simp only [Act.put, List.setIfInBounds_toArray, List.set_cons_zero, List.set_cons_succ, i64_w, i32_w]
            rfl
           refine take_ (i := 12) (N := some 53) (v := ?_) (a' := ?_) #[true, true, true, true, true, true, true, true, true, true, true, true, true, false, false, false, false, false, false] rfl rfl (take_ofW HT_.out HW_.out (by kernel_rfl)) (fun _ _ _ h => h) (Or.inl ⟨by rfl, ?_⟩) hHeld ?_ ?_
           rotate_left
           ·rintro w' ⟨s0, s1, s2, s3, s4, s5, s6, s7, s8⟩
            go_simp
            with_reducible rfl
           rotate_left
           ·simp only [Act.put, List.setIfInBounds_toArray, List.set_cons_zero, List.set_cons_succ, i64_w, i32_w]
            rfl
           refine pure_ (i := 13) (N := some 54) (v := ?_) (a' := ?_) #[true, true, true, true, true, true, true, true, true, true, true, true, true, true, false, false, false, false, false] rfl rfl (any_of HT_.out (by kernel_rfl)) (fun _ _ _ h => h) (Or.inl ⟨by rfl, ?_⟩) ?_ ?_
           rotate_left
           ·intro w'
            go_simp
            with_reducible rfl
           rotate_left
           ·simp only [Act.put, List.setIfInBounds_toArray, List.set_cons_zero, List.set_cons_succ, i64_w, i32_w]
            rfl
           refine pure_ (i := 14) (N := some 55) (v := ?_) (a' := ?_) #[true, true, true, true, true, true, true, true, true, true, true, true, true, true, true, false, false, false, false] rfl rfl (any_of HT_.out (by kernel_rfl)) (fun _ _ _ h => h) (Or.inl ⟨by rfl, ?_⟩) ?_ ?_
           rotate_left
           ·intro w'
            go_simp
            with_reducible rfl
           rotate_left
           ·simp only [Act.put, List.setIfInBounds_toArray, List.set_cons_zero, List.set_cons_succ, i64_w, i32_w]
            rfl
           refine take_ (i := 15) (N := some 56) (v := ?_) (a' := ?_) #[true, true, true, true, true, true, true, true, true, true, true, true, true, true, true, true, false, false, false] rfl rfl (take_ofW HT_.out HW_.out (by kernel_rfl)) (fun _ _ _ h => h) (Or.inl ⟨by rfl, ?_⟩) hHeld ?_ ?_
           rotate_left
           ·rintro w' ⟨s0, s1, s2, s3, s4, s5, s6, s7, s8⟩
            go_simp
            with_reducible rfl
           rotate_left
           ·simp only [Act.put, List.setIfInBounds_toArray, List.set_cons_zero, List.set_cons_succ, i64_w, i32_w]
            rfl
           refine pure_ (i := 16) (N := some 57) (v := ?_) (a' := ?_) #[true, true, true, true, true, true, true, true, true, true, true, true, true, true, true, true, true, false, false] rfl rfl (any_of HT_.out (by kernel_rfl)) (fun _ _ _ h => h) (Or.inl ⟨by rfl, ?_⟩) ?_ ?_
           rotate_left
           ·intro w'
            go_simp
            with_reducible rfl
           rotate_left
           ·simp only [Act.put, List.setIfInBounds_toArray, List.set_cons_zero, List.set_cons_succ, i64_w, i32_w]
            rfl
           refine pure_ (i := 17) (N := some 58) (v := ?_) (a' := ?_) #[true, true, true, true, true, true, true, true, true, true, true, true, true, true, true, true, true, true, false] rfl rfl (any_of HT_.out (by kernel_rfl)) (fun _ _ _ h => h) (Or.inl ⟨by rfl, ?_⟩) ?_ ?_
           rotate_left
           ·intro w'
            go_simp
            with_reducible rfl
           rotate_left
           ·simp only [Act.put, List.setIfInBounds_toArray, List.set_cons_zero, List.set_cons_succ, i64_w, i32_w]
            rfl
           refine last_ (i := 18) (N := none) #[true, true, true, true, true, true, true, true, true, true, true, true, true, true, true, true, true, true, true] rfl rfl (one_of HT_.out (by kernel_rfl)) (by decide) (fun K hK => ?_)
           refine skip_ (w1 := ?_) (by rfl) rfl ?_ ?_
           rotate_left
           ·go_simp
            rfl
           refine hK.out _ _ ?_
           clear hK K
           refine done_ (done_of HT_.out (by kernel_rfl)) ?_
           try go_wp2
           go_roundg k1
           case measure => have := HK1.out; omega
           case rel => exact ⟨(wrap64 (x8_1 + ((rd_T39 l0 x10_1).f1))), (y300), (wrap64 (x10_1 + 1)), (by first | rfl | (simp; done) | (simp [*]; done)), (by first | rfl | (simp; done) | (simp [*]; done)), H', ⟨by have := HK1.out; omega⟩, ⟨by (with_reducible repeat (first | apply Kd.R_alloc | apply Kd.R_drewN | apply Kd.R_drew)); exact HQ21.out⟩, ⟨by repeat (first | (with_reducible first | exact HB.out | apply below_alloc | apply pw_below_drewN | apply below_drew1 | refine below_set ?_ GB16.out) | exact HB.out)⟩⟩
          rw [if_neg c15] at H
          exact absurd H (by simp)
         rw [if_neg c14] at H
         exact absurd H (by simp)
        rw [if_neg c12] at H
        have c12b0 : decide (0 < ((rd_T39 l0 x10_1).f2)) = false := decide_eq_false c12
        clear c12
        have H' := Aside0.mk H
        clear H
        try go_wp2
        have n0_ := Aside0.mk (Kd.R_drew HO_9.out)
        have n1_ := Aside0.mk (below_drew1 HB.out)
        clear HO_9
        clear HB
        have HO_9 := n0_
        have HB := n1_
        clear n0_ n1_
        have p292 : 0 ≤ (x10_1 : Int) := of_decide_eq_true (by assumption)
        have q292 : x10_1 < (l0.length : Int) := of_decide_eq_true (by assumption)
        obtain ⟨ad292, A292_3, c292_3, e292, hx292_0, hx292_1, hx292_2, hx292_3, hl292_3, hi292_3⟩ := at_T39 HR0.out x10_1 p292 q292
        have hw292_3 := hx292_3
        have hw292_2 := hx292_2
        have hw292_1 := hx292_1
        have hw292_0 := hx292_0
        cases e292
        replace hx292_0 := cel HB.out hx292_0
        replace hx292_1 := cel HB.out hx292_1
        replace hx292_2 := cel HB.out hx292_2
        replace hx292_3 := cel HB.out hx292_3
        have HR292_3 := Aside0.mk hi292_3
        have HC292_3 := Aside0.mk hl292_3
        clear hi292_3 hl292_3
        replace p292 := eq_true p292
        replace q292 := eq_true q292
        have p293 : 0 ≤ (x10_1 : Int) := of_decide_eq_true (by assumption)
        have q293 : x10_1 < (l1.length : Int) := of_decide_eq_true (by assumption)
        obtain ⟨ad293, e293, hx293_0⟩ := Kd.at_int HR1.out x10_1 p293 q293
        have hw293_0 := hx293_0
        cases e293
        replace hx293_0 := cel HB.out hx293_0
        replace p293 := eq_true p293
        replace q293 := eq_true q293
        refine start_ (n := 10) (S := fun w' => w'.cell? (ad292.add ((x10_1).toNat * 4)) = some (.int .i64 ((rd_T39 l0 x10_1).f0)) ∧ w'.cell? ⟨(ad292.add ((x10_1).toNat * 4)).block, (ad292.add ((x10_1).toNat * 4)).off + 1, none⟩ = some (.int .i64 ((rd_T39 l0 x10_1).f1)) ∧ w'.cell? ⟨(ad292.add ((x10_1).toNat * 4)).block, (ad292.add ((x10_1).toNat * 4)).off + 2, none⟩ = some (.int .i64 ((rd_T39 l0 x10_1).f2)) ∧ w'.cell? ⟨(ad292.add ((x10_1).toNat * 4)).block, (ad292.add ((x10_1).toNat * 4)).off + 3, none⟩ = some (.slice A292_3 ((rd_T39 l0 x10_1).f3).length c292_3) ∧ w'.cell? (ad293.add (x10_1).toNat) = some (.int .i64 (rd l1 x10_1))) (ds := []) #[false, false, false, false, false, false, false, false, false, false] (by kernel_rfl) rfl rfl ⟨(cel HB.out hw292_0), (cel HB.out hw292_1), (cel HB.out hw292_2), (cel HB.out hw292_3), (cel HB.out hw293_0)⟩ (fun hHeld => ?_); refine with_tabW spec_l32Use.tab6 spec_l32Use.bits6 (fun HT_ HW_ => ?_)
        generalize wr.drew = w22 at HO_9 HB HR292_3 hx292_0 hx292_1 hx292_2 hx292_3 hx293_0 hHeld ⊢
        refine pure_ (i := 0) (N := some 18) (v := ?_) (a' := ?_) #[true, false, false, false, false, false, false, false, false, false] rfl rfl (any_of HT_.out (by kernel_rfl)) (fun _ _ _ h => h) (Or.inl ⟨by rfl, ?_⟩) ?_ ?_
        rotate_left
        ·intro w'
         go_simp
         with_reducible rfl
        rotate_left
        ·simp only [Act.put, List.setIfInBounds_toArray, List.set_cons_zero, List.set_cons_succ, i64_w, i32_w]
         rfl
        refine pure_ (i := 1) (N := some 19) (v := ?_) (a' := ?_) #[true, true, false, false, false, false, false, false, false, false] rfl rfl (any_of HT_.out (by kernel_rfl)) (fun _ _ _ h => h) (Or.inl ⟨by rfl, ?_⟩) ?_ ?_
        rotate_left
        ·intro w'
         go_simp
         with_reducible rfl
        rotate_left
        ·simp only [Act.put, List.setIfInBounds_toArray, List.set_cons_zero, List.set_cons_succ, i64_w, i32_w]
         rfl
        refine pure_ (i := 2) (N := some 20) (v := ?_) (a' := ?_) #[true, true, true, false, false, false, false, false, false, false] rfl rfl (any_of HT_.out (by kernel_rfl)) (fun _ _ _ h => h) (Or.inl ⟨by rfl, ?_⟩) ?_ ?_
        rotate_left
        ·intro w'
         go_simp
         with_reducible rfl
        rotate_left
        ·simp only [Act.put, List.setIfInBounds_toArray, List.set_cons_zero, List.set_cons_succ, i64_w, i32_w]
         rfl
        refine pure_ (i := 4) (N := some 22) (v := ?_) (a' := ?_) #[true, true, true, false, true, false, false, false, false, false] rfl rfl (any_of HT_.out (by kernel_rfl)) (fun _ _ _ h => h) (Or.inl ⟨by rfl, ?_⟩) ?_ ?_
        rotate_left
        ·intro w'
         go_simp
         with_reducible rfl
        rotate_left
        ·simp only [Act.put, List.setIfInBounds_toArray, List.set_cons_zero, List.set_cons_succ, i64_w, i32_w]
         rfl
        refine pure_ (i := 5) (N := some 23) (v := ?_) (a' := ?_) #[true, true, true, false, true, true, false, false, false, false] rfl rfl (any_of HT_.out (by kernel_rfl)) (fun _ _ _ h => h) (Or.inl ⟨by rfl, ?_⟩) ?_ ?_
        rotate_left
        ·intro w'
         go_simp
         with_reducible rfl
        rotate_left
        ·simp only [Act.put, List.setIfInBounds_toArray, List.set_cons_zero, List.set_cons_succ, i64_w, i32_w]
         rfl
        refine pure_ (i := 6) (N := some 24) (v := ?_) (a' := ?_) #[true, true, true, false, true, true, true, false, false, false] rfl rfl (any_of HT_.out (by kernel_rfl)) (fun _ _ _ h => h) (Or.inl ⟨by rfl, ?_⟩) ?_ ?_
        rotate_left
        ·intro w'
         go_simp
         with_reducible rfl
        rotate_left
        ·simp only [Act.put, List.setIfInBounds_toArray, List.set_cons_zero, List.set_cons_succ, i64_w, i32_w]
         rfl
        refine pure_ (i := 8) (N := some 26) (v := ?_) (a' := ?_) #[true, true, true, false, true, true, true, false, true, false] rfl rfl (any_of HT_.out (by kernel_rfl)) (fun _ _ _ h => h) (Or.inl ⟨by rfl, ?_⟩) ?_ ?_
        rotate_left
        ·intro w'
         go_simp
         with_reducible rfl
        rotate_left
        ·simp only [Act.put, List.setIfInBounds_toArray, List.set_cons_zero, List.set_cons_succ, i64_w, i32_w]
         rfl
        refine take_ (i := 3) (N := some 21) (v := ?_) (a' := ?_) #[true, true, true, true, true, true, true, false, true, false] rfl rfl (take_ofW HT_.out HW_.out (by kernel_rfl)) (fun _ _ _ h => h) (Or.inl ⟨by rfl, ?_⟩) hHeld ?_ ?_
        rotate_left
        ·rintro w' ⟨s0, s1, s2, s3, s4⟩
         go_simp
         with_reducible rfl
        rotate_left
        ·simp only [Act.put, List.setIfInBounds_toArray, List.set_cons_zero, List.set_cons_succ, i64_w, i32_w]
         rfl
        refine take_ (i := 7) (N := some 25) (v := ?_) (a' := ?_) #[true, true, true, true, true, true, true, true, true, false] rfl rfl (take_ofW HT_.out HW_.out (by kernel_rfl)) (fun _ _ _ h => h) (Or.inl ⟨by rfl, ?_⟩) hHeld ?_ ?_
        rotate_left
        ·rintro w' ⟨s0, s1, s2, s3, s4⟩
         go_simp
         with_reducible rfl
        rotate_left
        ·simp only [Act.put, List.setIfInBounds_toArray, List.set_cons_zero, List.set_cons_succ, i64_w, i32_w]
         rfl
        refine one_ (i := 9) (N := some 27) #[true, true, true, true, true, true, true, true, true, true] rfl rfl (one_of HT_.out (by kernel_rfl)) (by decide) (fun K hK => ?_)
        refine goes_ Try.func42 (by kernel_rfl) rfl #[.agg #[.int .i64 ((rd_T39 l0 x10_1).f0), .int .i64 ((rd_T39 l0 x10_1).f1), .int .i64 ((rd_T39 l0 x10_1).f2), .slice A292_3 ((rd_T39 l0 x10_1).f3).length c292_3], .int .i64 (rd l1 x10_1), .int .i64 a2] (by rfl) rfl rfl (by (try simp only [List.map_toArray, List.map_cons, List.map_nil]); first | done | rfl | (simp only [List.length_drop, List.length_take]; rfl)) ?_
        with_reducible refine (spec_l32On.calls ((rd_T39 l0 x10_1).f0) ((rd_T39 l0 x10_1).f1) ((rd_T39 l0 x10_1).f2) _ _ ((rd_T39 l0 x10_1).f3) (rd l1 x10_1) a2 true _ ?side1 ?side2 A10.out).mono ?_
        (case side1 => exact cup (Kd.C_below HR292_3.out HB.out))
        (case side2 => exact HC292_3.out)
        rintro e w23 ⟨rfl, hb⟩
        refine ⟨_, rfl, ?_⟩
        have n0_ := Aside0.mk (Kd.R_below (rup HO_9.out) hb)
        have n1_ := Aside0.mk (below_step (bel HB.out) hb)
        clear HO_9
        clear HB
        have HO_9 := n0_
        have HB := n1_
        clear n0_ n1_
        (try clear hb)
        (try clear hb2)
        (try clear hk)
        (try clear hi)
        refine hK.out _ _ ⟨(cel HB.out hw292_0), (cel HB.out hw292_1), (cel HB.out hw292_2), (cel HB.out hw292_3), (cel HB.out hw293_0)⟩ (fun hHeld => ?_)
        clear hK K
        refine norm_ (a' := ?_) ?_ ?_
        rotate_left
        ·show Act.put _ (some 27) _ = _
         simp only [Act.put, List.setIfInBounds_toArray, List.set_cons_zero, List.set_cons_succ, i64_w, i32_w]
         rfl
        refine done_ (done_of HT_.out (by kernel_rfl)) ?_
        have p295 : 0 ≤ (x10_1 : Int) := of_decide_eq_true (by assumption)
        have q295 : x10_1 < (l0.length : Int) := of_decide_eq_true (by assumption)
        obtain ⟨ad295, A295_3, c295_3, e295, hx295_0, hx295_1, hx295_2, hx295_3, hl295_3, hi295_3⟩ := at_T39 HR0.out x10_1 p295 q295
        obtain rfl : ad292 = ad295 := (by injection e295)
        replace hx295_0 := cel HB.out hx295_0
        replace hx295_1 := cel HB.out hx295_1
        replace hx295_2 := cel HB.out hx295_2
        replace hx295_3 := cel HB.out hx295_3
        have HR295_3 := Aside0.mk hi295_3
        have HC295_3 := Aside0.mk hl295_3
        clear hi295_3 hl295_3
        replace p295 := eq_true p295
        replace q295 := eq_true q295
        have p296 : 0 ≤ (x10_1 : Int) := of_decide_eq_true (by assumption)
        have q296 : x10_1 < (l0.length : Int) := of_decide_eq_true (by assumption)
        obtain ⟨ad296, A296_3, c296_3, e296, hx296_0, hx296_1, hx296_2, hx296_3, hl296_3, hi296_3⟩ := at_T39 HR0.out x10_1 p296 q296
        obtain rfl : ad292 = ad296 := (by injection e296)
        replace hx296_0 := cel HB.out hx296_0
        replace hx296_1 := cel HB.out hx296_1
        replace hx296_2 := cel HB.out hx296_2
        replace hx296_3 := cel HB.out hx296_3
        have HR296_3 := Aside0.mk hi296_3
        have HC296_3 := Aside0.mk hl296_3
        clear hi296_3 hl296_3
        replace p296 := eq_true p296
        replace q296 := eq_true q296
        have ea_ := Option.some.inj (hx295_3.symm.trans hx296_3)
        injection ea_ with ea_ en_ ec_
        subst ea_
        subst ec_
        clear en_
        try go_wp2
        go_roundg k1
        case measure => have := HK1.out; omega
        case rel => exact ⟨(wrap64 (x8_1 + ((rd_T39 l0 x10_1).f1))), (x9_1), (wrap64 (x10_1 + 1)), (by first | rfl | (simp; done) | (simp [*]; done)), (by first | rfl | (simp; done) | (simp [*]; done)), H', ⟨by have := HK1.out; omega⟩, ⟨by (with_reducible repeat (first | apply Kd.R_alloc | apply Kd.R_drewN | apply Kd.R_drew)); exact HO_9.out⟩, ⟨bel HB.out⟩⟩
       replace c11 := Bool.eq_false_iff.mpr c11
       subst c11
       have H1 : (spec_l32Use.l0 k1 l0 l1 a2 x8_1 x9_1 (wrap64 (x10_1 + 1))) = some (r1, r2) := by rw [if_neg (show ¬ (false = true) by decide)] at H; exact H
       clear H
       have H := H1
       clear H1
       have H' := Aside0.mk H
       clear H
       try go_wp2
       have n0_ := Aside0.mk (Kd.R_drew HO_9.out)
       have n1_ := Aside0.mk (below_drew1 HB.out)
       clear HO_9
       clear HB
       have HO_9 := n0_
       have HB := n1_
       clear n0_ n1_
       have p292 : 0 ≤ (x10_1 : Int) := of_decide_eq_true (by assumption)
       have q292 : x10_1 < (l0.length : Int) := of_decide_eq_true (by assumption)
       obtain ⟨ad292, A292_3, c292_3, e292, hx292_0, hx292_1, hx292_2, hx292_3, hl292_3, hi292_3⟩ := at_T39 HR0.out x10_1 p292 q292
       have hw292_3 := hx292_3
       have hw292_2 := hx292_2
       have hw292_1 := hx292_1
       have hw292_0 := hx292_0
       cases e292
       replace hx292_0 := cel HB.out hx292_0
       replace hx292_1 := cel HB.out hx292_1
       replace hx292_2 := cel HB.out hx292_2
       replace hx292_3 := cel HB.out hx292_3
       have HR292_3 := Aside0.mk hi292_3
       have HC292_3 := Aside0.mk hl292_3
       clear hi292_3 hl292_3
       replace p292 := eq_true p292
       replace q292 := eq_true q292
       have p293 : 0 ≤ (x10_1 : Int) := of_decide_eq_true (by assumption)
       have q293 : x10_1 < (l1.length : Int) := of_decide_eq_true (by assumption)
       obtain ⟨ad293, e293, hx293_0⟩ := Kd.at_int HR1.out x10_1 p293 q293
       have hw293_0 := hx293_0
       cases e293
       replace hx293_0 := cel HB.out hx293_0
       replace p293 := eq_true p293
       replace q293 := eq_true q293
       refine start_ (n := 10) (S := fun w' => w'.cell? (ad292.add ((x10_1).toNat * 4)) = some (.int .i64 ((rd_T39 l0 x10_1).f0)) ∧ w'.cell? ⟨(ad292.add ((x10_1).toNat * 4)).block, (ad292.add ((x10_1).toNat * 4)).off + 1, none⟩ = some (.int .i64 ((rd_T39 l0 x10_1).f1)) ∧ w'.cell? ⟨(ad292.add ((x10_1).toNat * 4)).block, (ad292.add ((x10_1).toNat * 4)).off + 2, none⟩ = some (.int .i64 ((rd_T39 l0 x10_1).f2)) ∧ w'.cell? ⟨(ad292.add ((x10_1).toNat * 4)).block, (ad292.add ((x10_1).toNat * 4)).off + 3, none⟩ = some (.slice A292_3 ((rd_T39 l0 x10_1).f3).length c292_3) ∧ w'.cell? (ad293.add (x10_1).toNat) = some (.int .i64 (rd l1 x10_1))) (ds := []) #[false, false, false, false, false, false, false, false, false, false] (by kernel_rfl) rfl rfl ⟨(cel HB.out hw292_0), (cel HB.out hw292_1), (cel HB.out hw292_2), (cel HB.out hw292_3), (cel HB.out hw293_0)⟩ (fun hHeld => ?_); refine with_tabW spec_l32Use.tab6 spec_l32Use.bits6 (fun HT_ HW_ => ?_)
       generalize wr.drew = w24 at HO_9 HB HR292_3 hx292_0 hx292_1 hx292_2 hx292_3 hx293_0 hHeld ⊢
       refine pure_ (i := 0) (N := some 18) (v := ?_) (a' := ?_) #[true, false, false, false, false, false, false, false, false, false] rfl rfl (any_of HT_.out (by kernel_rfl)) (fun _ _ _ h => h) (Or.inl ⟨by rfl, ?_⟩) ?_ ?_
       rotate_left
       ·intro w'
        go_simp
        with_reducible rfl
       rotate_left
       ·simp only [Act.put, List.setIfInBounds_toArray, List.set_cons_zero, List.set_cons_succ, i64_w, i32_w]
        rfl
       refine pure_ (i := 1) (N := some 19) (v := ?_) (a' := ?_) #[true, true, false, false, false, false, false, false, false, false] rfl rfl (any_of HT_.out (by kernel_rfl)) (fun _ _ _ h => h) (Or.inl ⟨by rfl, ?_⟩) ?_ ?_
       rotate_left
       ·intro w'
        go_simp
        with_reducible rfl
       rotate_left
       ·simp only [Act.put, List.setIfInBounds_toArray, List.set_cons_zero, List.set_cons_succ, i64_w, i32_w]
        rfl
       refine pure_ (i := 2) (N := some 20) (v := ?_) (a' := ?_) #[true, true, true, false, false, false, false, false, false, false] rfl rfl (any_of HT_.out (by kernel_rfl)) (fun _ _ _ h => h) (Or.inl ⟨by rfl, ?_⟩) ?_ ?_
       rotate_left
       ·intro w'
        go_simp
        with_reducible rfl
       rotate_left
       ·simp only [Act.put, List.setIfInBounds_toArray, List.set_cons_zero, List.set_cons_succ, i64_w, i32_w]
        rfl
       refine pure_ (i := 4) (N := some 22) (v := ?_) (a' := ?_) #[true, true, true, false, true, false, false, false, false, false] rfl rfl (any_of HT_.out (by kernel_rfl)) (fun _ _ _ h => h) (Or.inl ⟨by rfl, ?_⟩) ?_ ?_
       rotate_left
       ·intro w'
        go_simp
        with_reducible rfl
       rotate_left
       ·simp only [Act.put, List.setIfInBounds_toArray, List.set_cons_zero, List.set_cons_succ, i64_w, i32_w]
        rfl
       refine pure_ (i := 5) (N := some 23) (v := ?_) (a' := ?_) #[true, true, true, false, true, true, false, false, false, false] rfl rfl (any_of HT_.out (by kernel_rfl)) (fun _ _ _ h => h) (Or.inl ⟨by rfl, ?_⟩) ?_ ?_
       rotate_left
       ·intro w'
        go_simp
        with_reducible rfl
       rotate_left
       ·simp only [Act.put, List.setIfInBounds_toArray, List.set_cons_zero, List.set_cons_succ, i64_w, i32_w]
        rfl
       refine pure_ (i := 6) (N := some 24) (v := ?_) (a' := ?_) #[true, true, true, false, true, true, true, false, false, false] rfl rfl (any_of HT_.out (by kernel_rfl)) (fun _ _ _ h => h) (Or.inl ⟨by rfl, ?_⟩) ?_ ?_
       rotate_left
       ·intro w'
        go_simp
        with_reducible rfl
       rotate_left
       ·simp only [Act.put, List.setIfInBounds_toArray, List.set_cons_zero, List.set_cons_succ, i64_w, i32_w]
        rfl
       refine pure_ (i := 8) (N := some 26) (v := ?_) (a' := ?_) #[true, true, true, false, true, true, true, false, true, false] rfl rfl (any_of HT_.out (by kernel_rfl)) (fun _ _ _ h => h) (Or.inl ⟨by rfl, ?_⟩) ?_ ?_
       rotate_left
       ·intro w'
        go_simp
        with_reducible rfl
       rotate_left
       ·simp only [Act.put, List.setIfInBounds_toArray, List.set_cons_zero, List.set_cons_succ, i64_w, i32_w]
        rfl
       refine take_ (i := 3) (N := some 21) (v := ?_) (a' := ?_) #[true, true, true, true, true, true, true, false, true, false] rfl rfl (take_ofW HT_.out HW_.out (by kernel_rfl)) (fun _ _ _ h => h) (Or.inl ⟨by rfl, ?_⟩) hHeld ?_ ?_
       rotate_left
       ·rintro w' ⟨s0, s1, s2, s3, s4⟩
        go_simp
        with_reducible rfl
       rotate_left
       ·simp only [Act.put, List.setIfInBounds_toArray, List.set_cons_zero, List.set_cons_succ, i64_w, i32_w]
        rfl
       refine take_ (i := 7) (N := some 25) (v := ?_) (a' := ?_) #[true, true, true, true, true, true, true, true, true, false] rfl rfl (take_ofW HT_.out HW_.out (by kernel_rfl)) (fun _ _ _ h => h) (Or.inl ⟨by rfl, ?_⟩) hHeld ?_ ?_
       rotate_left
       ·rintro w' ⟨s0, s1, s2, s3, s4⟩
        go_simp
        with_reducible rfl
       rotate_left
       ·simp only [Act.put, List.setIfInBounds_toArray, List.set_cons_zero, List.set_cons_succ, i64_w, i32_w]
        rfl
       refine one_ (i := 9) (N := some 27) #[true, true, true, true, true, true, true, true, true, true] rfl rfl (one_of HT_.out (by kernel_rfl)) (by decide) (fun K hK => ?_)
       refine goes_ Try.func42 (by kernel_rfl) rfl #[.agg #[.int .i64 ((rd_T39 l0 x10_1).f0), .int .i64 ((rd_T39 l0 x10_1).f1), .int .i64 ((rd_T39 l0 x10_1).f2), .slice A292_3 ((rd_T39 l0 x10_1).f3).length c292_3], .int .i64 (rd l1 x10_1), .int .i64 a2] (by rfl) rfl rfl (by (try simp only [List.map_toArray, List.map_cons, List.map_nil]); first | done | rfl | (simp only [List.length_drop, List.length_take]; rfl)) ?_
       with_reducible refine (spec_l32On.calls ((rd_T39 l0 x10_1).f0) ((rd_T39 l0 x10_1).f1) ((rd_T39 l0 x10_1).f2) _ _ ((rd_T39 l0 x10_1).f3) (rd l1 x10_1) a2 false _ ?side1 ?side2 A10.out).mono ?_
       (case side1 => exact cup (Kd.C_below HR292_3.out HB.out))
       (case side2 => exact HC292_3.out)
       rintro e w25 ⟨rfl, hb⟩
       refine ⟨_, rfl, ?_⟩
       have n0_ := Aside0.mk (Kd.R_below (rup HO_9.out) hb)
       have n1_ := Aside0.mk (below_step (bel HB.out) hb)
       clear HO_9
       clear HB
       have HO_9 := n0_
       have HB := n1_
       clear n0_ n1_
       (try clear hb)
       (try clear hb2)
       (try clear hk)
       (try clear hi)
       refine hK.out _ _ ⟨(cel HB.out hw292_0), (cel HB.out hw292_1), (cel HB.out hw292_2), (cel HB.out hw292_3), (cel HB.out hw293_0)⟩ (fun hHeld => ?_)
       clear hK K
       refine norm_ (a' := ?_) ?_ ?_
       rotate_left
       ·show Act.put _ (some 27) _ = _
        simp only [Act.put, List.setIfInBounds_toArray, List.set_cons_zero, List.set_cons_succ, i64_w, i32_w]
        rfl
       refine done_ (done_of HT_.out (by kernel_rfl)) ?_
       try go_wp2
       go_roundg k1
       case measure => have := HK1.out; omega
       case rel => exact ⟨(x8_1), (x9_1), (wrap64 (x10_1 + 1)), (by first | rfl | (simp; done) | (simp [*]; done)), (by first | rfl | (simp; done) | (simp [*]; done)), H', ⟨by have := HK1.out; omega⟩, ⟨by (with_reducible repeat (first | apply Kd.R_alloc | apply Kd.R_drewN | apply Kd.R_drew)); exact HO_9.out⟩, ⟨bel HB.out⟩⟩
      rw [if_neg c9] at H
      exact absurd H (by simp)
     rw [if_neg c8] at H
     exact absurd H (by simp)
    rw [if_neg c7] at H
    have c7b0 : decide (x10_1 < (l1.length : Int)) = false := decide_eq_false c7
    clear c7
    simp only [Option.some.injEq, Prod.mk.injEq] at H
    obtain ⟨rfl, rfl⟩ := H
    go_wp2
    go_ret2
    exact ⟨_, by first | rfl | (simp [errW_none, errW_some] <;> rfl) | (simp [*, errW_none, errW_some] <;> rfl), by (with_reducible repeat (first | apply Kd.R_alloc | apply Kd.R_drewN | apply Kd.R_drew)); exact HO_9.out, bel HB.out⟩
 rw [if_neg c4] at H
 exact absurd H (by simp)

end Go.Proofs.Ytcglfapodhcfeaa.PPm
