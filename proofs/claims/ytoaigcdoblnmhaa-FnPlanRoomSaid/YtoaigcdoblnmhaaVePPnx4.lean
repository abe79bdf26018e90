import Derived.Test.YtoaigcdoblnmhaaVePPnx0
import Derived.Test.YtoaigcdoblnmhaaVePPnx3
namespace Go.Proofs.Ytoaigcdoblnmhaa.PPn
open Go.RowKit Go.Proofs.YtoaigcdoblnmhaaW.PrintWords Go.Proofs.YtoaigcdoblnmhaaW.PrintLast Go.Proofs.YtoaigcdoblnmhaaW.PrintMore
attribute [local go_sem] max2_int min2_int max_two min_two max_three min_three max_four min_four
set_option linter.unusedVariables false
set_option linter.unusedSimpArgs false

def spec_l32Use.l0 : Nat → List (S31) → List Int → Int → Int → List Int → Int → Option (Int × List Int)
 | 0, _, _, _, _, _, _ => none
 | k + 1, x0, x1, x2, x8, x9, x10 => if x10 < (x1.length : Int) then (if 0 ≤ x10 then (if x10 < (x0.length : Int) then ((spec_l32On.f ((rd_T31 x0 x10).f0) ((rd_T31 x0 x10).f1) ((rd_T31 x0 x10).f2) ((rd_T31 x0 x10).f3) (rd x1 x10) x2).bind fun t211 => (if t211 = true then (if ((rd_T31 x0 x10).f2) > 0 then (if 0 ≤ (wrap64 (((rd_T31 x0 x10).f2) - 1)) then (if (wrap64 (((rd_T31 x0 x10).f2) - 1)) < (x9.length : Int) then (spec_l32Use.l0 k x0 x1 x2 (wrap64 (x8 + ((rd_T31 x0 x10).f1))) (x9.set ((wrap64 (((rd_T31 x0 x10).f2) - 1)) : Int).toNat (wrap64 ((rd x9 (wrap64 (((rd_T31 x0 x10).f2) - 1))) + 1))) (wrap64 (x10 + 1))) else (none)) else (none)) else (spec_l32Use.l0 k x0 x1 x2 (wrap64 (x8 + ((rd_T31 x0 x10).f1))) x9 (wrap64 (x10 + 1)))) else (spec_l32Use.l0 k x0 x1 x2 x8 x9 (wrap64 (x10 + 1))))) else (none)) else (none)) else (some (x8, x9))
def spec_l32Use.f (k : Nat) (l0 : List (S31)) (l1 : List Int) (a2 : Int) : Option (Int × List Int) := if 4 ≤ 35184372088832 then (spec_l32Use.l0 k l0 l1 a2 0 (List.replicate 4 0) 0) else (none)
theorem spec_l32Use.mono_l : ∀ k, (∀ y0 y1 y2 y3 y4 y5, LeO (spec_l32Use.l0 k y0 y1 y2 y3 y4 y5) (spec_l32Use.l0 (k + 1) y0 y1 y2 y3 y4 y5))
 | 0 => fun _ _ _ _ _ _ r h => by simp [spec_l32Use.l0] at h
 | k + 1 => by
  have ih0 := spec_l32Use.mono_l k
  intro y0 y1 y2 y3 y4 y5
  unfold spec_l32Use.l0
  repeat' first
  | (with_reducible exact ih0 _ _ _ _ _ _)
  | (with_reducible exact lR_q _)
  | (with_reducible exact lO_q _)
  | (with_reducible refine lI_q ?_ ?_)
  | (with_reducible refine lB_q ?_ (fun _ => ?_))
  | exact ih0 _ _ _ _ _ _
  | exact lO_q _
  | refine lI_q ?_ ?_
  | refine lB_q ?_ (fun _ => ?_)
theorem spec_l32Use.mono : ∀ a0 a1 a2 k, LeO (spec_l32Use.f k a0 a1 a2) (spec_l32Use.f (k + 1) a0 a1 a2) := by
 intro a0 a1 a2 k
 have ih0 := spec_l32Use.mono_l k
 unfold spec_l32Use.f
 repeat' first
  | (with_reducible exact ih0 _ _ _ _ _ _)
  | (with_reducible exact lR_q _)
  | (with_reducible exact lO_q _)
  | (with_reducible refine lI_q ?_ ?_)
  | (with_reducible refine lB_q ?_ (fun _ => ?_))
  | exact ih0 _ _ _ _ _ _
  | exact lO_q _
  | refine lI_q ?_ ?_
  | refine lB_q ?_ (fun _ => ?_)
def spec_l32Use.T6 : Bool × List (List Nat × List Nat) := (true, [([], []), ([], []), ([0, 1], [0, 1]), ([2], [2]), ([], []), ([], []), ([4, 5], [4, 5]), ([6], [6]), ([], []), ([3, 7, 8], [3, 7, 8])])
def spec_l32Use.B6 : List Nat := [0, 0, 3, 7, 0, 0, 48, 112, 0, 511]
theorem spec_l32Use.tab6 : rtab .any (opsOf Try.f38 6) = spec_l32Use.T6 := by kernel_rfl
theorem spec_l32Use.bits6 : waitsOk spec_l32Use.T6.2 spec_l32Use.B6 = true := by kernel_rfl
def spec_l32Use.T9 : Bool × List (List Nat × List Nat) := (true, [([], []), ([], []), ([], []), ([1, 2], [1, 2]), ([3], [3]), ([4], [4]), ([5], [5]), ([], []), ([], []), ([], []), ([8, 9], [8, 9]), ([10], [10]), ([11], [11]), ([12], [12]), ([7, 13], [7, 13]), ([14], [14]), ([15], [15]), ([0, 6, 0, 1, 2, 3, 4, 5, 6, 7, 8, 9, 10, 11, 12, 13, 14, 15, 16], [0, 6]), ([17, 16, 0, 1, 2, 3, 4, 5, 6, 7, 8, 9, 10, 11, 12, 13, 14, 15, 16], [16, 17])])
def spec_l32Use.B9 : List Nat := [0, 0, 0, 6, 14, 30, 62, 0, 0, 0, 768, 1792, 3840, 7936, 16256, 32640, 65408, 131071, 262143]
theorem spec_l32Use.tab9 : rtab .any (opsOf Try.f38 9) = spec_l32Use.T9 := by kernel_rfl
theorem spec_l32Use.bits9 : waitsOk spec_l32Use.T9.2 spec_l32Use.B9 = true := by kernel_rfl
set_option maxHeartbeats 8000000 in
set_option maxRecDepth 100000 in
theorem spec_l32Use.calls (k : Nat) (A0 : Option Addr) (c0 : Nat) (l0 : List (S31)) (A1 : Option Addr) (c1 : Nat) (l1 : List Int) (a2 : Int) (r1 : Int) (r2 : List Int) (w : World) (hr0 : Kd.C k31 w A0 l0.length l0) (hc0 : l0.length ≤ c0) (hr1 : Kd.C kI_q w A1 l1.length l1) (hc1 : l1.length ≤ c1) (h : spec_l32Use.f k l0 l1 a2 = some (r1, r2)) :
    Calls Try.prog 38 #[.slice A0 l0.length c0, .slice A1 l1.length c1, .int .i64 a2] w fun e w' => ∃ v1_ : Value, e = .returned (.tuple #[.int .i64 r1, v1_]) ∧ Kd.R kI_q 3 w' w.heap.size (fun _ => True) v1_ r2 ∧ Below w.heap.size w w' := by
 have hu31 := Try.underlying31
 have HR0 := Ae_q hr0
 have HC0 := Ae_q hc0
 clear hr0 hc0
 have HR1 := Ae_q hr1
 have HC1 := Ae_q hc1
 clear hr1 hc1
 have HB := Ae_q (bR_q w.heap.size w)
 have H : (if 4 ≤ 35184372088832 then (spec_l32Use.l0 k l0 l1 a2 0 (List.replicate 4 0) 0) else (none)) = some (r1, r2) := h
 clear h
 by_cases c4 : 4 ≤ 35184372088832
 ·rw [if_pos c4] at H
  have c4b0 := eq_true c4
  have c4b1 : decide (4 ≤ 35184372088832) = true := dT_q c4
  clear c4
  obtain ⟨y206, hy206⟩ : ∃ y_ : List Int, y_ = (List.replicate 4 0) := ⟨_, rfl⟩
  replace H : (spec_l32Use.l0 k l0 l1 a2 0 y206 0) = some (r1, r2) := by first | (rw [hy206]; with_reducible exact H) | (have H2_ := (oS_q _ _).symm.trans H; rw [hy206]; with_reducible exact H2_) | (have H2_ := (oS_q _ _).symm.trans H; with_reducible exact H2_) | with_reducible exact H | (rw [hy206]; exact H) | exact H
  have Ny206 := Ae_q hy206
  clear hy206
  have H' := Ae_q H
  clear H
  go_enter Try.func38, Try.ntmps38
  go_wp2_with (first | ((with_reducible refine gD_q (N := 11) rfl ?_); refine Kd.R_make kI_q _ 3 rfl (N := 11) rfl 24 _ _ rfl 4 rfl rfl Try.underlying24 (.int .i64 0) 8 info3 rfl (by decide) (by omega) 0 (ok := fun _ => True) (okp := fun _ => True) rfl (fun _ hk => hk) trivial (by omega) (by omega) (bR_q _ _) (nR_q _) ?_; intro v207 w5 ho6 hb hg_ hnew_; clear hg_ hnew_; (first | rw [← Ny206.out] at ho6 | (simp only [Int.reduceToNat] at ho6; rw [← Ny206.out] at ho6)); have n0_ := Ae_q (rL_q ho6 (bZ_q (bel HB.out))); have n1_ := Ae_q (bT_q (bel HB.out) hb); clear HB; have HO208 := n0_; have HB := n1_; clear n0_ n1_; clear hb ho6))
  go_loopg [8, 10] k (fun kq v8 v10 w' => ∃ (x8_1 : Int) (x9_1 : List Int) (x10_1 : Int), v8 = .int .i64 x8_1 ∧ v10 = .int .i64 x10_1 ∧ Aside0 (spec_l32Use.l0 kq l0 l1 a2 x8_1 x9_1 x10_1 = some (r1, r2)) ∧ Aside0 (kq ≤ k) ∧ Aside0 (Kd.R kI_q 3 w' w.heap.size (fun _ => True) v207 x9_1) ∧ Aside0 (Below w.heap.size w w'))
  case atStart => exact ⟨(0), (y206), (0), (by first | rfl | (simp; done) | (simp [*]; done)), (by first | rfl | (simp; done) | (simp [*]; done)), H', ⟨nR_q _⟩, ⟨by (with_reducible repeat (first | apply rA_q | apply rN_q | apply rD_q)); exact HO208.out⟩, ⟨bel HB.out⟩⟩
  case round =>
   clear H'
   try clear c1
   try clear p2
   try clear c3
   try clear c4
   try clear c4b0
   try clear c4b1
   obtain ⟨x8_1, x9_1, x10_1, rfl, rfl, HA, HK1, HO_9, HB⟩ := hrel
   cases gk with
   | zero => exact absurd HA.out (by simp [spec_l32Use.l0])
   | succ k1 =>
    have H := HA.out
    clear HA
    simp only [spec_l32Use.l0] at H
    by_cases c7 : x10_1 < (l1.length : Int)
    ·rw [if_pos c7] at H
     have c7b0 : decide (x10_1 < (l1.length : Int)) = true := dT_q c7
     clear c7
     by_cases c8 : 0 ≤ x10_1
     ·rw [if_pos c8] at H
      have c8b0 : decide (0 ≤ x10_1) = true := dT_q c8
      clear c8
      by_cases c9 : x10_1 < (l0.length : Int)
      ·rw [if_pos c9] at H
       have c9b0 : decide (x10_1 < (l0.length : Int)) = true := dT_q c9
       clear c9
       replace H := oB_q.mp H
       obtain ⟨t211, A100, H⟩ := H
       replace H : (if t211 = true then (if ((rd_T31 l0 x10_1).f2) > 0 then (if 0 ≤ (wrap64 (((rd_T31 l0 x10_1).f2) - 1)) then (if (wrap64 (((rd_T31 l0 x10_1).f2) - 1)) < (x9_1.length : Int) then (spec_l32Use.l0 k1 l0 l1 a2 (wrap64 (x8_1 + ((rd_T31 l0 x10_1).f1))) (x9_1.set ((wrap64 (((rd_T31 l0 x10_1).f2) - 1)) : Int).toNat (wrap64 ((rd x9_1 (wrap64 (((rd_T31 l0 x10_1).f2) - 1))) + 1))) (wrap64 (x10_1 + 1))) else (none)) else (none)) else (spec_l32Use.l0 k1 l0 l1 a2 (wrap64 (x8_1 + ((rd_T31 l0 x10_1).f1))) x9_1 (wrap64 (x10_1 + 1)))) else (spec_l32Use.l0 k1 l0 l1 a2 x8_1 x9_1 (wrap64 (x10_1 + 1)))) = some (r1, r2) := H
       have A10 := Ae_q A100
       clear A100
       by_cases c11 : t211 = true
       ·subst c11
        have H1 : (if ((rd_T31 l0 x10_1).f2) > 0 then (if 0 ≤ (wrap64 (((rd_T31 l0 x10_1).f2) - 1)) then (if (wrap64 (((rd_T31 l0 x10_1).f2) - 1)) < (x9_1.length : Int) then (spec_l32Use.l0 k1 l0 l1 a2 (wrap64 (x8_1 + ((rd_T31 l0 x10_1).f1))) (x9_1.set ((wrap64 (((rd_T31 l0 x10_1).f2) - 1)) : Int).toNat (wrap64 ((rd x9_1 (wrap64 (((rd_T31 l0 x10_1).f2) - 1))) + 1))) (wrap64 (x10_1 + 1))) else (none)) else (none)) else (spec_l32Use.l0 k1 l0 l1 a2 (wrap64 (x8_1 + ((rd_T31 l0 x10_1).f1))) x9_1 (wrap64 (x10_1 + 1)))) = some (r1, r2) := by rw [if_pos rfl] at H; exact H
        clear H
        have H := H1
        clear H1
        by_cases c12 : ((rd_T31 l0 x10_1).f2) > 0
        ·rw [if_pos c12] at H
         have c12b0 : decide (0 < ((rd_T31 l0 x10_1).f2)) = true := dT_q c12
         clear c12
         obtain ⟨ji13, hji13⟩ : ∃ j_ : Int, (wrap64 (((rd_T31 l0 x10_1).f2) - 1)) = j_ := ⟨_, rfl⟩
         replace H : (if 0 ≤ (ji13) then (if (ji13) < (x9_1.length : Int) then (spec_l32Use.l0 k1 l0 l1 a2 (wrap64 (x8_1 + ((rd_T31 l0 x10_1).f1))) (x9_1.set ((ji13) : Int).toNat (wrap64 ((rd x9_1 (ji13)) + 1))) (wrap64 (x10_1 + 1))) else (none)) else (none)) = some (r1, r2) := by first | (rw [hji13] at H; exact H) | (simp only [hji13] at H ⊢; exact H)
         (try rw [hji13] at A10)
         have hji13w : (IntKind.i64.wrap (((rd_T31 l0 x10_1).f2) - 1)) = ji13 := (i64_w _).trans hji13
         by_cases c14 : 0 ≤ (ji13)
         ·rw [if_pos c14] at H
          have c14b0 : decide (0 ≤ (ji13)) = true := dT_q c14
          clear c14
          by_cases c15 : (ji13) < (x9_1.length : Int)
          ·rw [if_pos c15] at H
           have c15b0 : decide ((ji13) < (x9_1.length : Int)) = true := dT_q c15
           clear c15
           obtain ⟨y217, hy217⟩ : ∃ y_ : List Int, y_ = (x9_1.set ((ji13) : Int).toNat (wrap64 ((rd x9_1 (ji13)) + 1))) := ⟨_, rfl⟩
           replace H : (spec_l32Use.l0 k1 l0 l1 a2 (wrap64 (x8_1 + ((rd_T31 l0 x10_1).f1))) y217 (wrap64 (x10_1 + 1))) = some (r1, r2) := by first | (rw [hy217]; with_reducible exact H) | (have H2_ := (oS_q _ _).symm.trans H; rw [hy217]; with_reducible exact H2_) | (have H2_ := (oS_q _ _).symm.trans H; with_reducible exact H2_) | with_reducible exact H | (rw [hy217]; exact H) | exact H
           have Ny217 := Ae_q hy217
           clear hy217
           have H' := Ae_q H
           clear H
           try go_wp2
           have n0_ := Ae_q (rD_q HO_9.out)
           have n1_ := Ae_q (bD_q HB.out)
           clear HO_9
           clear HB
           have HO_9 := n0_
           have HB := n1_
           clear n0_ n1_
           have p209 : 0 ≤ (x10_1 : Int) := oD_q (by assumption)
           have q209 : x10_1 < (l0.length : Int) := oD_q (by assumption)
           obtain ⟨ad209, A209_3, c209_3, e209, hx209_0, hx209_1, hx209_2, hx209_3, hl209_3, hi209_3⟩ := at_T31 HR0.out x10_1 p209 q209
           have hw209_3 := hx209_3
           have hw209_2 := hx209_2
           have hw209_1 := hx209_1
           have hw209_0 := hx209_0
           cases e209
           replace hx209_0 := (HB.out.cell (wL_q w _ hx209_0)).trans hx209_0
           replace hx209_1 := (HB.out.cell (wL_q w _ hx209_1)).trans hx209_1
           replace hx209_2 := (HB.out.cell (wL_q w _ hx209_2)).trans hx209_2
           replace hx209_3 := (HB.out.cell (wL_q w _ hx209_3)).trans hx209_3
           have HR209_3 := Ae_q hi209_3
           have HC209_3 := Ae_q hl209_3
           clear hi209_3 hl209_3
           replace p209 := eq_true p209
           replace q209 := eq_true q209
           have p210 : 0 ≤ (x10_1 : Int) := oD_q (by assumption)
           have q210 : x10_1 < (l1.length : Int) := oD_q (by assumption)
           obtain ⟨ad210, e210, hx210_0⟩ := aI_q HR1.out x10_1 p210 q210
           have hw210_0 := hx210_0
           cases e210
           replace hx210_0 := (HB.out.cell (wL_q w _ hx210_0)).trans hx210_0
           replace p210 := eq_true p210
           replace q210 := eq_true q210
           refine start_ (n := 10) (S := fun w' => w'.cell? (ad209.add ((x10_1).toNat * 4)) = some (.int .i64 ((rd_T31 l0 x10_1).f0)) ∧ w'.cell? ⟨(ad209.add ((x10_1).toNat * 4)).block, (ad209.add ((x10_1).toNat * 4)).off + 1, none⟩ = some (.int .i64 ((rd_T31 l0 x10_1).f1)) ∧ w'.cell? ⟨(ad209.add ((x10_1).toNat * 4)).block, (ad209.add ((x10_1).toNat * 4)).off + 2, none⟩ = some (.int .i64 ((rd_T31 l0 x10_1).f2)) ∧ w'.cell? ⟨(ad209.add ((x10_1).toNat * 4)).block, (ad209.add ((x10_1).toNat * 4)).off + 3, none⟩ = some (.slice A209_3 ((rd_T31 l0 x10_1).f3).length c209_3) ∧ w'.cell? (ad210.add (x10_1).toNat) = some (.int .i64 (rd l1 x10_1))) (ds := []) #[false, false, false, false, false, false, false, false, false, false] (by kernel_rfl) rfl rfl ⟨(cel HB.out hw209_0), (cel HB.out hw209_1), (cel HB.out hw209_2), (cel HB.out hw209_3), (cel HB.out hw210_0)⟩ (fun hHeld => ?_); refine with_tabW spec_l32Use.tab6 spec_l32Use.bits6 (fun HT_ HW_ => ?_)
           generalize wr.drew = w17 at HO_9 HB HR209_3 hx209_0 hx209_1 hx209_2 hx209_3 hx210_0 hHeld ⊢
           refine pure_ (i := 0) (N := some 18) (v := ?_) (a' := ?_) #[true, false, false, false, false, false, false, false, false, false] rfl rfl (any_of HT_.out (by kernel_rfl)) (fun _ _ _ h => h) (Or.inl ⟨by rfl, ?_⟩) ?_ ?_
           rotate_left
           ·intro w'
            go_simp
            with_reducible rfl
           rotate_left
           ·simp only [Act.put, sA_q, sZ_q, sS_q, i64_w, i32_w]
            rfl
           refine pure_ (i := 1) (N := some 19) (v := ?_) (a' := ?_) #[true, true, false, false, false, false, false, false, false, false] rfl rfl (any_of HT_.out (by kernel_rfl)) (fun _ _ _ h => h) (Or.inl ⟨by rfl, ?_⟩) ?_ ?_
           rotate_left
           ·intro w'
            go_simp
            with_reducible rfl
           rotate_left
           ·simp only [Act.put, sA_q, sZ_q, sS_q, i64_w, i32_w]
            rfl
           refine pure_ (i := 2) (N := some 20) (v := ?_) (a' := ?_) #[true, true, true, false, false, false, false, false, false, false] rfl rfl (any_of HT_.out (by kernel_rfl)) (fun _ _ _ h => h) (Or.inl ⟨by rfl, ?_⟩) ?_ ?_
           rotate_left
           ·intro w'
            go_simp
            with_reducible rfl
           rotate_left
           ·simp only [Act.put, sA_q, sZ_q, sS_q, i64_w, i32_w]
            rfl
           refine pure_ (i := 4) (N := some 22) (v := ?_) (a' := ?_) #[true, true, true, false, true, false, false, false, false, false] rfl rfl (any_of HT_.out (by kernel_rfl)) (fun _ _ _ h => h) (Or.inl ⟨by rfl, ?_⟩) ?_ ?_
           rotate_left
           ·intro w'
            go_simp
            with_reducible rfl
           rotate_left
           ·simp only [Act.put, sA_q, sZ_q, sS_q, i64_w, i32_w]
            rfl
           refine pure_ (i := 5) (N := some 23) (v := ?_) (a' := ?_) #[true, true, true, false, true, true, false, false, false, false] rfl rfl (any_of HT_.out (by kernel_rfl)) (fun _ _ _ h => h) (Or.inl ⟨by rfl, ?_⟩) ?_ ?_
           rotate_left
           ·intro w'
            go_simp
            with_reducible rfl
           rotate_left
           ·simp only [Act.put, sA_q, sZ_q, sS_q, i64_w, i32_w]
            rfl
           refine pure_ (i := 6) (N := some 24) (v := ?_) (a' := ?_) #[true, true, true, false, true, true, true, false, false, false] rfl rfl (any_of HT_.out (by kernel_rfl)) (fun _ _ _ h => h) (Or.inl ⟨by rfl, ?_⟩) ?_ ?_
           rotate_left
           ·intro w'
            go_simp
            with_reducible rfl
           rotate_left
           ·simp only [Act.put, sA_q, sZ_q, sS_q, i64_w, i32_w]
            rfl
           refine pure_ (i := 8) (N := some 26) (v := ?_) (a' := ?_) #[true, true, true, false, true, true, true, false, true, false] rfl rfl (any_of HT_.out (by kernel_rfl)) (fun _ _ _ h => h) (Or.inl ⟨by rfl, ?_⟩) ?_ ?_
           rotate_left
           ·intro w'
            go_simp
            with_reducible rfl
           rotate_left
           ·simp only [Act.put, sA_q, sZ_q, sS_q, i64_w, i32_w]
            rfl
           refine take_ (i := 3) (N := some 21) (v := ?_) (a' := ?_) #[true, true, true, true, true, true, true, false, true, false] rfl rfl (take_ofW HT_.out HW_.out (by kernel_rfl)) (fun _ _ _ h => h) (Or.inl ⟨by rfl, ?_⟩) hHeld ?_ ?_
           rotate_left
           ·rintro w' ⟨s0, s1, s2, s3, s4⟩
            go_simp
            with_reducible rfl
           rotate_left
           ·simp only [Act.put, sA_q, sZ_q, sS_q, i64_w, i32_w]
            rfl
           refine take_ (i := 7) (N := some 25) (v := ?_) (a' := ?_) #[true, true, true, true, true, true, true, true, true, false] rfl rfl (take_ofW HT_.out HW_.out (by kernel_rfl)) (fun _ _ _ h => h) (Or.inl ⟨by rfl, ?_⟩) hHeld ?_ ?_
           rotate_left
           ·rintro w' ⟨s0, s1, s2, s3, s4⟩
            go_simp
            with_reducible rfl
           rotate_left
           ·simp only [Act.put, sA_q, sZ_q, sS_q, i64_w, i32_w]
            rfl
           refine one_ (i := 9) (N := some 27) #[true, true, true, true, true, true, true, true, true, true] rfl rfl (one_of HT_.out (by kernel_rfl)) (by decide) (fun K hK => ?_)
           refine goes_ Try.func63 (by kernel_rfl) rfl #[.agg #[.int .i64 ((rd_T31 l0 x10_1).f0), .int .i64 ((rd_T31 l0 x10_1).f1), .int .i64 ((rd_T31 l0 x10_1).f2), .slice A209_3 ((rd_T31 l0 x10_1).f3).length c209_3], .int .i64 (rd l1 x10_1), .int .i64 a2] (by rfl) rfl rfl (by (try simp only [lM_q, lC_q, lN_q]); first | done | rfl | (simp only [lD_q, lT_q]; rfl)) ?_
           with_reducible refine (spec_l32On.calls ((rd_T31 l0 x10_1).f0) ((rd_T31 l0 x10_1).f1) ((rd_T31 l0 x10_1).f2) _ _ ((rd_T31 l0 x10_1).f3) (rd l1 x10_1) a2 true _ ?side1 ?side2 A10.out).mono ?_
           (case side1 => repeat (first | exact (cB_q HR209_3.out HB.out) | (with_reducible refine cA_q ?_ _) | (with_reducible refine cN_q ?_ _) | (with_reducible refine cD_q ?_)))
           (case side2 => exact HC209_3.out)
           rintro e w18 ⟨rfl, hb⟩
           refine ⟨_, rfl, ?_⟩
           have n0_ := Ae_q (rO_q (rup HO_9.out) hb)
           have n1_ := Ae_q (bT_q (bel HB.out) hb)
           clear HO_9
           clear HB
           have HO_9 := n0_
           have HB := n1_
           clear n0_ n1_
           (try clear hb)
           (try clear hb2)
           (try clear hk)
           (try clear hi)
           refine hK.out _ _ ⟨(cel HB.out hw209_0), (cel HB.out hw209_1), (cel HB.out hw209_2), (cel HB.out hw209_3), (cel HB.out hw210_0)⟩ (fun hHeld => ?_)
           clear hK K
           refine norm_ (a' := ?_) ?_ ?_
           rotate_left
           ·show Act.put _ (some 27) _ = _
            simp only [Act.put, sA_q, sZ_q, sS_q, i64_w, i32_w]
            rfl
           refine done_ (done_of HT_.out (by kernel_rfl)) ?_
           have p212 : 0 ≤ (x10_1 : Int) := oD_q (by assumption)
           have q212 : x10_1 < (l0.length : Int) := oD_q (by assumption)
           obtain ⟨ad212, A212_3, c212_3, e212, hx212_0, hx212_1, hx212_2, hx212_3, hl212_3, hi212_3⟩ := at_T31 HR0.out x10_1 p212 q212
           obtain rfl : ad209 = ad212 := (by injection e212)
           replace hx212_0 := (HB.out.cell (wL_q w _ hx212_0)).trans hx212_0
           replace hx212_1 := (HB.out.cell (wL_q w _ hx212_1)).trans hx212_1
           replace hx212_2 := (HB.out.cell (wL_q w _ hx212_2)).trans hx212_2
           replace hx212_3 := (HB.out.cell (wL_q w _ hx212_3)).trans hx212_3
           have HR212_3 := Ae_q hi212_3
           have HC212_3 := Ae_q hl212_3
           clear hi212_3 hl212_3
           replace p212 := eq_true p212
           replace q212 := eq_true q212
           have p213 : 0 ≤ (x10_1 : Int) := oD_q (by assumption)
           have q213 : x10_1 < (l0.length : Int) := oD_q (by assumption)
           obtain ⟨ad213, A213_3, c213_3, e213, hx213_0, hx213_1, hx213_2, hx213_3, hl213_3, hi213_3⟩ := at_T31 HR0.out x10_1 p213 q213
           obtain rfl : ad209 = ad213 := (by injection e213)
           replace hx213_0 := (HB.out.cell (wL_q w _ hx213_0)).trans hx213_0
           replace hx213_1 := (HB.out.cell (wL_q w _ hx213_1)).trans hx213_1
           replace hx213_2 := (HB.out.cell (wL_q w _ hx213_2)).trans hx213_2
           replace hx213_3 := (HB.out.cell (wL_q w _ hx213_3)).trans hx213_3
           have HR213_3 := Ae_q hi213_3
           have HC213_3 := Ae_q hl213_3
           clear hi213_3 hl213_3
           replace p213 := eq_true p213
           replace q213 := eq_true q213
           have ea_ := oI_q (hx212_3.symm.trans hx213_3)
           injection ea_ with ea_ en_ ec_
           subst ea_
           subst ec_
           clear en_
           try go_wp2
           have n0_ := Ae_q (rD_q HO_9.out)
           have n1_ := Ae_q (bD_q HB.out)
           clear HO_9
           clear HB
           have HO_9 := n0_
           have HB := n1_
           clear n0_ n1_
           have p214 : 0 ≤ (x10_1 : Int) := oD_q (by assumption)
           have q214 : x10_1 < (l0.length : Int) := oD_q (by assumption)
           obtain ⟨ad214, A214_3, c214_3, e214, hx214_0, hx214_1, hx214_2, hx214_3, hl214_3, hi214_3⟩ := at_T31 HR0.out x10_1 p214 q214
           have hw214_3 := hx214_3
           have hw214_2 := hx214_2
           have hw214_1 := hx214_1
           have hw214_0 := hx214_0
           obtain rfl : ad209 = ad214 := (by injection e214)
           replace hx214_0 := (HB.out.cell (wL_q w _ hx214_0)).trans hx214_0
           replace hx214_1 := (HB.out.cell (wL_q w _ hx214_1)).trans hx214_1
           replace hx214_2 := (HB.out.cell (wL_q w _ hx214_2)).trans hx214_2
           replace hx214_3 := (HB.out.cell (wL_q w _ hx214_3)).trans hx214_3
           have HR214_3 := Ae_q hi214_3
           have HC214_3 := Ae_q hl214_3
           clear hi214_3 hl214_3
           replace p214 := eq_true p214
           replace q214 := eq_true q214
           have p215 : 0 ≤ (x10_1 : Int) := oD_q (by assumption)
           have q215 : x10_1 < (l0.length : Int) := oD_q (by assumption)
           obtain ⟨ad215, A215_3, c215_3, e215, hx215_0, hx215_1, hx215_2, hx215_3, hl215_3, hi215_3⟩ := at_T31 HR0.out x10_1 p215 q215
           have hw215_3 := hx215_3
           have hw215_2 := hx215_2
           have hw215_1 := hx215_1
           have hw215_0 := hx215_0
           obtain rfl : ad209 = ad215 := (by injection e215)
           replace hx215_0 := (HB.out.cell (wL_q w _ hx215_0)).trans hx215_0
           replace hx215_1 := (HB.out.cell (wL_q w _ hx215_1)).trans hx215_1
           replace hx215_2 := (HB.out.cell (wL_q w _ hx215_2)).trans hx215_2
           replace hx215_3 := (HB.out.cell (wL_q w _ hx215_3)).trans hx215_3
           have HR215_3 := Ae_q hi215_3
           have HC215_3 := Ae_q hl215_3
           clear hi215_3 hl215_3
           replace p215 := eq_true p215
           replace q215 := eq_true q215
           have ea_ := oI_q (hx214_3.symm.trans hx215_3)
           injection ea_ with ea_ en_ ec_
           subst ea_
           subst ec_
           clear en_
           obtain ⟨Ao20, co20, eo20⟩ := rS_q HO_9.out
           (first | subst eo20 | (injection eo20 with f1_ f2_ f3_; have f4_ := f1_.symm; have f5_ := f3_.symm; clear f1_ f2_ f3_; subst f4_; subst f5_))
           have p216 : 0 ≤ ((ji13) : Int) := oD_q (by assumption)
           have q216 : (ji13) < (x9_1.length : Int) := oD_q (by assumption)
           obtain ⟨ad216, e216, hx216_0⟩ := aI_q (rR_q HO_9.out).2.2 (ji13) p216 q216
           cases e216
           replace p216 := eq_true p216
           replace q216 := eq_true q216
           have p16 : 0 ≤ ((ji13) : Int) := oD_q (by assumption)
           have q16 : ((ji13) : Int) < ((x9_1.length : Int) : Int) := oD_q (by assumption)
           obtain ⟨go16, co16, eo16, gb16, gl16, cl16, HG16⟩ := Kd.R_form HO_9.out (by omega)
           (first | cases eo16 | (injection eo16 with ea_ en_ ec_; (first | subst ea_ | (injection ea_ with ea_; subst ea_)); subst ec_; clear en_))
           have GB16 := Ae_q gb16
           have GG16 := Ae_q HG16
           clear gb16 gl16 HG16
           (first | simp only [add_plain] at hx216_0 | skip)
           obtain ⟨hx16_0, hf16_0⟩ := Kd.R_celln 0 HO_9.out ((ji13) : Int) p16 q16
           replace p16 := eq_true p16
           replace q16 := eq_true q16
           have HP21 := Kd.R_putn HO_9.out ((ji13) : Int) (wrap64 ((rd x9_1 (ji13)) + 1))
           rw [← Ny217.out] at HP21
           have HQ21 := Ae_q HP21
           clear HP21
           refine start_ (n := 19) (S := fun w' => w'.cell? (ad209.add ((x10_1).toNat * 4)) = some (.int .i64 ((rd_T31 l0 x10_1).f0)) ∧ w'.cell? ⟨(ad209.add ((x10_1).toNat * 4)).block, (ad209.add ((x10_1).toNat * 4)).off + 1, none⟩ = some (.int .i64 ((rd_T31 l0 x10_1).f1)) ∧ w'.cell? ⟨(ad209.add ((x10_1).toNat * 4)).block, (ad209.add ((x10_1).toNat * 4)).off + 2, none⟩ = some (.int .i64 ((rd_T31 l0 x10_1).f2)) ∧ w'.cell? ⟨(ad209.add ((x10_1).toNat * 4)).block, (ad209.add ((x10_1).toNat * 4)).off + 3, none⟩ = some (.slice A214_3 ((rd_T31 l0 x10_1).f3).length c214_3) ∧ w'.cell? (ad209.add ((x10_1).toNat * 4)) = some (.int .i64 ((rd_T31 l0 x10_1).f0)) ∧ w'.cell? ⟨(ad209.add ((x10_1).toNat * 4)).block, (ad209.add ((x10_1).toNat * 4)).off + 1, none⟩ = some (.int .i64 ((rd_T31 l0 x10_1).f1)) ∧ w'.cell? ⟨(ad209.add ((x10_1).toNat * 4)).block, (ad209.add ((x10_1).toNat * 4)).off + 2, none⟩ = some (.int .i64 ((rd_T31 l0 x10_1).f2)) ∧ w'.cell? ⟨(ad209.add ((x10_1).toNat * 4)).block, (ad209.add ((x10_1).toNat * 4)).off + 3, none⟩ = some (.slice A214_3 ((rd_T31 l0 x10_1).f3).length c214_3) ∧ w'.cell? ⟨go16, ((ji13)).toNat, none⟩ = some (.int .i64 (rd x9_1 (ji13)))) (ds := [18]) #[false, false, false, false, false, false, false, false, false, false, false, false, false, false, false, false, false, false, false] (by kernel_rfl) rfl rfl ⟨(cel HB.out hw214_0), (cel HB.out hw214_1), (cel HB.out hw214_2), (cel HB.out hw214_3), (cel HB.out hw215_0), (cel HB.out hw215_1), (cel HB.out hw215_2), (cel HB.out hw215_3), hx216_0⟩ (fun hHeld => ?_); refine with_tabW spec_l32Use.tab9 spec_l32Use.bits9 (fun HT_ HW_ => ?_)
           generalize w18.drew = w19 at HO_9 HB GG16 HQ21 HR214_3 HR215_3 hf16_0 hx16_0 hx214_0 hx214_1 hx214_2 hx214_3 hx215_0 hx215_1 hx215_2 hx215_3 hx216_0 hHeld ⊢
           refine pure_ (i := 0) (N := some 41) (v := ?_) (a' := ?_) #[true, false, false, false, false, false, false, false, false, false, false, false, false, false, false, false, false, false, false] rfl rfl (any_of HT_.out (by kernel_rfl)) (fun _ _ _ h => h) (Or.inl ⟨by rfl, ?_⟩) ?_ ?_
           rotate_left
           ·intro w'
            go_simp
            with_reducible rfl
           rotate_left
           ·simp only [Act.put, sA_q, sZ_q, sS_q, i64_w, i32_w]
            rfl
           refine pure_ (i := 1) (N := some 42) (v := ?_) (a' := ?_) #[true, true, false, false, false, false, false, false, false, false, false, false, false, false, false, false, false, false, false] rfl rfl (any_of HT_.out (by kernel_rfl)) (fun _ _ _ h => h) (Or.inl ⟨by rfl, ?_⟩) ?_ ?_
           rotate_left
           ·intro w'
            go_simp
            with_reducible rfl
           rotate_left
           ·simp only [Act.put, sA_q, sZ_q, sS_q, i64_w, i32_w]
            rfl
           refine pure_ (i := 2) (N := some 43) (v := ?_) (a' := ?_) #[true, true, true, false, false, false, false, false, false, false, false, false, false, false, false, false, false, false, false] rfl rfl (any_of HT_.out (by kernel_rfl)) (fun _ _ _ h => h) (Or.inl ⟨by rfl, ?_⟩) ?_ ?_
           rotate_left
           ·intro w'
            go_simp
            with_reducible rfl
           rotate_left
           ·simp only [Act.put, sA_q, sZ_q, sS_q, i64_w, i32_w]
            rfl
           refine pure_ (i := 3) (N := some 44) (v := ?_) (a' := ?_) #[true, true, true, true, false, false, false, false, false, false, false, false, false, false, false, false, false, false, false] rfl rfl (any_of HT_.out (by kernel_rfl)) (fun _ _ _ h => h) (Or.inl ⟨by rfl, ?_⟩) ?_ ?_
           rotate_left
           ·intro w'
            go_simp
            with_reducible rfl
           rotate_left
           ·simp only [Act.put, sA_q, sZ_q, sS_q, i64_w, i32_w]
            rfl
           refine pure_ (i := 4) (N := some 45) (v := ?_) (a' := ?_) #[true, true, true, true, true, false, false, false, false, false, false, false, false, false, false, false, false, false, false] rfl rfl (any_of HT_.out (by kernel_rfl)) (fun _ _ _ h => h) (Or.inl ⟨by rfl, ?_⟩) ?_ ?_
           rotate_left
           ·intro w'
            go_simp
            with_reducible rfl
           rotate_left
           ·simp only [Act.put, sA_q, sZ_q, sS_q, i64_w, i32_w]
            rfl
           refine pure_ (i := 7) (N := some 48) (v := ?_) (a' := ?_) #[true, true, true, true, true, false, false, true, false, false, false, false, false, false, false, false, false, false, false] rfl rfl (any_of HT_.out (by kernel_rfl)) (fun _ _ _ h => h) (Or.inl ⟨by rfl, ?_⟩) ?_ ?_
           rotate_left
           ·intro w'
            go_simp
            with_reducible rfl
           rotate_left
           ·simp only [Act.put, sA_q, sZ_q, sS_q, i64_w, i32_w]
            rfl
           refine pure_ (i := 8) (N := some 49) (v := ?_) (a' := ?_) #[true, true, true, true, true, false, false, true, true, false, false, false, false, false, false, false, false, false, false] rfl rfl (any_of HT_.out (by kernel_rfl)) (fun _ _ _ h => h) (Or.inl ⟨by rfl, ?_⟩) ?_ ?_
           rotate_left
           ·intro w'
            go_simp
            with_reducible rfl
           rotate_left
           ·simp only [Act.put, sA_q, sZ_q, sS_q, i64_w, i32_w]
            rfl
           refine pure_ (i := 9) (N := some 50) (v := ?_) (a' := ?_) #[true, true, true, true, true, false, false, true, true, true, false, false, false, false, false, false, false, false, false] rfl rfl (any_of HT_.out (by kernel_rfl)) (fun _ _ _ h => h) (Or.inl ⟨by rfl, ?_⟩) ?_ ?_
           rotate_left
           ·intro w'
            go_simp
            with_reducible rfl
           rotate_left
           ·simp only [Act.put, sA_q, sZ_q, sS_q, i64_w, i32_w]
            rfl
           refine pure_ (i := 10) (N := some 51) (v := ?_) (a' := ?_) #[true, true, true, true, true, false, false, true, true, true, true, false, false, false, false, false, false, false, false] rfl rfl (any_of HT_.out (by kernel_rfl)) (fun _ _ _ h => h) (Or.inl ⟨by rfl, ?_⟩) ?_ ?_
           rotate_left
           ·intro w'
            go_simp
            with_reducible rfl
           rotate_left
           ·simp only [Act.put, sA_q, sZ_q, sS_q, i64_w, i32_w]
            rfl
           refine pure_ (i := 11) (N := some 52) (v := ?_) (a' := ?_) #[true, true, true, true, true, false, false, true, true, true, true, true, false, false, false, false, false, false, false] rfl rfl (any_of HT_.out (by kernel_rfl)) (fun _ _ _ h => h) (Or.inl ⟨by rfl, ?_⟩) ?_ ?_
           rotate_left
           ·intro w'
            go_simp
            with_reducible rfl
           rotate_left
           ·simp only [Act.put, sA_q, sZ_q, sS_q, i64_w, i32_w]
            rfl
           refine take_ (i := 5) (N := some 46) (v := ?_) (a' := ?_) #[true, true, true, true, true, true, false, true, true, true, true, true, false, false, false, false, false, false, false] rfl rfl (take_ofW HT_.out HW_.out (by kernel_rfl)) (fun _ _ _ h => h) (Or.inl ⟨by rfl, ?_⟩) hHeld ?_ ?_
           rotate_left
           ·rintro w' ⟨s0, s1, s2, s3, s4, s5, s6, s7, s8⟩
            go_simp
            with_reducible rfl
           rotate_left
           ·simp only [Act.put, sA_q, sZ_q, sS_q, i64_w, i32_w]
            rfl
           refine pure_ (i := 6) (N := some 47) (v := ?_) (a' := ?_) #[true, true, true, true, true, true, true, true, true, true, true, true, false, false, false, false, false, false, false] rfl rfl (any_of HT_.out (by kernel_rfl)) (fun _ _ _ h => h) (Or.inl ⟨by rfl, ?_⟩) ?_ ?_
           rotate_left
           ·intro w'
            go_simp
            with_reducible rfl
           rotate_left
           ·simp only [Act.put, sA_q, sZ_q, sS_q, i64_w, i32_w]
            rfl
           refine take_ (i := 12) (N := some 53) (v := ?_) (a' := ?_) #[true, true, true, true, true, true, true, true, true, true, true, true, true, false, false, false, false, false, false] rfl rfl (take_ofW HT_.out HW_.out (by kernel_rfl)) (fun _ _ _ h => h) (Or.inl ⟨by rfl, ?_⟩) hHeld ?_ ?_
           rotate_left
           ·rintro w' ⟨s0, s1, s2, s3, s4, s5, s6, s7, s8⟩
            go_simp
            with_reducible rfl
           rotate_left
           ·simp only [Act.put, sA_q, sZ_q, sS_q, i64_w, i32_w]
            rfl
           refine pure_ (i := 13) (N := some 54) (v := ?_) (a' := ?_) #[true, true, true, true, true, true, true, true, true, true, true, true, true, true, false, false, false, false, false] rfl rfl (any_of HT_.out (by kernel_rfl)) (fun _ _ _ h => h) (Or.inl ⟨by rfl, ?_⟩) ?_ ?_
           rotate_left
           ·intro w'
            go_simp
            with_reducible rfl
           rotate_left
           ·simp only [Act.put, sA_q, sZ_q, sS_q, i64_w, i32_w]
            rfl
           refine pure_ (i := 14) (N := some 55) (v := ?_) (a' := ?_) #[true, true, true, true, true, true, true, true, true, true, true, true, true, true, true, false, false, false, false] rfl rfl (any_of HT_.out (by kernel_rfl)) (fun _ _ _ h => h) (Or.inl ⟨by rfl, ?_⟩) ?_ ?_
           rotate_left
           ·intro w'
            go_simp
            with_reducible rfl
           rotate_left
           ·simp only [Act.put, sA_q, sZ_q, sS_q, i64_w, i32_w]
            rfl
           refine take_ (i := 15) (N := some 56) (v := ?_) (a' := ?_) #[true, true, true, true, true, true, true, true, true, true, true, true, true, true, true, true, false, false, false] rfl rfl (take_ofW HT_.out HW_.out (by kernel_rfl)) (fun _ _ _ h => h) (Or.inl ⟨by rfl, ?_⟩) hHeld ?_ ?_
           rotate_left
           ·rintro w' ⟨s0, s1, s2, s3, s4, s5, s6, s7, s8⟩
            go_simp
            with_reducible rfl
           rotate_left
           ·simp only [Act.put, sA_q, sZ_q, sS_q, i64_w, i32_w]
            rfl
           refine pure_ (i := 16) (N := some 57) (v := ?_) (a' := ?_) #[true, true, true, true, true, true, true, true, true, true, true, true, true, true, true, true, true, false, false] rfl rfl (any_of HT_.out (by kernel_rfl)) (fun _ _ _ h => h) (Or.inl ⟨by rfl, ?_⟩) ?_ ?_
           rotate_left
           ·intro w'
            go_simp
            with_reducible rfl
           rotate_left
           ·simp only [Act.put, sA_q, sZ_q, sS_q, i64_w, i32_w]
            rfl
           refine pure_ (i := 17) (N := some 58) (v := ?_) (a' := ?_) #[true, true, true, true, true, true, true, true, true, true, true, true, true, true, true, true, true, true, false] rfl rfl (any_of HT_.out (by kernel_rfl)) (fun _ _ _ h => h) (Or.inl ⟨by rfl, ?_⟩) ?_ ?_
           rotate_left
           ·intro w'
            go_simp
            with_reducible rfl
           rotate_left
           ·simp only [Act.put, sA_q, sZ_q, sS_q, i64_w, i32_w]
            rfl
           refine last_ (i := 18) (N := none) #[true, true, true, true, true, true, true, true, true, true, true, true, true, true, true, true, true, true, true] rfl rfl (one_of HT_.out (by kernel_rfl)) (by decide) (fun K hK => ?_)
           refine skip_ (w1 := ?_) (by rfl) rfl ?_ ?_
           rotate_left
           ·go_simp
            rfl
           refine hK.out _ _ ?_
           clear hK K
           refine done_ (done_of HT_.out (by kernel_rfl)) ?_
           try go_wp2
           go_roundg k1
           case measure => have := HK1.out; omega
           case rel => exact ⟨(wrap64 (x8_1 + ((rd_T31 l0 x10_1).f1))), (y217), (wrap64 (x10_1 + 1)), (by first | rfl | (simp; done) | (simp [*]; done)), (by first | rfl | (simp; done) | (simp [*]; done)), H', ⟨by have := HK1.out; omega⟩, ⟨by (with_reducible repeat (first | apply rA_q | apply rN_q | apply rD_q)); exact HQ21.out⟩, ⟨by repeat (first | (with_reducible first | exact HB.out | apply bA_q | apply pB_q | apply bD_q | refine bS_q ?_ GB16.out) | exact HB.out)⟩⟩
          rw [if_neg c15] at H
          exact absurd H (by simp)
         rw [if_neg c14] at H
         exact absurd H (by simp)
        rw [if_neg c12] at H
        have c12b0 : decide (0 < ((rd_T31 l0 x10_1).f2)) = false := dF_q c12
        clear c12
        have H' := Ae_q H
        clear H
        try go_wp2
        have n0_ := Ae_q (rD_q HO_9.out)
        have n1_ := Ae_q (bD_q HB.out)
        clear HO_9
        clear HB
        have HO_9 := n0_
        have HB := n1_
        clear n0_ n1_
        have p209 : 0 ≤ (x10_1 : Int) := oD_q (by assumption)
        have q209 : x10_1 < (l0.length : Int) := oD_q (by assumption)
        obtain ⟨ad209, A209_3, c209_3, e209, hx209_0, hx209_1, hx209_2, hx209_3, hl209_3, hi209_3⟩ := at_T31 HR0.out x10_1 p209 q209
        have hw209_3 := hx209_3
        have hw209_2 := hx209_2
        have hw209_1 := hx209_1
        have hw209_0 := hx209_0
        cases e209
        replace hx209_0 := (HB.out.cell (wL_q w _ hx209_0)).trans hx209_0
        replace hx209_1 := (HB.out.cell (wL_q w _ hx209_1)).trans hx209_1
        replace hx209_2 := (HB.out.cell (wL_q w _ hx209_2)).trans hx209_2
        replace hx209_3 := (HB.out.cell (wL_q w _ hx209_3)).trans hx209_3
        have HR209_3 := Ae_q hi209_3
        have HC209_3 := Ae_q hl209_3
        clear hi209_3 hl209_3
        replace p209 := eq_true p209
        replace q209 := eq_true q209
        have p210 : 0 ≤ (x10_1 : Int) := oD_q (by assumption)
        have q210 : x10_1 < (l1.length : Int) := oD_q (by assumption)
        obtain ⟨ad210, e210, hx210_0⟩ := aI_q HR1.out x10_1 p210 q210
        have hw210_0 := hx210_0
        cases e210
        replace hx210_0 := (HB.out.cell (wL_q w _ hx210_0)).trans hx210_0
        replace p210 := eq_true p210
        replace q210 := eq_true q210
        refine start_ (n := 10) (S := fun w' => w'.cell? (ad209.add ((x10_1).toNat * 4)) = some (.int .i64 ((rd_T31 l0 x10_1).f0)) ∧ w'.cell? ⟨(ad209.add ((x10_1).toNat * 4)).block, (ad209.add ((x10_1).toNat * 4)).off + 1, none⟩ = some (.int .i64 ((rd_T31 l0 x10_1).f1)) ∧ w'.cell? ⟨(ad209.add ((x10_1).toNat * 4)).block, (ad209.add ((x10_1).toNat * 4)).off + 2, none⟩ = some (.int .i64 ((rd_T31 l0 x10_1).f2)) ∧ w'.cell? ⟨(ad209.add ((x10_1).toNat * 4)).block, (ad209.add ((x10_1).toNat * 4)).off + 3, none⟩ = some (.slice A209_3 ((rd_T31 l0 x10_1).f3).length c209_3) ∧ w'.cell? (ad210.add (x10_1).toNat) = some (.int .i64 (rd l1 x10_1))) (ds := []) #[false, false, false, false, false, false, false, false, false, false] (by kernel_rfl) rfl rfl ⟨(cel HB.out hw209_0), (cel HB.out hw209_1), (cel HB.out hw209_2), (cel HB.out hw209_3), (cel HB.out hw210_0)⟩ (fun hHeld => ?_); refine with_tabW spec_l32Use.tab6 spec_l32Use.bits6 (fun HT_ HW_ => ?_)
        generalize wr.drew = w22 at HO_9 HB HR209_3 hx209_0 hx209_1 hx209_2 hx209_3 hx210_0 hHeld ⊢
        refine pure_ (i := 0) (N := some 18) (v := ?_) (a' := ?_) #[true, false, false, false, false, false, false, false, false, false] rfl rfl (any_of HT_.out (by kernel_rfl)) (fun _ _ _ h => h) (Or.inl ⟨by rfl, ?_⟩) ?_ ?_
        rotate_left
        ·intro w'
         go_simp
         with_reducible rfl
        rotate_left
        ·simp only [Act.put, sA_q, sZ_q, sS_q, i64_w, i32_w]
         rfl
        refine pure_ (i := 1) (N := some 19) (v := ?_) (a' := ?_) #[true, true, false, false, false, false, false, false, false, false] rfl rfl (any_of HT_.out (by kernel_rfl)) (fun _ _ _ h => h) (Or.inl ⟨by rfl, ?_⟩) ?_ ?_
        rotate_left
        ·intro w'
         go_simp
         with_reducible rfl
        rotate_left
        ·simp only [Act.put, sA_q, sZ_q, sS_q, i64_w, i32_w]
         rfl
        refine pure_ (i := 2) (N := some 20) (v := ?_) (a' := ?_) #[true, true, true, false, false, false, false, false, false, false] rfl rfl (any_of HT_.out (by kernel_rfl)) (fun _ _ _ h => h) (Or.inl ⟨by rfl, ?_⟩) ?_ ?_
        rotate_left
        ·intro w'
         go_simp
         with_reducible rfl
        rotate_left
        ·simp only [Act.put, sA_q, sZ_q, sS_q, i64_w, i32_w]
         rfl
        refine pure_ (i := 4) (N := some 22) (v := ?_) (a' := ?_) #[true, true, true, false, true, false, false, false, false, false] rfl rfl (any_of HT_.out (by kernel_rfl)) (fun _ _ _ h => h) (Or.inl ⟨by rfl, ?_⟩) ?_ ?_
        rotate_left
        ·intro w'
         go_simp
         with_reducible rfl
        rotate_left
        ·simp only [Act.put, sA_q, sZ_q, sS_q, i64_w, i32_w]
         rfl
        refine pure_ (i := 5) (N := some 23) (v := ?_) (a' := ?_) #[true, true, true, false, true, true, false, false, false, false] rfl rfl (any_of HT_.out (by kernel_rfl)) (fun _ _ _ h => h) (Or.inl ⟨by rfl, ?_⟩) ?_ ?_
        rotate_left
        ·intro w'
         go_simp
         with_reducible rfl
        rotate_left
        ·simp only [Act.put, sA_q, sZ_q, sS_q, i64_w, i32_w]
         rfl
        refine pure_ (i := 6) (N := some 24) (v := ?_) (a' := ?_) #[true, true, true, false, true, true, true, false, false, false] rfl rfl (any_of HT_.out (by kernel_rfl)) (fun _ _ _ h => h) (Or.inl ⟨by rfl, ?_⟩) ?_ ?_
        rotate_left
        ·intro w'
         go_simp
         with_reducible rfl
        rotate_left
        ·simp only [Act.put, sA_q, sZ_q, sS_q, i64_w, i32_w]
         rfl
        refine pure_ (i := 8) (N := some 26) (v := ?_) (a' := ?_) #[true, true, true, false, true, true, true, false, true, false] rfl rfl (any_of HT_.out (by kernel_rfl)) (fun _ _ _ h => h) (Or.inl ⟨by rfl, ?_⟩) ?_ ?_
        rotate_left
        ·intro w'
         go_simp
         with_reducible rfl
        rotate_left
        ·simp only [Act.put, sA_q, sZ_q, sS_q, i64_w, i32_w]
         rfl
        refine take_ (i := 3) (N := some 21) (v := ?_) (a' := ?_) #[true, true, true, true, true, true, true, false, true, false] rfl rfl (take_ofW HT_.out HW_.out (by kernel_rfl)) (fun _ _ _ h => h) (Or.inl ⟨by rfl, ?_⟩) hHeld ?_ ?_
        rotate_left
        ·rintro w' ⟨s0, s1, s2, s3, s4⟩
         go_simp
         with_reducible rfl
        rotate_left
        ·simp only [Act.put, sA_q, sZ_q, sS_q, i64_w, i32_w]
         rfl
        refine take_ (i := 7) (N := some 25) (v := ?_) (a' := ?_) #[true, true, true, true, true, true, true, true, true, false] rfl rfl (take_ofW HT_.out HW_.out (by kernel_rfl)) (fun _ _ _ h => h) (Or.inl ⟨by rfl, ?_⟩) hHeld ?_ ?_
        rotate_left
        ·rintro w' ⟨s0, s1, s2, s3, s4⟩
         go_simp
         with_reducible rfl
        rotate_left
        ·simp only [Act.put, sA_q, sZ_q, sS_q, i64_w, i32_w]
         rfl
        refine one_ (i := 9) (N := some 27) #[true, true, true, true, true, true, true, true, true, true] rfl rfl (one_of HT_.out (by kernel_rfl)) (by decide) (fun K hK => ?_)
        refine goes_ Try.func63 (by kernel_rfl) rfl #[.agg #[.int .i64 ((rd_T31 l0 x10_1).f0), .int .i64 ((rd_T31 l0 x10_1).f1), .int .i64 ((rd_T31 l0 x10_1).f2), .slice A209_3 ((rd_T31 l0 x10_1).f3).length c209_3], .int .i64 (rd l1 x10_1), .int .i64 a2] (by rfl) rfl rfl (by (try simp only [lM_q, lC_q, lN_q]); first | done | rfl | (simp only [lD_q, lT_q]; rfl)) ?_
        with_reducible refine (spec_l32On.calls ((rd_T31 l0 x10_1).f0) ((rd_T31 l0 x10_1).f1) ((rd_T31 l0 x10_1).f2) _ _ ((rd_T31 l0 x10_1).f3) (rd l1 x10_1) a2 true _ ?side1 ?side2 A10.out).mono ?_
        (case side1 => repeat (first | exact (cB_q HR209_3.out HB.out) | (with_reducible refine cA_q ?_ _) | (with_reducible refine cN_q ?_ _) | (with_reducible refine cD_q ?_)))
        (case side2 => exact HC209_3.out)
        rintro e w23 ⟨rfl, hb⟩
        refine ⟨_, rfl, ?_⟩
        have n0_ := Ae_q (rO_q (rup HO_9.out) hb)
        have n1_ := Ae_q (bT_q (bel HB.out) hb)
        clear HO_9
        clear HB
        have HO_9 := n0_
        have HB := n1_
        clear n0_ n1_
        (try clear hb)
        (try clear hb2)
        (try clear hk)
        (try clear hi)
        refine hK.out _ _ ⟨(cel HB.out hw209_0), (cel HB.out hw209_1), (cel HB.out hw209_2), (cel HB.out hw209_3), (cel HB.out hw210_0)⟩ (fun hHeld => ?_)
        clear hK K
        refine norm_ (a' := ?_) ?_ ?_
        rotate_left
        ·show Act.put _ (some 27) _ = _
         simp only [Act.put, sA_q, sZ_q, sS_q, i64_w, i32_w]
         rfl
        refine done_ (done_of HT_.out (by kernel_rfl)) ?_
        have p212 : 0 ≤ (x10_1 : Int) := oD_q (by assumption)
        have q212 : x10_1 < (l0.length : Int) := oD_q (by assumption)
        obtain ⟨ad212, A212_3, c212_3, e212, hx212_0, hx212_1, hx212_2, hx212_3, hl212_3, hi212_3⟩ := at_T31 HR0.out x10_1 p212 q212
        obtain rfl : ad209 = ad212 := (by injection e212)
        replace hx212_0 := (HB.out.cell (wL_q w _ hx212_0)).trans hx212_0
        replace hx212_1 := (HB.out.cell (wL_q w _ hx212_1)).trans hx212_1
        replace hx212_2 := (HB.out.cell (wL_q w _ hx212_2)).trans hx212_2
        replace hx212_3 := (HB.out.cell (wL_q w _ hx212_3)).trans hx212_3
        have HR212_3 := Ae_q hi212_3
        have HC212_3 := Ae_q hl212_3
        clear hi212_3 hl212_3
        replace p212 := eq_true p212
        replace q212 := eq_true q212
        have p213 : 0 ≤ (x10_1 : Int) := oD_q (by assumption)
        have q213 : x10_1 < (l0.length : Int) := oD_q (by assumption)
        obtain ⟨ad213, A213_3, c213_3, e213, hx213_0, hx213_1, hx213_2, hx213_3, hl213_3, hi213_3⟩ := at_T31 HR0.out x10_1 p213 q213
        obtain rfl : ad209 = ad213 := (by injection e213)
        replace hx213_0 := (HB.out.cell (wL_q w _ hx213_0)).trans hx213_0
        replace hx213_1 := (HB.out.cell (wL_q w _ hx213_1)).trans hx213_1
        replace hx213_2 := (HB.out.cell (wL_q w _ hx213_2)).trans hx213_2
        replace hx213_3 := (HB.out.cell (wL_q w _ hx213_3)).trans hx213_3
        have HR213_3 := Ae_q hi213_3
        have HC213_3 := Ae_q hl213_3
        clear hi213_3 hl213_3
        replace p213 := eq_true p213
        replace q213 := eq_true q213
        have ea_ := oI_q (hx212_3.symm.trans hx213_3)
        injection ea_ with ea_ en_ ec_
        subst ea_
        subst ec_
        clear en_
        try go_wp2
        go_roundg k1
        case measure => have := HK1.out; omega
        case rel => exact ⟨(wrap64 (x8_1 + ((rd_T31 l0 x10_1).f1))), (x9_1), (wrap64 (x10_1 + 1)), (by first | rfl | (simp; done) | (simp [*]; done)), (by first | rfl | (simp; done) | (simp [*]; done)), H', ⟨by have := HK1.out; omega⟩, ⟨by (with_reducible repeat (first | apply rA_q | apply rN_q | apply rD_q)); exact HO_9.out⟩, ⟨bel HB.out⟩⟩
       replace c11 := fM_q.mpr c11
       subst c11
       have H1 : (spec_l32Use.l0 k1 l0 l1 a2 x8_1 x9_1 (wrap64 (x10_1 + 1))) = some (r1, r2) := by rw [if_neg (show ¬ (false = true) by decide)] at H; exact H
       clear H
       have H := H1
       clear H1
       have H' := Ae_q H
       clear H
       try go_wp2
       have n0_ := Ae_q (rD_q HO_9.out)
       have n1_ := Ae_q (bD_q HB.out)
       clear HO_9
       clear HB
       have HO_9 := n0_
       have HB := n1_
       clear n0_ n1_
       have p209 : 0 ≤ (x10_1 : Int) := oD_q (by assumption)
       have q209 : x10_1 < (l0.length : Int) := oD_q (by assumption)
       obtain ⟨ad209, A209_3, c209_3, e209, hx209_0, hx209_1, hx209_2, hx209_3, hl209_3, hi209_3⟩ := at_T31 HR0.out x10_1 p209 q209
       have hw209_3 := hx209_3
       have hw209_2 := hx209_2
       have hw209_1 := hx209_1
       have hw209_0 := hx209_0
       cases e209
       replace hx209_0 := (HB.out.cell (wL_q w _ hx209_0)).trans hx209_0
       replace hx209_1 := (HB.out.cell (wL_q w _ hx209_1)).trans hx209_1
       replace hx209_2 := (HB.out.cell (wL_q w _ hx209_2)).trans hx209_2
       replace hx209_3 := (HB.out.cell (wL_q w _ hx209_3)).trans hx209_3
       have HR209_3 := Ae_q hi209_3
       have HC209_3 := Ae_q hl209_3
       clear hi209_3 hl209_3
       replace p209 := eq_true p209
       replace q209 := eq_true q209
       have p210 : 0 ≤ (x10_1 : Int) := oD_q (by assumption)
       have q210 : x10_1 < (l1.length : Int) := oD_q (by assumption)
       obtain ⟨ad210, e210, hx210_0⟩ := aI_q HR1.out x10_1 p210 q210
       have hw210_0 := hx210_0
       cases e210
       replace hx210_0 := (HB.out.cell (wL_q w _ hx210_0)).trans hx210_0
       replace p210 := eq_true p210
       replace q210 := eq_true q210
       refine start_ (n := 10) (S := fun w' => w'.cell? (ad209.add ((x10_1).toNat * 4)) = some (.int .i64 ((rd_T31 l0 x10_1).f0)) ∧ w'.cell? ⟨(ad209.add ((x10_1).toNat * 4)).block, (ad209.add ((x10_1).toNat * 4)).off + 1, none⟩ = some (.int .i64 ((rd_T31 l0 x10_1).f1)) ∧ w'.cell? ⟨(ad209.add ((x10_1).toNat * 4)).block, (ad209.add ((x10_1).toNat * 4)).off + 2, none⟩ = some (.int .i64 ((rd_T31 l0 x10_1).f2)) ∧ w'.cell? ⟨(ad209.add ((x10_1).toNat * 4)).block, (ad209.add ((x10_1).toNat * 4)).off + 3, none⟩ = some (.slice A209_3 ((rd_T31 l0 x10_1).f3).length c209_3) ∧ w'.cell? (ad210.add (x10_1).toNat) = some (.int .i64 (rd l1 x10_1))) (ds := []) #[false, false, false, false, false, false, false, false, false, false] (by kernel_rfl) rfl rfl ⟨(cel HB.out hw209_0), (cel HB.out hw209_1), (cel HB.out hw209_2), (cel HB.out hw209_3), (cel HB.out hw210_0)⟩ (fun hHeld => ?_); refine with_tabW spec_l32Use.tab6 spec_l32Use.bits6 (fun HT_ HW_ => ?_)
       generalize wr.drew = w24 at HO_9 HB HR209_3 hx209_0 hx209_1 hx209_2 hx209_3 hx210_0 hHeld ⊢
       refine pure_ (i := 0) (N := some 18) (v := ?_) (a' := ?_) #[true, false, false, false, false, false, false, false, false, false] rfl rfl (any_of HT_.out (by kernel_rfl)) (fun _ _ _ h => h) (Or.inl ⟨by rfl, ?_⟩) ?_ ?_
       rotate_left
       ·intro w'
        go_simp
        with_reducible rfl
       rotate_left
       ·simp only [Act.put, sA_q, sZ_q, sS_q, i64_w, i32_w]
        rfl
       refine pure_ (i := 1) (N := some 19) (v := ?_) (a' := ?_) #[true, true, false, false, false, false, false, false, false, false] rfl rfl (any_of HT_.out (by kernel_rfl)) (fun _ _ _ h => h) (Or.inl ⟨by rfl, ?_⟩) ?_ ?_
       rotate_left
       ·intro w'
        go_simp
        with_reducible rfl
       rotate_left
       ·simp only [Act.put, sA_q, sZ_q, sS_q, i64_w, i32_w]
        rfl
       refine pure_ (i := 2) (N := some 20) (v := ?_) (a' := ?_) #[true, true, true, false, false, false, false, false, false, false] rfl rfl (any_of HT_.out (by kernel_rfl)) (fun _ _ _ h => h) (Or.inl ⟨by rfl, ?_⟩) ?_ ?_
       rotate_left
       ·intro w'
        go_simp
        with_reducible rfl
       rotate_left
       ·simp only [Act.put, sA_q, sZ_q, sS_q, i64_w, i32_w]
        rfl
       refine pure_ (i := 4) (N := some 22) (v := ?_) (a' := ?_) #[true, true, true, false, true, false, false, false, false, false] rfl rfl (any_of HT_.out (by kernel_rfl)) (fun _ _ _ h => h) (Or.inl ⟨by rfl, ?_⟩) ?_ ?_
       rotate_left
       ·intro w'
        go_simp
        with_reducible rfl
       rotate_left
       ·simp only [Act.put, sA_q, sZ_q, sS_q, i64_w, i32_w]
        rfl
       refine pure_ (i := 5) (N := some 23) (v := ?_) (a' := ?_) #[true, true, true, false, true, true, false, false, false, false] rfl rfl (any_of HT_.out (by kernel_rfl)) (fun _ _ _ h => h) (Or.inl ⟨by rfl, ?_⟩) ?_ ?_
       rotate_left
       ·intro w'
        go_simp
        with_reducible rfl
       rotate_left
       ·simp only [Act.put, sA_q, sZ_q, sS_q, i64_w, i32_w]
        rfl
       refine pure_ (i := 6) (N := some 24) (v := ?_) (a' := ?_) #[true, true, true, false, true, true, true, false, false, false] rfl rfl (any_of HT_.out (by kernel_rfl)) (fun _ _ _ h => h) (Or.inl ⟨by rfl, ?_⟩) ?_ ?_
       rotate_left
       ·intro w'
        go_simp
        with_reducible rfl
       rotate_left
       ·simp only [Act.put, sA_q, sZ_q, sS_q, i64_w, i32_w]
        rfl
       refine pure_ (i := 8) (N := some 26) (v := ?_) (a' := ?_) #[true, true, true, false, true, true, true, false, true, false] rfl rfl (any_of HT_.out (by kernel_rfl)) (fun _ _ _ h => h) (Or.inl ⟨by rfl, ?_⟩) ?_ ?_
       rotate_left
       ·intro w'
        go_simp
        with_reducible rfl
       rotate_left
       ·simp only [Act.put, sA_q, sZ_q, sS_q, i64_w, i32_w]
        rfl
       refine take_ (i := 3) (N := some 21) (v := ?_) (a' := ?_) #[true, true, true, true, true, true, true, false, true, false] rfl rfl (take_ofW HT_.out HW_.out (by kernel_rfl)) (fun _ _ _ h => h) (Or.inl ⟨by rfl, ?_⟩) hHeld ?_ ?_
       rotate_left
       ·rintro w' ⟨s0, s1, s2, s3, s4⟩
        go_simp
        with_reducible rfl
       rotate_left
       ·simp only [Act.put, sA_q, sZ_q, sS_q, i64_w, i32_w]
        rfl
       refine take_ (i := 7) (N := some 25) (v := ?_) (a' := ?_) #[true, true, true, true, true, true, true, true, true, false] rfl rfl (take_ofW HT_.out HW_.out (by kernel_rfl)) (fun _ _ _ h => h) (Or.inl ⟨by rfl, ?_⟩) hHeld ?_ ?_
       rotate_left
       ·rintro w' ⟨s0, s1, s2, s3, s4⟩
        go_simp
        with_reducible rfl
       rotate_left
       ·simp only [Act.put, sA_q, sZ_q, sS_q, i64_w, i32_w]
        rfl
       refine one_ (i := 9) (N := some 27) #[true, true, true, true, true, true, true, true, true, true] rfl rfl (one_of HT_.out (by kernel_rfl)) (by decide) (fun K hK => ?_)
       refine goes_ Try.func63 (by kernel_rfl) rfl #[.agg #[.int .i64 ((rd_T31 l0 x10_1).f0), .int .i64 ((rd_T31 l0 x10_1).f1), .int .i64 ((rd_T31 l0 x10_1).f2), .slice A209_3 ((rd_T31 l0 x10_1).f3).length c209_3], .int .i64 (rd l1 x10_1), .int .i64 a2] (by rfl) rfl rfl (by (try simp only [lM_q, lC_q, lN_q]); first | done | rfl | (simp only [lD_q, lT_q]; rfl)) ?_
       with_reducible refine (spec_l32On.calls ((rd_T31 l0 x10_1).f0) ((rd_T31 l0 x10_1).f1) ((rd_T31 l0 x10_1).f2) _ _ ((rd_T31 l0 x10_1).f3) (rd l1 x10_1) a2 false _ ?side1 ?side2 A10.out).mono ?_
       (case side1 => repeat (first | exact (cB_q HR209_3.out HB.out) | (with_reducible refine cA_q ?_ _) | (with_reducible refine cN_q ?_ _) | (with_reducible refine cD_q ?_)))
       (case side2 => exact HC209_3.out)
       rintro e w25 ⟨rfl, hb⟩
       refine ⟨_, rfl, ?_⟩
       have n0_ := Ae_q (rO_q (rup HO_9.out) hb)
       have n1_ := Ae_q (bT_q (bel HB.out) hb)
       clear HO_9
       clear HB
       have HO_9 := n0_
       have HB := n1_
       clear n0_ n1_
       (try clear hb)
       (try clear hb2)
       (try clear hk)
       (try clear hi)
       refine hK.out _ _ ⟨(cel HB.out hw209_0), (cel HB.out hw209_1), (cel HB.out hw209_2), (cel HB.out hw209_3), (cel HB.out hw210_0)⟩ (fun hHeld => ?_)
       clear hK K
       refine norm_ (a' := ?_) ?_ ?_
       rotate_left
       ·show Act.put _ (some 27) _ = _
        simp only [Act.put, sA_q, sZ_q, sS_q, i64_w, i32_w]
        rfl
       refine done_ (done_of HT_.out (by kernel_rfl)) ?_
       try go_wp2
       go_roundg k1
       case measure => have := HK1.out; omega
       case rel => exact ⟨(x8_1), (x9_1), (wrap64 (x10_1 + 1)), (by first | rfl | (simp; done) | (simp [*]; done)), (by first | rfl | (simp; done) | (simp [*]; done)), H', ⟨by have := HK1.out; omega⟩, ⟨by (with_reducible repeat (first | apply rA_q | apply rN_q | apply rD_q)); exact HO_9.out⟩, ⟨bel HB.out⟩⟩
      rw [if_neg c9] at H
      exact absurd H (by simp)
     rw [if_neg c8] at H
     exact absurd H (by simp)
    rw [if_neg c7] at H
    have c7b0 : decide (x10_1 < (l1.length : Int)) = false := dF_q c7
    clear c7
    simp only [oE_q, pE_q] at H
    obtain ⟨rfl, rfl⟩ := H
    go_wp2
    go_ret2
    exact ⟨_, by first | rfl | (simp [eN_q, eS_q] <;> rfl) | (simp [*, eN_q, eS_q] <;> rfl), by (with_reducible repeat (first | apply rA_q | apply rN_q | apply rD_q)); exact HO_9.out, bel HB.out⟩
 rw [if_neg c4] at H
 exact absurd H (by simp)

end Go.Proofs.Ytoaigcdoblnmhaa.PPn
