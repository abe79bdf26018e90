import Derived.Test.YtnhenfmegpjigaaVCPEvx0
import Derived.Test.YtnhenfmegpjigaaVCPEvx1
import Derived.Test.YtnhenfmegpjigaaVCPEvx3
namespace Go.Proofs.Ytnhenfmegpjigaa.PEv
open Go.RowKit Go.Proofs.YtnhenfmegpjigaaW.PrintWords Go.Proofs.YtnhenfmegpjigaaW.PrintLast Go.Proofs.YtnhenfmegpjigaaW.PrintMore
attribute [local go_sem] max2_int min2_int max_two min_two max_three min_three max_four min_four
set_option linter.unusedVariables false
set_option linter.unusedSimpArgs false

def spec_DrawWatchOpen.f (k : Nat) (l0 : List Int) : Option ((List (S27)) × Int) := (spec_l6Open.f l0).bind fun bt349 => ((spec_l92Events.f k bt349.1 bt349.2).bind fun bt352 => ((spec_l6Rd_pick.f k bt349.1 bt352.2 12).bind fun bt356 => (if bt356.1 = 0 then ((some (([(-1), 0, 1439, 1440] : List Int) : List Int)).bind fun y358 => ((spec_l6Rd_pick.f k bt349.1 bt356.2 4).bind fun bt361 => (if 0 ≤ bt361.1 then (if bt361.1 < (y358.length : Int) then (some (bt352.1, rd y358 bt361.1)) else (none)) else (none)))) else ((spec_l6Rd_pick.f k bt349.1 bt356.2 240).bind fun bt364 => (some (bt352.1, wrap64 (bt364.1 * 2)))))))
theorem spec_DrawWatchOpen.mono : ∀ a0 k, LeO (spec_DrawWatchOpen.f k a0) (spec_DrawWatchOpen.f (k + 1) a0) := by
 intro a0 k
 unfold spec_DrawWatchOpen.f
 repeat' first
  | (with_reducible exact spec_l6Rd_pick.mono _ _ _ _)
  | (with_reducible exact spec_l92Events.mono _ _ _)
  | (with_reducible exact lR_q _)
  | (with_reducible exact lO_q _)
  | (with_reducible refine lI_q ?_ ?_)
  | (with_reducible refine lB_q ?_ (fun _ => ?_))
  | exact spec_l6Rd_pick.mono _ _ _ _
  | exact spec_l92Events.mono _ _ _
  | exact lO_q _
  | refine lI_q ?_ ?_
  | refine lB_q ?_ (fun _ => ?_)
def spec_DrawWatchOpen.T4 : Bool × List (List Nat × List Nat) := (true, [([], []), ([], []), ([], []), ([2], [2]), ([1, 3], [1, 3]), ([4], [4]), ([0, 3, 0], [0]), ([5, 6, 0, 1, 2, 3, 4, 5, 6], [5])])
def spec_DrawWatchOpen.B4 : List Nat := [0, 0, 0, 4, 14, 30, 13, 127]
theorem spec_DrawWatchOpen.tab4 : rtab .any (opsOf Try.f29 4) = spec_DrawWatchOpen.T4 := by kernel_rfl
theorem spec_DrawWatchOpen.bits4 : waitsOk spec_DrawWatchOpen.T4.2 spec_DrawWatchOpen.B4 = true := by kernel_rfl
set_option maxHeartbeats 8000000 in
set_option maxRecDepth 100000 in
theorem spec_DrawWatchOpen.calls (k : Nat) (A0 : Option Addr) (c0 : Nat) (l0 : List Int) (r1 : List (S27)) (r2 : Int) (w : World) (hr0 : Kd.C (Kd.int .u8) w A0 l0.length l0) (hc0 : l0.length ≤ c0) (h : spec_DrawWatchOpen.f k l0 = some (r1, r2)) :
    Calls Try.prog 29 #[.slice A0 l0.length c0] w fun e w' => ∃ v0_ : Value, e = .returned (.tuple #[v0_, .int .i64 r2]) ∧ Kd.R k27 27 w' w.heap.size (fun _ => True) v0_ r1 ∧ Below w.heap.size w w' := by
 have HR0 := Ae_q hr0
 have HC0 := Ae_q hc0
 clear hr0 hc0
 have HB := Ae_q (bR_q w.heap.size w)
 have H : ((spec_l6Open.f l0).bind fun bt349 => ((spec_l92Events.f k bt349.1 bt349.2).bind fun bt352 => ((spec_l6Rd_pick.f k bt349.1 bt352.2 12).bind fun bt356 => (if bt356.1 = 0 then ((some (([(-1), 0, 1439, 1440] : List Int) : List Int)).bind fun y358 => ((spec_l6Rd_pick.f k bt349.1 bt356.2 4).bind fun bt361 => (if 0 ≤ bt361.1 then (if bt361.1 < (y358.length : Int) then (some (bt352.1, rd y358 bt361.1)) else (none)) else (none)))) else ((spec_l6Rd_pick.f k bt349.1 bt356.2 240).bind fun bt364 => (some (bt352.1, wrap64 (bt364.1 * 2)))))))) = some (r1, r2) := h
 clear h
 replace H := oB_q.mp H
 obtain ⟨⟨t349, t350⟩, A20, H⟩ := H
 replace H : ((spec_l92Events.f k t349 t350).bind fun bt352 => ((spec_l6Rd_pick.f k t349 bt352.2 12).bind fun bt356 => (if bt356.1 = 0 then ((some (([(-1), 0, 1439, 1440] : List Int) : List Int)).bind fun y358 => ((spec_l6Rd_pick.f k t349 bt356.2 4).bind fun bt361 => (if 0 ≤ bt361.1 then (if bt361.1 < (y358.length : Int) then (some (bt352.1, rd y358 bt361.1)) else (none)) else (none)))) else ((spec_l6Rd_pick.f k t349 bt356.2 240).bind fun bt364 => (some (bt352.1, wrap64 (bt364.1 * 2))))))) = some (r1, r2) := H
 have A2 := Ae_q A20
 clear A20
 replace H := oB_q.mp H
 obtain ⟨⟨t352, t355⟩, A30, H⟩ := H
 replace H : ((spec_l6Rd_pick.f k t349 t355 12).bind fun bt356 => (if bt356.1 = 0 then ((some (([(-1), 0, 1439, 1440] : List Int) : List Int)).bind fun y358 => ((spec_l6Rd_pick.f k t349 bt356.2 4).bind fun bt361 => (if 0 ≤ bt361.1 then (if bt361.1 < (y358.length : Int) then (some (t352, rd y358 bt361.1)) else (none)) else (none)))) else ((spec_l6Rd_pick.f k t349 bt356.2 240).bind fun bt364 => (some (t352, wrap64 (bt364.1 * 2)))))) = some (r1, r2) := H
 have A3 := Ae_q A30
 clear A30
 replace H := oB_q.mp H
 obtain ⟨⟨t356, t357⟩, A40, H⟩ := H
 replace H : (if t356 = 0 then ((some (([(-1), 0, 1439, 1440] : List Int) : List Int)).bind fun y358 => ((spec_l6Rd_pick.f k t349 t357 4).bind fun bt361 => (if 0 ≤ bt361.1 then (if bt361.1 < (y358.length : Int) then (some (t352, rd y358 bt361.1)) else (none)) else (none)))) else ((spec_l6Rd_pick.f k t349 t357 240).bind fun bt364 => (some (t352, wrap64 (bt364.1 * 2))))) = some (r1, r2) := H
 have A4 := Ae_q A40
 clear A40
 by_cases c5 : t356 = 0
 ·rw [if_pos c5] at H
  have c5b0 : (t356 == 0) = true := beq_iff_eq.mpr c5
  have c5b1 : (t356 != 0) = false := nE_q.mpr c5
  clear c5
  obtain ⟨y358, hy358⟩ : ∃ y_ : List Int, y_ = (([(-1), 0, 1439, 1440] : List Int)) := ⟨_, rfl⟩
  replace H : ((spec_l6Rd_pick.f k t349 t357 4).bind fun bt361 => (if 0 ≤ bt361.1 then (if bt361.1 < (y358.length : Int) then (some (t352, rd y358 bt361.1)) else (none)) else (none))) = some (r1, r2) := by first | (rw [hy358]; with_reducible exact H) | (have H2_ := (oS_q _ _).symm.trans H; rw [hy358]; with_reducible exact H2_) | (have H2_ := (oS_q _ _).symm.trans H; with_reducible exact H2_) | with_reducible exact H | (rw [hy358]; exact H) | exact H
  have Ny358 := Ae_q hy358
  clear hy358
  replace H := oB_q.mp H
  obtain ⟨⟨t361, t362⟩, A60, H⟩ := H
  replace H : (if 0 ≤ t361 then (if t361 < (y358.length : Int) then (some (t352, rd y358 t361)) else (none)) else (none)) = some (r1, r2) := H
  have A6 := Ae_q A60
  clear A60
  by_cases c7 : 0 ≤ t361
  ·rw [if_pos c7] at H
   have c7b0 : decide (0 ≤ t361) = true := dT_q c7
   clear c7
   by_cases c8 : t361 < (y358.length : Int)
   ·rw [if_pos c8] at H
    have c8b0 : decide (t361 < (y358.length : Int)) = true := dT_q c8
    clear c8
    simp only [oE_q, pE_q] at H
    obtain ⟨rfl, rfl⟩ := H
    go_enter Try.func29, Try.ntmps29
    try go_wp2_with (first | ((with_reducible refine gC_q (f := 43) rfl ?_); refine gL_q (some 7) rfl rfl Try.func43 (by kernel_rfl) rfl #[.slice A0 l0.length c0] rfl (by (try simp only [lM_q, lC_q, lN_q]); first | done | rfl | (simp only [lD_q, lT_q]; rfl)) ?_; (with_reducible refine (spec_l6Open.calls _ _ l0 t349 t350 w _ ?side1 ?side2 ?side3 A2.out).mono ?_); (case side1 => repeat (with_reducible first | exact HB.out | apply bA_q | apply pB_q | apply bD_q)); (case side2 => exact HR0.out); (case side3 => exact HC0.out); rintro e w9 ⟨g351, rfl, hi, hb, hb2⟩; refine ⟨_, rfl, ?_⟩; have n0_ := Ae_q (hb); have n1_ := Ae_q (hi); clear HB; have HB := n0_; have HI351 := n1_; clear n0_ n1_; (try clear hb); (try clear hb2); (try clear hk); (try clear hi)) | ((with_reducible refine gC_q (f := 42) rfl ?_); refine gL_q (some 9) rfl rfl Try.func42 (by kernel_rfl) rfl #[.pointer (some ⟨g351, 0, none⟩)] rfl (by (try simp only [lM_q, lC_q, lN_q]); first | done | rfl | (simp only [lD_q, lT_q]; rfl)) ?_; (with_reducible refine (spec_l92Events.calls k g351 t349 t350 t352 t355 w _ ?side1 ?side2 A3.out).mono ?_); (case side1 => repeat (with_reducible first | exact HI351.out | apply i2_q | apply i1_q | apply i0_q | apply i3_q)); (case side2 => repeat (with_reducible first | exact HB.out | apply bA_q | apply pB_q | apply bD_q | refine bS_q ?_ (i5_q HI351.out))); rintro e w10 ⟨v353, rfl, ho0, hi, hb, hk⟩; refine ⟨_, rfl, ?_⟩; have n0_ := Ae_q (rL_q ho0 (bZ_q (by repeat (with_reducible first | exact HB.out | apply bA_q | apply pB_q | apply bD_q | refine bS_q ?_ (i5_q HI351.out))))); have n1_ := Ae_q (hb); have n2_ := Ae_q (hi); clear HB; clear HI351; have HO354 := n0_; have HB := n1_; have HI351 := n2_; clear n0_ n1_ n2_; (try clear hb); (try clear hb2); (try clear hk); (try clear hi); (try clear ho0)) | ((with_reducible refine gC_q (f := 49) rfl ?_); refine gL_q (some 11) rfl rfl Try.func49 (by kernel_rfl) rfl #[.pointer (some ⟨g351, 0, none⟩), .int .i64 12] rfl (by (try simp only [lM_q, lC_q, lN_q]); first | done | rfl | (simp only [lD_q, lT_q]; rfl)) ?_; (with_reducible refine (spec_l6Rd_pick.calls k g351 t349 t355 12 t356 t357 w _ ?side1 ?side2 A4.out).mono ?_); (case side1 => repeat (with_reducible first | exact HI351.out | apply i2_q | apply i1_q | apply i0_q | apply i3_q)); (case side2 => repeat (with_reducible first | exact HB.out | apply bA_q | apply pB_q | apply bD_q | refine bS_q ?_ (i5_q HI351.out))); rintro e w11 ⟨rfl, hi, hb, hk⟩; refine ⟨_, rfl, ?_⟩; have n0_ := Ae_q (rM_q (rK_q (i6_q (show IsS81 w _ g351 t349 t355 from by repeat (with_reducible first | exact HI351.out | apply i2_q | apply i1_q | apply i0_q | apply i3_q)) (rup HO354.out) (by decide)) hk (fun _ h => h.2)) (fun _ h => h.1)); have n1_ := Ae_q (hb); have n2_ := Ae_q (hi); clear HO354; clear HB; clear HI351; have HO354 := n0_; have HB := n1_; have HI351 := n2_; clear n0_ n1_ n2_; (try clear hb); (try clear hb2); (try clear hk); (try clear hi)))
    have pi363 : (0 ≤ (t361 : Int)) = True := eq_true (oD_q (by assumption))
    have qi363 : (t361 < (y358.length : Int)) = True := eq_true (oD_q (by assumption))
    have n0_ := Ae_q (rD_q HO354.out)
    have n1_ := Ae_q (i0_q HI351.out)
    have n2_ := Ae_q (bD_q HB.out)
    clear HO354
    clear HI351
    clear HB
    have HO354 := n0_
    have HI351 := n1_
    have HB := n2_
    clear n0_ n1_ n2_
    refine start_ (n := 8) (S := fun w' => True) (ds := []) #[false, false, false, false, false, false, false, false] (by kernel_rfl) rfl rfl trivial (fun hHeld => ?_); refine with_tabW spec_DrawWatchOpen.tab4 spec_DrawWatchOpen.bits4 (fun HT_ HW_ => ?_)
    generalize w11.drew = w12 at HO354 HI351 HB hHeld ⊢
    refine pure_ (i := 0) (N := some 13) (v := ?_) (a' := ?_) #[true, false, false, false, false, false, false, false] rfl rfl (any_of HT_.out (by kernel_rfl)) (fun _ _ _ h => h) (Or.inl ⟨by rfl, ?_⟩) ?_ ?_
    rotate_left
    ·intro w'
     go_simp
     with_reducible rfl
    rotate_left
    ·simp only [Act.put, sA_q, sZ_q, sS_q, i64_w, i32_w]
     rfl
    refine pure_ (i := 2) (N := some 15) (v := ?_) (a' := ?_) #[true, false, true, false, false, false, false, false] rfl rfl (any_of HT_.out (by kernel_rfl)) (fun _ _ _ h => h) (Or.inl ⟨by rfl, ?_⟩) ?_ ?_
    rotate_left
    ·intro w'
     go_simp
     with_reducible rfl
    rotate_left
    ·simp only [Act.put, sA_q, sZ_q, sS_q, i64_w, i32_w]
     rfl
    refine inv_at [1, 3, 4, 5, 6, 7] (fun a0_ b a w' => ∃ (v359 : Value) (adz_v359 : Addr) (m4_ : Value), a = putSel a0_ b [(1, 14, v359), (3, 16, .int .i64 t361), (4, 17, m4_), (5, 18, .int .i64 (rd y358 t361)), (6, 2, v353), (7, 3, .int .i64 (rd y358 t361))] ∧ (Kd.R k27 27 w' w.heap.size (fun _ => True) v353 t352) ∧ (b 3 = false → IsS81 w w' g351 t349 t357) ∧ (Below w.heap.size w w') ∧ (b 1 = true → Kd.R kI_q 3 w' w.heap.size (fun _ => True) v359 y358) ∧ (b 1 = true → ∃ c_, (v359 : Value) = .slice (some adz_v359) y358.length c_) ∧ (b 3 = true → IsS81 w w' g351 t349 t362) ∧ (b 4 = true → (m4_ : Value) = .pointer (some (adz_v359.add (t361).toNat)))) HT_.out HW_.out (by kernel_rfl) (by kernel_rfl) ?_ ?_ ?_
    ·exact ⟨.bool false, ⟨0, 0, none⟩, .bool false, by simp only [putSel, Bool.false_eq_true, if_false], HO354.out, fun _ => HI351.out, HB.out, fun h_ => absurd h_ (by decide), fun h_ => absurd h_ (by decide), fun h_ => absurd h_ (by decide), fun h_ => absurd h_ (by decide)⟩
    ·skip
     clear HB HI351 HO354
     refine steps_cons ?_ ?_
     ·rintro b a w' ⟨v359, adz_v359, m4_, ha, Q_HO354, Q_HI351, Q_HB, Q_HO360, Q_HA_HO360, Q_HI351_e3, Q_X4_⟩ hb_ hon hoff
      refine ⟨_, rfl, fun K hK => ?_⟩
      replace ha := Ae_q ha
      have HO354 := Ae_q Q_HO354
      have HB := Ae_q Q_HB
      refine rI_q kI_q _ 3 ?hg (N := 14) ?hd (xs := ([(-1), 0, 1439, 1440] : List Int)) (inner := [.int .i64 (-1), .int .i64 0, .int .i64 1439, .int .i64 1440]) (ok := fun _ => True) (okp := fun _ => True) ?hr ?hp (fun _ hk => hk) trivial (bR_q _ _) (nR_q _) (by simp) ?_; (case hd => rfl); (case hg => rfl); (case hr => first | (go_simp; done) | (go_simp; rfl)); (case hp => exact (Reps.one (show Kd.M kI_q _ _ _ (-1) [.int .i64 (-1)] from rfl) (Reps.one (show Kd.M kI_q _ _ _ 0 [.int .i64 0] from rfl) (Reps.one (show Kd.M kI_q _ _ _ 1439 [.int .i64 1439] from rfl) (Reps.one (show Kd.M kI_q _ _ _ 1440 [.int .i64 1440] from rfl) (Reps.none _ _))))))
      intro v359 w13 ho14 hb hg_ hnew_
      clear hg_ hnew_
      (first | rw [← Ny358.out] at ho14 | (simp only [Int.reduceToNat] at ho14; rw [← Ny358.out] at ho14))
      have n0_ := Ae_q (rO_q (rup HO354.out) hb)
      have n1_ := Ae_q (rL_q ho14 (bZ_q (bel HB.out)))
      have n3_ := Ae_q (bT_q (bel HB.out) hb)
      have z_HI351 := fun (h0_ : b 3 = false) => (show IsS81 w w13 g351 t349 t357 from by first | exact (IsS81.below (by repeat (first | (with_reducible first | exact (Q_HI351 h0_) | apply i2_q | apply i1_q | apply i0_q | apply i3_q) | exact (Q_HI351 h0_))) hb))
      have z_HI351_e3 := fun (h0_ : b 3 = true) => (show IsS81 w w13 g351 t349 t362 from by first | exact (IsS81.below (by repeat (first | (with_reducible first | exact (Q_HI351_e3 h0_) | apply i2_q | apply i1_q | apply i0_q | apply i3_q) | exact (Q_HI351_e3 h0_))) hb))
      clear HO354
      clear HB
      have HO354 := n0_
      have HO360 := n1_
      have HB := n3_
      clear n0_ n1_ n3_
      clear hb ho14
      obtain ⟨Ao15, co15, eo15⟩ := rS_q HO360.out
      subst eo15
      obtain ⟨ado15, fo15, _⟩ := aI_q (rR_q HO360.out).2.2 0 (by decide) (by rw [Ny358.out]; simp)
      cases fo15
      refine hK.out _ _ ⟨.slice (some ado15) y358.length co15, ado15, m4_, (by rw [ha.out]; exact putSel_upk 0 hb_ rfl rfl rfl), (rup HO354.out), z_HI351, (bel HB.out), fun _ => (rup HO360.out), fun _ => ⟨_, rfl⟩, z_HI351_e3, fun h0_ => absurd ((hoff 4 (by kernel_rfl)).symm.trans h0_) (by decide)⟩
     refine steps_cons ?_ ?_
     ·rintro b a w' ⟨v359, adz_v359, m4_, ha, Q_HO354, Q_HI351, Q_HB, Q_HO360, Q_HA_HO360, Q_HI351_e3, Q_X4_⟩ hb_ hon hoff
      refine ⟨_, rfl, fun K hK => ?_⟩
      have e15 : a.tmps[15]? = some (.pointer (some ⟨g351, 0, none⟩)) := by rw [ha]; exact (putSel_off rfl).trans rfl
      replace ha := Ae_q ha
      have HO354 := Ae_q Q_HO354
      have HI351 := Ae_q (Q_HI351 hb_)
      have HB := Ae_q Q_HB
      refine goes_ Try.func49 (by kernel_rfl) rfl #[.pointer (some ⟨g351, 0, none⟩), .int .i64 4] (by rfl) rfl rfl (by first | (simp only [lM_q, lC_q, lN_q, Act.eval, Array.getD_eq_getD_getElem?, Option.getD_some, e15]; first | done | rfl)) ?_
      with_reducible refine (spec_l6Rd_pick.calls k g351 t349 t357 4 t361 t362 w _ ?side1 ?side2 A6.out).mono ?_
      (case side1 => repeat (with_reducible first | exact HI351.out | apply i2_q | apply i1_q | apply i0_q | apply i3_q))
      (case side2 => repeat (with_reducible first | exact HB.out | apply bA_q | apply pB_q | apply bD_q | refine bS_q ?_ (i5_q HI351.out)))
      rintro e w13 ⟨rfl, hi, hb, hk⟩
      refine ⟨_, rfl, ?_⟩
      have n0_ := Ae_q (rM_q (rK_q (i6_q (show IsS81 w _ g351 t349 t357 from by repeat (with_reducible first | exact HI351.out | apply i2_q | apply i1_q | apply i0_q | apply i3_q)) (rup HO354.out) (by decide)) hk (fun _ h => h.2)) (fun _ h => h.1))
      have n1_ := Ae_q (hb)
      have n2_ := Ae_q (hi)
      have z_HO360 := fun (h0_ : b 1 = true) => (show Kd.R kI_q 3 w13 w.heap.size (fun _ => True) v359 y358 from by first | exact (rM_q (rK_q (i6_q (show IsS81 w _ g351 t349 t357 from by repeat (with_reducible first | exact HI351.out | apply i2_q | apply i1_q | apply i0_q | apply i3_q)) (by (with_reducible repeat (first | apply rA_q | apply rN_q | apply rD_q)); exact (Q_HO360 h0_)) (by decide)) hk (fun _ h => h.2)) (fun _ h => h.1)) | exact rM_q (rM_q (rK_q (i6_q (show IsS81 w _ g351 t349 t357 from by repeat (with_reducible first | exact HI351.out | apply i2_q | apply i1_q | apply i0_q | apply i3_q)) (by (with_reducible repeat (first | apply rA_q | apply rN_q | apply rD_q)); exact (Q_HO360 h0_)) (by decide)) hk (fun _ h => h.2)) (fun _ h => h.1)) (fun _ h_ => by first | trivial | exact h_ | exact h_.1))
      clear HO354
      clear HB
      clear HI351
      have HO354 := n0_
      have HB := n1_
      have HI351 := n2_
      clear n0_ n1_ n2_
      (try clear hb)
      (try clear hb2)
      (try clear hk)
      (try clear hi)
      refine hK.out _ _ ⟨v359, adz_v359, m4_, (by rw [ha.out]; exact putSel_upk 1 hb_ rfl rfl rfl), (rup HO354.out), fun h0_ => absurd ((up_self b 3).symm.trans h0_) (by decide), (by repeat (with_reducible first | exact HB.out | apply bA_q | apply pB_q | apply bD_q | refine bS_q ?_ (i5_q HI351.out))), z_HO360, Q_HA_HO360, fun _ => (by repeat (with_reducible first | exact HI351.out | apply i2_q | apply i1_q | apply i0_q | apply i3_q)), fun h0_ => absurd ((hoff 4 (by kernel_rfl)).symm.trans h0_) (by decide)⟩
     refine steps_cons ?_ ?_
     ·rintro b a w' ⟨v359, adz_v359, m4_, ha, Q_HO354, Q_HI351, Q_HB, Q_HO360, Q_HA_HO360, Q_HI351_e3, Q_X4_⟩ hb_ hon hoff
      refine ⟨_, rfl, fun K hK => ?_⟩
      have e14 : a.tmps[14]? = some (v359) := by rw [ha]; exact putSel_on (e := (1, 14, v359)) 0 rfl rfl (hon 1 (by kernel_rfl)) rfl
      have e16 : a.tmps[16]? = some (.int .i64 t361) := by rw [ha]; exact putSel_on (e := (3, 16, .int .i64 t361)) 1 rfl rfl (hon 3 (by kernel_rfl)) rfl
      replace ha := Ae_q ha
      have HO354 := Ae_q Q_HO354
      have HB := Ae_q Q_HB
      have HO360 := Ae_q (Q_HO360 (hon 1 (by kernel_rfl)))
      have HA_HO360 := Ae_q (Q_HA_HO360 (hon 1 (by kernel_rfl)))
      have HI351 := Ae_q (Q_HI351_e3 (hon 3 (by kernel_rfl)))
      obtain ⟨c_, hv_⟩ := HA_HO360.out
      rw [hv_] at e14
      refine value_ (w1 := w') (v := .pointer (some (adz_v359.add (t361).toNat))) (by rfl) rfl ?_ ?_
      ·go_simp
       (try simp only [i64_w])
       try rfl
      refine hK.out _ _ ⟨v359, adz_v359, (.pointer (some (adz_v359.add (t361).toNat))), (by rw [ha.out]; exact putSel_upk 2 hb_ rfl rfl rfl), Q_HO354, fun h0_ => absurd ((hon 3 (by kernel_rfl)).symm.trans h0_) (by decide), Q_HB, Q_HO360, Q_HA_HO360, Q_HI351_e3, fun _ => rfl⟩
     refine steps_cons ?_ ?_
     ·rintro b a w' ⟨v359, adz_v359, m4_, ha, Q_HO354, Q_HI351, Q_HB, Q_HO360, Q_HA_HO360, Q_HI351_e3, Q_X4_⟩ hb_ hon hoff
      refine ⟨_, rfl, fun K hK => ?_⟩
      have e17 : a.tmps[17]? = some (m4_) := by rw [ha]; exact putSel_on (e := (4, 17, m4_)) 2 rfl rfl (hon 4 (by kernel_rfl)) rfl
      rw [Q_X4_ (hon 4 (by kernel_rfl))] at e17
      replace ha := Ae_q ha
      have HO354 := Ae_q Q_HO354
      have HB := Ae_q Q_HB
      have HO360 := Ae_q (Q_HO360 (hon 1 (by kernel_rfl)))
      have HA_HO360 := Ae_q (Q_HA_HO360 (hon 1 (by kernel_rfl)))
      have HI351 := Ae_q (Q_HI351_e3 (hon 3 (by kernel_rfl)))
      obtain ⟨c_, hv_⟩ := HA_HO360.out
      have hF_ := HO360.out
      rw [hv_] at hF_
      obtain ⟨ad_, ea_, hx_⟩ := aI_q (rR_q hF_).2.2 t361 (of_eq_true pi363) (of_eq_true qi363)
      cases ea_
      refine value_ (w1 := w') (v := .int .i64 (rd y358 t361)) (by rfl) rfl ?_ ?_
      ·go_simp
       (try simp only [i64_w])
       try rfl
      refine hK.out _ _ ⟨v359, adz_v359, m4_, (by rw [ha.out]; exact putSel_upk 3 hb_ rfl rfl rfl), Q_HO354, fun h0_ => absurd ((hon 3 (by kernel_rfl)).symm.trans h0_) (by decide), Q_HB, Q_HO360, Q_HA_HO360, Q_HI351_e3, Q_X4_⟩
     refine steps_cons ?_ ?_
     ·rintro b a w' ⟨v359, adz_v359, m4_, ha, Q_HO354, Q_HI351, Q_HB, Q_HO360, Q_HA_HO360, Q_HI351_e3, Q_X4_⟩ hb_ hon hoff
      refine ⟨_, rfl, fun K hK => ?_⟩
      have e13 : a.tmps[13]? = some (v353) := by rw [ha]; exact (putSel_off rfl).trans rfl
      replace ha := Ae_q ha
      have HO354 := Ae_q Q_HO354
      have HB := Ae_q Q_HB
      have HI351 := Ae_q (Q_HI351_e3 (hon 3 (by kernel_rfl)))
      refine value_ (w1 := w') (v := v353) (by rfl) rfl ?_ ?_
      ·go_simp
       (try simp only [i64_w])
       try rfl
      refine hK.out _ _ ⟨v359, adz_v359, m4_, (by rw [ha.out]; exact putSel_upk 4 hb_ rfl rfl rfl), Q_HO354, fun h0_ => absurd ((hon 3 (by kernel_rfl)).symm.trans h0_) (by decide), Q_HB, Q_HO360, Q_HA_HO360, Q_HI351_e3, Q_X4_⟩
     refine steps_cons ?_ ?_
     ·rintro b a w' ⟨v359, adz_v359, m4_, ha, Q_HO354, Q_HI351, Q_HB, Q_HO360, Q_HA_HO360, Q_HI351_e3, Q_X4_⟩ hb_ hon hoff
      refine ⟨_, rfl, fun K hK => ?_⟩
      have e18 : a.tmps[18]? = some (.int .i64 (rd y358 t361)) := by rw [ha]; exact putSel_on (e := (5, 18, .int .i64 (rd y358 t361))) 3 rfl rfl (hon 5 (by kernel_rfl)) rfl
      replace ha := Ae_q ha
      have HO354 := Ae_q Q_HO354
      have HB := Ae_q Q_HB
      have HO360 := Ae_q (Q_HO360 (hon 1 (by kernel_rfl)))
      have HA_HO360 := Ae_q (Q_HA_HO360 (hon 1 (by kernel_rfl)))
      have HI351 := Ae_q (Q_HI351_e3 (hon 3 (by kernel_rfl)))
      refine value_ (w1 := w') (v := .int .i64 (rd y358 t361)) (by rfl) rfl ?_ ?_
      ·go_simp
       (try simp only [i64_w])
       try rfl
      refine hK.out _ _ ⟨v359, adz_v359, m4_, (by rw [ha.out]; exact putSel_upk 5 hb_ rfl rfl rfl), Q_HO354, fun h0_ => absurd ((hon 3 (by kernel_rfl)).symm.trans h0_) (by decide), Q_HB, Q_HO360, Q_HA_HO360, Q_HI351_e3, Q_X4_⟩
     exact steps_nil
    rintro b a w17 hall ⟨v359, adz_v359, m4_, ha, Q_HO354, Q_HI351, Q_HB, Q_HO360, Q_HA_HO360, Q_HI351_e3, Q_X4_⟩
    clear HB HI351 HO354
    have hb1_ := hall 1 (by kernel_rfl)
    have hb3_ := hall 3 (by kernel_rfl)
    have hb4_ := hall 4 (by kernel_rfl)
    have hb5_ := hall 5 (by kernel_rfl)
    have hb6_ := hall 6 (by kernel_rfl)
    have hb7_ := hall 7 (by kernel_rfl)
    subst ha
    obtain rfl := Q_X4_ hb4_
    simp only [putSel, hb1_, hb3_, hb4_, hb5_, hb6_, hb7_, if_true, Act.put, sA_q, sZ_q, sS_q]
    have HO354 := Ae_q Q_HO354
    clear Q_HO354
    clear Q_HI351
    have HB := Ae_q Q_HB
    clear Q_HB
    have HO360 := Ae_q (Q_HO360 hb1_)
    clear Q_HO360
    have HA_HO360 := Ae_q (Q_HA_HO360 hb1_)
    clear Q_HA_HO360
    have HI351 := Ae_q (Q_HI351_e3 hb3_)
    clear Q_HI351_e3
    clear hall hb1_ hb3_ hb4_ hb5_ hb6_ hb7_
    obtain ⟨co18, eo18⟩ := HA_HO360.out
    clear HA_HO360
    subst eo18
    try go_wp2
    go_ret2
    exact ⟨_, by first | rfl | (simp [eN_q, eS_q] <;> rfl) | (simp [*, eN_q, eS_q] <;> rfl), by (with_reducible repeat (first | apply rA_q | apply rN_q | apply rD_q)); exact HO354.out, by repeat (with_reducible first | exact HB.out | apply bA_q | apply pB_q | apply bD_q | refine bS_q ?_ (i5_q HI351.out))⟩
   rw [if_neg c8] at H
   exact absurd H (by simp)
  rw [if_neg c7] at H
  exact absurd H (by simp)
 rw [if_neg c5] at H
 have c5b0 : (t356 == 0) = false := fN_q.mpr c5
 have c5b1 : (t356 != 0) = true := nI_q.mpr c5
 replace H := oB_q.mp H
 obtain ⟨⟨t364, t365⟩, A190, H⟩ := H
 replace H : (some (t352, wrap64 (t364 * 2))) = some (r1, r2) := H
 have A19 := Ae_q A190
 clear A190
 simp only [oE_q, pE_q] at H
 obtain ⟨rfl, rfl⟩ := H
 go_enter Try.func29, Try.ntmps29
 go_wp2_with (first | ((with_reducible refine gC_q (f := 43) rfl ?_); refine gL_q (some 7) rfl rfl Try.func43 (by kernel_rfl) rfl #[.slice A0 l0.length c0] rfl (by (try simp only [lM_q, lC_q, lN_q]); first | done | rfl | (simp only [lD_q, lT_q]; rfl)) ?_; (with_reducible refine (spec_l6Open.calls _ _ l0 t349 t350 w _ ?side1 ?side2 ?side3 A2.out).mono ?_); (case side1 => repeat (with_reducible first | exact HB.out | apply bA_q | apply pB_q | apply bD_q)); (case side2 => exact HR0.out); (case side3 => exact HC0.out); rintro e w20 ⟨g351, rfl, hi, hb, hb2⟩; refine ⟨_, rfl, ?_⟩; have n0_ := Ae_q (hb); have n1_ := Ae_q (hi); clear HB; have HB := n0_; have HI351 := n1_; clear n0_ n1_; (try clear hb); (try clear hb2); (try clear hk); (try clear hi)) | ((with_reducible refine gC_q (f := 42) rfl ?_); refine gL_q (some 9) rfl rfl Try.func42 (by kernel_rfl) rfl #[.pointer (some ⟨g351, 0, none⟩)] rfl (by (try simp only [lM_q, lC_q, lN_q]); first | done | rfl | (simp only [lD_q, lT_q]; rfl)) ?_; (with_reducible refine (spec_l92Events.calls k g351 t349 t350 t352 t355 w _ ?side1 ?side2 A3.out).mono ?_); (case side1 => repeat (with_reducible first | exact HI351.out | apply i2_q | apply i1_q | apply i0_q | apply i3_q)); (case side2 => repeat (with_reducible first | exact HB.out | apply bA_q | apply pB_q | apply bD_q | refine bS_q ?_ (i5_q HI351.out))); rintro e w21 ⟨v353, rfl, ho0, hi, hb, hk⟩; refine ⟨_, rfl, ?_⟩; have n0_ := Ae_q (rL_q ho0 (bZ_q (by repeat (with_reducible first | exact HB.out | apply bA_q | apply pB_q | apply bD_q | refine bS_q ?_ (i5_q HI351.out))))); have n1_ := Ae_q (hb); have n2_ := Ae_q (hi); clear HB; clear HI351; have HO354 := n0_; have HB := n1_; have HI351 := n2_; clear n0_ n1_ n2_; (try clear hb); (try clear hb2); (try clear hk); (try clear hi); (try clear ho0)) | ((with_reducible refine gC_q (f := 49) rfl ?_); refine gL_q (some 11) rfl rfl Try.func49 (by kernel_rfl) rfl #[.pointer (some ⟨g351, 0, none⟩), .int .i64 12] rfl (by (try simp only [lM_q, lC_q, lN_q]); first | done | rfl | (simp only [lD_q, lT_q]; rfl)) ?_; (with_reducible refine (spec_l6Rd_pick.calls k g351 t349 t355 12 t356 t357 w _ ?side1 ?side2 A4.out).mono ?_); (case side1 => repeat (with_reducible first | exact HI351.out | apply i2_q | apply i1_q | apply i0_q | apply i3_q)); (case side2 => repeat (with_reducible first | exact HB.out | apply bA_q | apply pB_q | apply bD_q | refine bS_q ?_ (i5_q HI351.out))); rintro e w22 ⟨rfl, hi, hb, hk⟩; refine ⟨_, rfl, ?_⟩; have n0_ := Ae_q (rM_q (rK_q (i6_q (show IsS81 w _ g351 t349 t355 from by repeat (with_reducible first | exact HI351.out | apply i2_q | apply i1_q | apply i0_q | apply i3_q)) (rup HO354.out) (by decide)) hk (fun _ h => h.2)) (fun _ h => h.1)); have n1_ := Ae_q (hb); have n2_ := Ae_q (hi); clear HO354; clear HB; clear HI351; have HO354 := n0_; have HB := n1_; have HI351 := n2_; clear n0_ n1_ n2_; (try clear hb); (try clear hb2); (try clear hk); (try clear hi)) | ((with_reducible refine gC_q (f := 49) rfl ?_); refine gL_q (some 21) rfl rfl Try.func49 (by kernel_rfl) rfl #[.pointer (some ⟨g351, 0, none⟩), .int .i64 240] rfl (by (try simp only [lM_q, lC_q, lN_q]); first | done | rfl | (simp only [lD_q, lT_q]; rfl)) ?_; (with_reducible refine (spec_l6Rd_pick.calls k g351 t349 t357 240 t364 t365 w _ ?side1 ?side2 A19.out).mono ?_); (case side1 => repeat (with_reducible first | exact HI351.out | apply i2_q | apply i1_q | apply i0_q | apply i3_q)); (case side2 => repeat (with_reducible first | exact HB.out | apply bA_q | apply pB_q | apply bD_q | refine bS_q ?_ (i5_q HI351.out))); rintro e w23 ⟨rfl, hi, hb, hk⟩; refine ⟨_, rfl, ?_⟩; have n0_ := Ae_q (rM_q (rK_q (i6_q (show IsS81 w _ g351 t349 t357 from by repeat (with_reducible first | exact HI351.out | apply i2_q | apply i1_q | apply i0_q | apply i3_q)) (rup HO354.out) (by decide)) hk (fun _ h => h.2)) (fun _ h => h.1)); have n1_ := Ae_q (hb); have n2_ := Ae_q (hi); clear HO354; clear HB; clear HI351; have HO354 := n0_; have HB := n1_; have HI351 := n2_; clear n0_ n1_ n2_; (try clear hb); (try clear hb2); (try clear hk); (try clear hi)))
 go_ret2
 exact ⟨_, by first | rfl | (simp [eN_q, eS_q] <;> rfl) | (simp [*, eN_q, eS_q] <;> rfl), by (with_reducible repeat (first | apply rA_q | apply rN_q | apply rD_q)); exact HO354.out, by repeat (with_reducible first | exact HB.out | apply bA_q | apply pB_q | apply bD_q | refine bS_q ?_ (i5_q HI351.out))⟩

-- NOT PRINTED: function 67 (impl_Event)

end Go.Proofs.Ytnhenfmegpjigaa.PEv
