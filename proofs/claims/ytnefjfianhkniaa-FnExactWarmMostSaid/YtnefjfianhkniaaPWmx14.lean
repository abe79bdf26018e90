/- Written by the session's own driver (wip/tools/gprint.sh) over the kit's printing program: the machine side of a group of laws. Not trusted: the kernel checks it. -/
import Derived.Test.YtnefjfianhkniaaPWmx0
import Derived.Test.YtnefjfianhkniaaPWmx5
import Derived.Test.YtnefjfianhkniaaPWmx6
import Derived.Test.YtnefjfianhkniaaPWmx7
namespace Go.Proofs.Ytnefjfianhkniaa.PWm
open Go.RowKit Go.Proofs.YtnefjfianhkniaaW.PrintWords Go.Proofs.YtnefjfianhkniaaW.PrintLast Go.Proofs.YtnefjfianhkniaaW.PrintMore
attribute [local go_sem] max2_int min2_int max_two min_two max_three min_three max_four min_four   -- for this text's walks alone
set_option linter.unusedVariables false
set_option linter.unusedSimpArgs false

/-! ### spec_DrawWarmMinutes: function 24 -/
def spec_DrawWarmMinutes.f (k : Nat) (l0 : List Int) : Option ((List (S34)) × Int) := (spec_l6Open.f l0).bind fun bt278 => ((spec_l92Readings.f k bt278.1 bt278.2).bind fun bt281 => ((spec_l6Rd_pick.f k bt278.1 bt281.2 12).bind fun bt285 => (if bt285.1 = 0 then ((some (([(-1), 0, 1440, 1441] : List Int) : List Int)).bind fun y287 => ((spec_l6Rd_pick.f k bt278.1 bt285.2 4).bind fun bt290 => (if 0 ≤ bt290.1 then (if bt290.1 < (y287.length : Int) then (some (bt281.1, rd y287 bt290.1)) else (none)) else (none)))) else ((spec_l6Rd_pick.f k bt278.1 bt285.2 240).bind fun bt293 => (some (bt281.1, wrap64 (bt293.1 * 2)))))))
theorem spec_DrawWarmMinutes.mono : ∀ a0 k, LeO (spec_DrawWarmMinutes.f k a0) (spec_DrawWarmMinutes.f (k + 1) a0) := by
  intro a0 k
  unfold spec_DrawWarmMinutes.f
  repeat' first
      | (with_reducible exact spec_l6Rd_pick.mono _ _ _ _)
      | (with_reducible exact spec_l92Readings.mono _ _ _)
      | (with_reducible exact LeO.refl _)
      | (with_reducible exact LeO.none _)
      | (with_reducible refine LeO.ite ?_ ?_)
      | (with_reducible refine LeO.bind ?_ (fun _ => ?_))
      | exact spec_l6Rd_pick.mono _ _ _ _
      | exact spec_l92Readings.mono _ _ _
      | exact LeO.none _
      | refine LeO.ite ?_ ?_
      | refine LeO.bind ?_ (fun _ => ?_)
def spec_DrawWarmMinutes.T4 : Bool × List (List Nat × List Nat) := (true, [([], []), ([], []), ([], []), ([2], [2]), ([1, 3], [1, 3]), ([4], [4]), ([0, 3, 0], [0]), ([5, 6, 0, 1, 2, 3, 4, 5, 6], [5])])
def spec_DrawWarmMinutes.B4 : List Nat := [0, 0, 0, 4, 14, 30, 13, 127]
theorem spec_DrawWarmMinutes.tab4 : rtab .any (opsOf Try.f24 4) = spec_DrawWarmMinutes.T4 := by kernel_rfl
theorem spec_DrawWarmMinutes.bits4 : waitsOk spec_DrawWarmMinutes.T4.2 spec_DrawWarmMinutes.B4 = true := by kernel_rfl
set_option maxHeartbeats 8000000 in
set_option maxRecDepth 100000 in
theorem spec_DrawWarmMinutes.calls (k : Nat) (A0 : Option Addr) (c0 : Nat) (l0 : List Int) (r1 : List (S34)) (r2 : Int) (w : World) (hr0 : Kd.C (Kd.int .u8) w A0 l0.length l0) (hc0 : l0.length ≤ c0) (h : spec_DrawWarmMinutes.f k l0 = some (r1, r2)) :
    Calls Try.prog 24 #[.slice A0 l0.length c0] w fun e w' => ∃ v0_ : Value, e = .returned (.tuple #[v0_, .int .i64 r2]) ∧ Kd.R k34 34 w' w.heap.size (fun _ => True) v0_ r1 ∧ Below w.heap.size w w' := by
  have HR0 := Aside0.mk hr0
  have HC0 := Aside0.mk hc0
  clear hr0 hc0
  have HB := Aside0.mk (Below.refl w.heap.size w)
  have H : ((spec_l6Open.f l0).bind fun bt278 => ((spec_l92Readings.f k bt278.1 bt278.2).bind fun bt281 => ((spec_l6Rd_pick.f k bt278.1 bt281.2 12).bind fun bt285 => (if bt285.1 = 0 then ((some (([(-1), 0, 1440, 1441] : List Int) : List Int)).bind fun y287 => ((spec_l6Rd_pick.f k bt278.1 bt285.2 4).bind fun bt290 => (if 0 ≤ bt290.1 then (if bt290.1 < (y287.length : Int) then (some (bt281.1, rd y287 bt290.1)) else (none)) else (none)))) else ((spec_l6Rd_pick.f k bt278.1 bt285.2 240).bind fun bt293 => (some (bt281.1, wrap64 (bt293.1 * 2)))))))) = some (r1, r2) := h
  clear h
  replace H := Option.bind_eq_some_iff.mp H
  obtain ⟨⟨t278, t279⟩, A20, H⟩ := H
  replace H : ((spec_l92Readings.f k t278 t279).bind fun bt281 => ((spec_l6Rd_pick.f k t278 bt281.2 12).bind fun bt285 => (if bt285.1 = 0 then ((some (([(-1), 0, 1440, 1441] : List Int) : List Int)).bind fun y287 => ((spec_l6Rd_pick.f k t278 bt285.2 4).bind fun bt290 => (if 0 ≤ bt290.1 then (if bt290.1 < (y287.length : Int) then (some (bt281.1, rd y287 bt290.1)) else (none)) else (none)))) else ((spec_l6Rd_pick.f k t278 bt285.2 240).bind fun bt293 => (some (bt281.1, wrap64 (bt293.1 * 2))))))) = some (r1, r2) := H
  have A2 := Aside0.mk A20
  clear A20
  replace H := Option.bind_eq_some_iff.mp H
  obtain ⟨⟨t281, t284⟩, A30, H⟩ := H
  replace H : ((spec_l6Rd_pick.f k t278 t284 12).bind fun bt285 => (if bt285.1 = 0 then ((some (([(-1), 0, 1440, 1441] : List Int) : List Int)).bind fun y287 => ((spec_l6Rd_pick.f k t278 bt285.2 4).bind fun bt290 => (if 0 ≤ bt290.1 then (if bt290.1 < (y287.length : Int) then (some (t281, rd y287 bt290.1)) else (none)) else (none)))) else ((spec_l6Rd_pick.f k t278 bt285.2 240).bind fun bt293 => (some (t281, wrap64 (bt293.1 * 2)))))) = some (r1, r2) := H
  have A3 := Aside0.mk A30
  clear A30
  replace H := Option.bind_eq_some_iff.mp H
  obtain ⟨⟨t285, t286⟩, A40, H⟩ := H
  replace H : (if t285 = 0 then ((some (([(-1), 0, 1440, 1441] : List Int) : List Int)).bind fun y287 => ((spec_l6Rd_pick.f k t278 t286 4).bind fun bt290 => (if 0 ≤ bt290.1 then (if bt290.1 < (y287.length : Int) then (some (t281, rd y287 bt290.1)) else (none)) else (none)))) else ((spec_l6Rd_pick.f k t278 t286 240).bind fun bt293 => (some (t281, wrap64 (bt293.1 * 2))))) = some (r1, r2) := H
  have A4 := Aside0.mk A40
  clear A40
  by_cases c5 : t285 = 0
  · rw [if_pos c5] at H
    have c5b0 : (t285 == 0) = true := beq_iff_eq.mpr c5
    have c5b1 : (t285 != 0) = false := bne_eq_false_iff_eq.mpr c5
    clear c5
    obtain ⟨y287, hy287⟩ : ∃ y_ : List Int, y_ = (([(-1), 0, 1440, 1441] : List Int)) := ⟨_, rfl⟩
    replace H : ((spec_l6Rd_pick.f k t278 t286 4).bind fun bt290 => (if 0 ≤ bt290.1 then (if bt290.1 < (y287.length : Int) then (some (t281, rd y287 bt290.1)) else (none)) else (none))) = some (r1, r2) := by first | (rw [hy287]; with_reducible exact H) | (have H2_ := (Option.bind_some _ _).symm.trans H; rw [hy287]; with_reducible exact H2_) | (have H2_ := (Option.bind_some _ _).symm.trans H; with_reducible exact H2_) | with_reducible exact H | (rw [hy287]; exact H) | exact H
    have Ny287 := Aside0.mk hy287
    clear hy287
    replace H := Option.bind_eq_some_iff.mp H
    obtain ⟨⟨t290, t291⟩, A60, H⟩ := H
    replace H : (if 0 ≤ t290 then (if t290 < (y287.length : Int) then (some (t281, rd y287 t290)) else (none)) else (none)) = some (r1, r2) := H
    have A6 := Aside0.mk A60
    clear A60
    by_cases c7 : 0 ≤ t290
    · rw [if_pos c7] at H
      have c7b0 : decide (0 ≤ t290) = true := decide_eq_true c7
      clear c7
      by_cases c8 : t290 < (y287.length : Int)
      · rw [if_pos c8] at H
        have c8b0 : decide (t290 < (y287.length : Int)) = true := decide_eq_true c8
        clear c8
        simp only [Option.some.injEq, Prod.mk.injEq] at H
        obtain ⟨rfl, rfl⟩ := H
        go_enter Try.func24, Try.ntmps24
        try go_wp2_with (first | ((with_reducible refine gate_callee (f := 34) rfl ?_); refine goesL_ (some 7) rfl rfl Try.func34 (by kernel_rfl) rfl #[.slice A0 l0.length c0] rfl (by (try simp only [List.map_toArray, List.map_cons, List.map_nil]); first | done | rfl | (simp only [List.length_drop, List.length_take]; rfl)) ?_; (with_reducible refine (spec_l6Open.calls _ _ l0 t278 t279 w _ ?side1 ?side2 ?side3 A2.out).mono ?_); (case side1 => repeat (first | (with_reducible first | exact HB.out | apply below_alloc | apply pw_below_drewN | apply below_drew1) | exact HB.out)); (case side2 => exact HR0.out); (case side3 => exact HC0.out); rintro e w9 ⟨g280, rfl, hi, hb, hb2⟩; refine ⟨_, rfl, ?_⟩; have n0_ := Aside0.mk (hb); have n1_ := Aside0.mk (hi); clear HB; have HB := n0_; have HI280 := n1_; clear n0_ n1_; (try clear hb); (try clear hb2); (try clear hk); (try clear hi)) | ((with_reducible refine gate_callee (f := 33) rfl ?_); refine goesL_ (some 9) rfl rfl Try.func33 (by kernel_rfl) rfl #[.pointer (some ⟨g280, 0, none⟩)] rfl (by (try simp only [List.map_toArray, List.map_cons, List.map_nil]); first | done | rfl | (simp only [List.length_drop, List.length_take]; rfl)) ?_; (with_reducible refine (spec_l92Readings.calls k g280 t278 t279 t281 t284 w _ ?side1 ?side2 A3.out).mono ?_); (case side1 => repeat (first | (with_reducible first | exact HI280.out | apply IsS52.alloc | apply IsS52.drewN | apply IsS52.drew | apply IsS52.set_1) | exact HI280.out)); (case side2 => repeat (first | (with_reducible first | exact HB.out | apply below_alloc | apply pw_below_drewN | apply below_drew1 | refine below_set ?_ (IsS52.ge HI280.out)) | exact HB.out)); rintro e w10 ⟨v282, rfl, ho0, hi, hb, hk⟩; refine ⟨_, rfl, ?_⟩; have n0_ := Aside0.mk (Kd.R_lower ho0 (below_size (by repeat (first | (with_reducible first | exact HB.out | apply below_alloc | apply pw_below_drewN | apply below_drew1 | refine below_set ?_ (IsS52.ge HI280.out)) | exact HB.out)))); have n1_ := Aside0.mk (hb); have n2_ := Aside0.mk (hi); clear HB; clear HI280; have HO283 := n0_; have HB := n1_; have HI280 := n2_; clear n0_ n1_ n2_; (try clear hb); (try clear hb2); (try clear hk); (try clear hi); (try clear ho0)) | ((with_reducible refine gate_callee (f := 37) rfl ?_); refine goesL_ (some 11) rfl rfl Try.func37 (by kernel_rfl) rfl #[.pointer (some ⟨g280, 0, none⟩), .int .i64 12] rfl (by (try simp only [List.map_toArray, List.map_cons, List.map_nil]); first | done | rfl | (simp only [List.length_drop, List.length_take]; rfl)) ?_; (with_reducible refine (spec_l6Rd_pick.calls k g280 t278 t284 12 t285 t286 w _ ?side1 ?side2 A4.out).mono ?_); (case side1 => repeat (first | (with_reducible first | exact HI280.out | apply IsS52.alloc | apply IsS52.drewN | apply IsS52.drew | apply IsS52.set_1) | exact HI280.out)); (case side2 => repeat (first | (with_reducible first | exact HB.out | apply below_alloc | apply pw_below_drewN | apply below_drew1 | refine below_set ?_ (IsS52.ge HI280.out)) | exact HB.out)); rintro e w11 ⟨rfl, hi, hb, hk⟩; refine ⟨_, rfl, ?_⟩; have n0_ := Aside0.mk (Kd.R_mono (Kd.R_keep (IsS52.apart (show IsS52 w _ g280 t278 t284 from by repeat (first | (with_reducible first | exact HI280.out | apply IsS52.alloc | apply IsS52.drewN | apply IsS52.drew | apply IsS52.set_1) | exact HI280.out)) (by (with_reducible repeat (first | apply Kd.R_alloc | apply Kd.R_drewN | apply Kd.R_drew)); exact HO283.out) (by decide)) hk (fun _ h => h.2)) (fun _ h => h.1)); have n1_ := Aside0.mk (hb); have n2_ := Aside0.mk (hi); clear HO283; clear HB; clear HI280; have HO283 := n0_; have HB := n1_; have HI280 := n2_; clear n0_ n1_ n2_; (try clear hb); (try clear hb2); (try clear hk); (try clear hi)))
        have pi292 : (0 ≤ (t290 : Int)) = True := eq_true (of_decide_eq_true (by first | (with_reducible assumption) | assumption))
        have qi292 : (t290 < (y287.length : Int)) = True := eq_true (of_decide_eq_true (by first | (with_reducible assumption) | assumption))
        have n0_ := Aside0.mk (Kd.R_drew HO283.out)
        have n1_ := Aside0.mk (IsS52.drew HI280.out)
        have n2_ := Aside0.mk (below_drew1 HB.out)
        clear HO283
        clear HI280
        clear HB
        have HO283 := n0_
        have HI280 := n1_
        have HB := n2_
        clear n0_ n1_ n2_
        refine start_ (n := 8) (S := fun w' => True) (ds := []) #[false, false, false, false, false, false, false, false] (by kernel_rfl) rfl rfl trivial (fun hHeld => ?_); refine with_tabW spec_DrawWarmMinutes.tab4 spec_DrawWarmMinutes.bits4 (fun HT_ HW_ => ?_)
        generalize w11.drew = w12 at HO283 HI280 HB hHeld ⊢
        refine pure_ (i := 0) (N := some 13) (v := ?_) (a' := ?_) #[true, false, false, false, false, false, false, false] rfl rfl (any_of HT_.out (by kernel_rfl)) (fun _ _ _ h => h) (Or.inl ⟨by rfl, ?_⟩) ?_ ?_
        rotate_left
        · intro w'
          go_simp
          with_reducible rfl
        rotate_left
        · simp only [Act.put, List.setIfInBounds_toArray, List.set_cons_zero, List.set_cons_succ, i64_w, i32_w]
          rfl
        refine pure_ (i := 2) (N := some 15) (v := ?_) (a' := ?_) #[true, false, true, false, false, false, false, false] rfl rfl (any_of HT_.out (by kernel_rfl)) (fun _ _ _ h => h) (Or.inl ⟨by rfl, ?_⟩) ?_ ?_
        rotate_left
        · intro w'
          go_simp
          with_reducible rfl
        rotate_left
        · simp only [Act.put, List.setIfInBounds_toArray, List.set_cons_zero, List.set_cons_succ, i64_w, i32_w]
          rfl
        refine inv_at [1, 3, 4, 5, 6, 7] (fun a0_ b a w' => ∃ (v288 : Value) (adz_v288 : Addr) (m4_ : Value), a = putSel a0_ b [(1, 14, v288), (3, 16, .int .i64 t290), (4, 17, m4_), (5, 18, .int .i64 (rd y287 t290)), (6, 2, v282), (7, 3, .int .i64 (rd y287 t290))] ∧ (Kd.R k34 34 w' w.heap.size (fun _ => True) v282 t281) ∧ (b 3 = false → IsS52 w w' g280 t278 t286) ∧ (Below w.heap.size w w') ∧ (b 1 = true → Kd.R (Kd.int .i64) 3 w' w.heap.size (fun _ => True) v288 y287) ∧ (b 1 = true → ∃ c_, (v288 : Value) = .slice (some adz_v288) y287.length c_) ∧ (b 3 = true → IsS52 w w' g280 t278 t291) ∧ (b 4 = true → (m4_ : Value) = .pointer (some (adz_v288.add (t290).toNat)))) HT_.out HW_.out (by kernel_rfl) (by kernel_rfl) ?_ ?_ ?_
        · exact ⟨.bool false, ⟨0, 0, none⟩, .bool false, by simp only [putSel, Bool.false_eq_true, if_false], HO283.out, fun _ => HI280.out, HB.out, fun h_ => absurd h_ (by decide), fun h_ => absurd h_ (by decide), fun h_ => absurd h_ (by decide), fun h_ => absurd h_ (by decide)⟩
        · skip
          clear HB HI280 HO283
          refine steps_cons ?_ ?_
          · rintro b a w' ⟨v288, adz_v288, m4_, ha, Q_HO283, Q_HI280, Q_HB, Q_HO289, Q_HA_HO289, Q_HI280_e3, Q_X4_⟩ hb_ hon hoff
            refine ⟨_, rfl, fun K hK => ?_⟩
            replace ha := Aside0.mk ha
            have HO283 := Aside0.mk Q_HO283
            have HB := Aside0.mk Q_HB
            refine Kd.R_lit_step (Kd.int .i64) _ 3 ?hg (N := 14) ?hd (xs := ([(-1), 0, 1440, 1441] : List Int)) (inner := [.int .i64 (-1), .int .i64 0, .int .i64 1440, .int .i64 1441]) (ok := fun _ => True) (okp := fun _ => True) ?hr ?hp (fun _ hk => hk) trivial (Below.refl _ _) (Nat.le_refl _) (by simp) ?_; (case hd => rfl); (case hg => rfl); (case hr => first | (go_simp; done) | (go_simp; rfl)); (case hp => exact (Reps.one (show Kd.M (Kd.int .i64) _ _ _ (-1) [.int .i64 (-1)] from rfl) (Reps.one (show Kd.M (Kd.int .i64) _ _ _ 0 [.int .i64 0] from rfl) (Reps.one (show Kd.M (Kd.int .i64) _ _ _ 1440 [.int .i64 1440] from rfl) (Reps.one (show Kd.M (Kd.int .i64) _ _ _ 1441 [.int .i64 1441] from rfl) (Reps.none _ _))))))
            intro v288 w13 ho14 hb hg_ hnew_
            clear hg_ hnew_
            (first | rw [← Ny287.out] at ho14 | (simp only [Int.reduceToNat] at ho14; rw [← Ny287.out] at ho14))
            have n0_ := Aside0.mk (Kd.R_below (by (with_reducible repeat (first | apply Kd.R_alloc | apply Kd.R_drewN | apply Kd.R_drew)); exact HO283.out) hb)
            have n1_ := Aside0.mk (Kd.R_lower ho14 (below_size (by repeat (first | (with_reducible first | exact HB.out | apply below_alloc | apply pw_below_drewN | apply below_drew1) | exact HB.out))))
            have n3_ := Aside0.mk (below_step (by repeat (first | (with_reducible first | exact HB.out | apply below_alloc | apply pw_below_drewN | apply below_drew1) | exact HB.out)) hb)
            have z_HI280 := fun (h0_ : b 3 = false) => (show IsS52 w w13 g280 t278 t286 from by first | exact (IsS52.below (by repeat (first | (with_reducible first | exact (Q_HI280 h0_) | apply IsS52.alloc | apply IsS52.drewN | apply IsS52.drew | apply IsS52.set_1) | exact (Q_HI280 h0_))) hb))
            have z_HI280_e3 := fun (h0_ : b 3 = true) => (show IsS52 w w13 g280 t278 t291 from by first | exact (IsS52.below (by repeat (first | (with_reducible first | exact (Q_HI280_e3 h0_) | apply IsS52.alloc | apply IsS52.drewN | apply IsS52.drew | apply IsS52.set_1) | exact (Q_HI280_e3 h0_))) hb))
            clear HO283
            clear HB
            have HO283 := n0_
            have HO289 := n1_
            have HB := n3_
            clear n0_ n1_ n3_
            clear hb ho14
            obtain ⟨Ao15, co15, eo15⟩ := Kd.R_slice HO289.out
            subst eo15
            obtain ⟨ado15, fo15, _⟩ := Kd.at_int (Kd.R_reads' HO289.out).2.2 0 (by decide) (by rw [Ny287.out]; simp)
            cases fo15
            refine hK.out _ _ ⟨.slice (some ado15) y287.length co15, ado15, m4_, (by rw [ha.out]; exact putSel_upk 0 hb_ rfl rfl rfl), (by (with_reducible repeat (first | apply Kd.R_alloc | apply Kd.R_drewN | apply Kd.R_drew)); exact HO283.out), z_HI280, (by repeat (first | (with_reducible first | exact HB.out | apply below_alloc | apply pw_below_drewN | apply below_drew1) | exact HB.out)), fun _ => (by (with_reducible repeat (first | apply Kd.R_alloc | apply Kd.R_drewN | apply Kd.R_drew)); exact HO289.out), fun _ => ⟨_, rfl⟩, z_HI280_e3, fun h0_ => absurd ((hoff 4 (by kernel_rfl)).symm.trans h0_) (by decide)⟩
          refine steps_cons ?_ ?_
          · rintro b a w' ⟨v288, adz_v288, m4_, ha, Q_HO283, Q_HI280, Q_HB, Q_HO289, Q_HA_HO289, Q_HI280_e3, Q_X4_⟩ hb_ hon hoff
            refine ⟨_, rfl, fun K hK => ?_⟩
            have e15 : a.tmps[15]? = some (.pointer (some ⟨g280, 0, none⟩)) := by rw [ha]; exact (putSel_off rfl).trans rfl
            replace ha := Aside0.mk ha
            have HO283 := Aside0.mk Q_HO283
            have HI280 := Aside0.mk (Q_HI280 hb_)
            have HB := Aside0.mk Q_HB
            refine goes_ Try.func37 (by kernel_rfl) rfl #[.pointer (some ⟨g280, 0, none⟩), .int .i64 4] (by rfl) rfl rfl (by first | (simp only [List.map_toArray, List.map_cons, List.map_nil, Act.eval, Array.getD_eq_getD_getElem?, Option.getD_some, e15]; done) | (simp only [List.map_toArray, List.map_cons, List.map_nil, Act.eval, Array.getD_eq_getD_getElem?, Option.getD_some, e15]; rfl)) ?_
            with_reducible refine (spec_l6Rd_pick.calls k g280 t278 t286 4 t290 t291 w _ ?side1 ?side2 A6.out).mono ?_
            (case side1 => repeat (first | (with_reducible first | exact HI280.out | apply IsS52.alloc | apply IsS52.drewN | apply IsS52.drew | apply IsS52.set_1) | exact HI280.out))
            (case side2 => repeat (first | (with_reducible first | exact HB.out | apply below_alloc | apply pw_below_drewN | apply below_drew1 | refine below_set ?_ (IsS52.ge HI280.out)) | exact HB.out))
            rintro e w13 ⟨rfl, hi, hb, hk⟩
            refine ⟨_, rfl, ?_⟩
            have n0_ := Aside0.mk (Kd.R_mono (Kd.R_keep (IsS52.apart (show IsS52 w _ g280 t278 t286 from by repeat (first | (with_reducible first | exact HI280.out | apply IsS52.alloc | apply IsS52.drewN | apply IsS52.drew | apply IsS52.set_1) | exact HI280.out)) (by (with_reducible repeat (first | apply Kd.R_alloc | apply Kd.R_drewN | apply Kd.R_drew)); exact HO283.out) (by decide)) hk (fun _ h => h.2)) (fun _ h => h.1))
            have n1_ := Aside0.mk (hb)
            have n2_ := Aside0.mk (hi)
            have z_HO289 := fun (h0_ : b 1 = true) => (show Kd.R (Kd.int .i64) 3 w13 w.heap.size (fun _ => True) v288 y287 from by first | exact (Kd.R_mono (Kd.R_keep (IsS52.apart (show IsS52 w _ g280 t278 t286 from by repeat (first | (with_reducible first | exact HI280.out | apply IsS52.alloc | apply IsS52.drewN | apply IsS52.drew | apply IsS52.set_1) | exact HI280.out)) (by (with_reducible repeat (first | apply Kd.R_alloc | apply Kd.R_drewN | apply Kd.R_drew)); exact (Q_HO289 h0_)) (by decide)) hk (fun _ h => h.2)) (fun _ h => h.1)) | exact Kd.R_mono (Kd.R_mono (Kd.R_keep (IsS52.apart (show IsS52 w _ g280 t278 t286 from by repeat (first | (with_reducible first | exact HI280.out | apply IsS52.alloc | apply IsS52.drewN | apply IsS52.drew | apply IsS52.set_1) | exact HI280.out)) (by (with_reducible repeat (first | apply Kd.R_alloc | apply Kd.R_drewN | apply Kd.R_drew)); exact (Q_HO289 h0_)) (by decide)) hk (fun _ h => h.2)) (fun _ h => h.1)) (fun _ h_ => by first | trivial | exact h_ | exact h_.1))
            clear HO283
            clear HB
            clear HI280
            have HO283 := n0_
            have HB := n1_
            have HI280 := n2_
            clear n0_ n1_ n2_
            (try clear hb)
            (try clear hb2)
            (try clear hk)
            (try clear hi)
            refine hK.out _ _ ⟨v288, adz_v288, m4_, (by rw [ha.out]; exact putSel_upk 1 hb_ rfl rfl rfl), (by (with_reducible repeat (first | apply Kd.R_alloc | apply Kd.R_drewN | apply Kd.R_drew)); exact HO283.out), fun h0_ => absurd ((up_self b 3).symm.trans h0_) (by decide), (by repeat (first | (with_reducible first | exact HB.out | apply below_alloc | apply pw_below_drewN | apply below_drew1 | refine below_set ?_ (IsS52.ge HI280.out)) | exact HB.out)), z_HO289, Q_HA_HO289, fun _ => (by repeat (first | (with_reducible first | exact HI280.out | apply IsS52.alloc | apply IsS52.drewN | apply IsS52.drew | apply IsS52.set_1) | exact HI280.out)), fun h0_ => absurd ((hoff 4 (by kernel_rfl)).symm.trans h0_) (by decide)⟩
          refine steps_cons ?_ ?_
          · rintro b a w' ⟨v288, adz_v288, m4_, ha, Q_HO283, Q_HI280, Q_HB, Q_HO289, Q_HA_HO289, Q_HI280_e3, Q_X4_⟩ hb_ hon hoff
            refine ⟨_, rfl, fun K hK => ?_⟩
            have e14 : a.tmps[14]? = some (v288) := by rw [ha]; exact putSel_on (e := (1, 14, v288)) 0 rfl rfl (hon 1 (by kernel_rfl)) rfl
            have e16 : a.tmps[16]? = some (.int .i64 t290) := by rw [ha]; exact putSel_on (e := (3, 16, .int .i64 t290)) 1 rfl rfl (hon 3 (by kernel_rfl)) rfl
            replace ha := Aside0.mk ha
            have HO283 := Aside0.mk Q_HO283
            have HB := Aside0.mk Q_HB
            have HO289 := Aside0.mk (Q_HO289 (hon 1 (by kernel_rfl)))
            have HA_HO289 := Aside0.mk (Q_HA_HO289 (hon 1 (by kernel_rfl)))
            have HI280 := Aside0.mk (Q_HI280_e3 (hon 3 (by kernel_rfl)))
            obtain ⟨c_, hv_⟩ := HA_HO289.out
            rw [hv_] at e14
            refine value_ (w1 := w') (v := .pointer (some (adz_v288.add (t290).toNat))) (by rfl) rfl ?_ ?_
            · go_simp
              (try simp only [i64_w])
              try rfl
            refine hK.out _ _ ⟨v288, adz_v288, (.pointer (some (adz_v288.add (t290).toNat))), (by rw [ha.out]; exact putSel_upk 2 hb_ rfl rfl rfl), Q_HO283, fun h0_ => absurd ((hon 3 (by kernel_rfl)).symm.trans h0_) (by decide), Q_HB, Q_HO289, Q_HA_HO289, Q_HI280_e3, fun _ => rfl⟩
          refine steps_cons ?_ ?_
          · rintro b a w' ⟨v288, adz_v288, m4_, ha, Q_HO283, Q_HI280, Q_HB, Q_HO289, Q_HA_HO289, Q_HI280_e3, Q_X4_⟩ hb_ hon hoff
            refine ⟨_, rfl, fun K hK => ?_⟩
            have e17 : a.tmps[17]? = some (m4_) := by rw [ha]; exact putSel_on (e := (4, 17, m4_)) 2 rfl rfl (hon 4 (by kernel_rfl)) rfl
            rw [Q_X4_ (hon 4 (by kernel_rfl))] at e17
            replace ha := Aside0.mk ha
            have HO283 := Aside0.mk Q_HO283
            have HB := Aside0.mk Q_HB
            have HO289 := Aside0.mk (Q_HO289 (hon 1 (by kernel_rfl)))
            have HA_HO289 := Aside0.mk (Q_HA_HO289 (hon 1 (by kernel_rfl)))
            have HI280 := Aside0.mk (Q_HI280_e3 (hon 3 (by kernel_rfl)))
            obtain ⟨c_, hv_⟩ := HA_HO289.out
            have hF_ := HO289.out
            rw [hv_] at hF_
            obtain ⟨ad_, ea_, hx_⟩ := Kd.at_int (Kd.R_reads' hF_).2.2 t290 (of_eq_true pi292) (of_eq_true qi292)
            cases ea_
            refine value_ (w1 := w') (v := .int .i64 (rd y287 t290)) (by rfl) rfl ?_ ?_
            · go_simp
              (try simp only [i64_w])
              try rfl
            refine hK.out _ _ ⟨v288, adz_v288, m4_, (by rw [ha.out]; exact putSel_upk 3 hb_ rfl rfl rfl), Q_HO283, fun h0_ => absurd ((hon 3 (by kernel_rfl)).symm.trans h0_) (by decide), Q_HB, Q_HO289, Q_HA_HO289, Q_HI280_e3, Q_X4_⟩
          refine steps_cons ?_ ?_
          · rintro b a w' ⟨v288, adz_v288, m4_, ha, Q_HO283, Q_HI280, Q_HB, Q_HO289, Q_HA_HO289, Q_HI280_e3, Q_X4_⟩ hb_ hon hoff
            refine ⟨_, rfl, fun K hK => ?_⟩
            have e13 : a.tmps[13]? = some (v282) := by rw [ha]; exact (putSel_off rfl).trans rfl
            replace ha := Aside0.mk ha
            have HO283 := Aside0.mk Q_HO283
            have HB := Aside0.mk Q_HB
            have HI280 := Aside0.mk (Q_HI280_e3 (hon 3 (by kernel_rfl)))
            refine value_ (w1 := w') (v := v282) (by rfl) rfl ?_ ?_
            · go_simp
              (try simp only [i64_w])
              try rfl
            refine hK.out _ _ ⟨v288, adz_v288, m4_, (by rw [ha.out]; exact putSel_upk 4 hb_ rfl rfl rfl), Q_HO283, fun h0_ => absurd ((hon 3 (by kernel_rfl)).symm.trans h0_) (by decide), Q_HB, Q_HO289, Q_HA_HO289, Q_HI280_e3, Q_X4_⟩
          refine steps_cons ?_ ?_
          · rintro b a w' ⟨v288, adz_v288, m4_, ha, Q_HO283, Q_HI280, Q_HB, Q_HO289, Q_HA_HO289, Q_HI280_e3, Q_X4_⟩ hb_ hon hoff
            refine ⟨_, rfl, fun K hK => ?_⟩
            have e18 : a.tmps[18]? = some (.int .i64 (rd y287 t290)) := by rw [ha]; exact putSel_on (e := (5, 18, .int .i64 (rd y287 t290))) 3 rfl rfl (hon 5 (by kernel_rfl)) rfl
            replace ha := Aside0.mk ha
            have HO283 := Aside0.mk Q_HO283
            have HB := Aside0.mk Q_HB
            have HO289 := Aside0.mk (Q_HO289 (hon 1 (by kernel_rfl)))
            have HA_HO289 := Aside0.mk (Q_HA_HO289 (hon 1 (by kernel_rfl)))
            have HI280 := Aside0.mk (Q_HI280_e3 (hon 3 (by kernel_rfl)))
            refine value_ (w1 := w') (v := .int .i64 (rd y287 t290)) (by rfl) rfl ?_ ?_
            · go_simp
              (try simp only [i64_w])
              try rfl
            refine hK.out _ _ ⟨v288, adz_v288, m4_, (by rw [ha.out]; exact putSel_upk 5 hb_ rfl rfl rfl), Q_HO283, fun h0_ => absurd ((hon 3 (by kernel_rfl)).symm.trans h0_) (by decide), Q_HB, Q_HO289, Q_HA_HO289, Q_HI280_e3, Q_X4_⟩
          exact steps_nil
        rintro b a w17 hall ⟨v288, adz_v288, m4_, ha, Q_HO283, Q_HI280, Q_HB, Q_HO289, Q_HA_HO289, Q_HI280_e3, Q_X4_⟩
        clear HB HI280 HO283
        have hb1_ := hall 1 (by kernel_rfl)
        have hb3_ := hall 3 (by kernel_rfl)
        have hb4_ := hall 4 (by kernel_rfl)
        have hb5_ := hall 5 (by kernel_rfl)
        have hb6_ := hall 6 (by kernel_rfl)
        have hb7_ := hall 7 (by kernel_rfl)
        subst ha
        obtain rfl := Q_X4_ hb4_
        simp only [putSel, hb1_, hb3_, hb4_, hb5_, hb6_, hb7_, if_true, Act.put, List.setIfInBounds_toArray, List.set_cons_zero, List.set_cons_succ]
        have HO283 := Aside0.mk Q_HO283
        clear Q_HO283
        clear Q_HI280
        have HB := Aside0.mk Q_HB
        clear Q_HB
        have HO289 := Aside0.mk (Q_HO289 hb1_)
        clear Q_HO289
        have HA_HO289 := Aside0.mk (Q_HA_HO289 hb1_)
        clear Q_HA_HO289
        have HI280 := Aside0.mk (Q_HI280_e3 hb3_)
        clear Q_HI280_e3
        clear hall hb1_ hb3_ hb4_ hb5_ hb6_ hb7_
        obtain ⟨co18, eo18⟩ := HA_HO289.out
        clear HA_HO289
        subst eo18
        try go_wp2
        go_ret2
        exact ⟨_, by first | rfl | (simp [errW_none, errW_some] <;> rfl) | (simp [*, errW_none, errW_some] <;> rfl), by (with_reducible repeat (first | apply Kd.R_alloc | apply Kd.R_drewN | apply Kd.R_drew)); exact HO283.out, by repeat (first | (with_reducible first | exact HB.out | apply below_alloc | apply pw_below_drewN | apply below_drew1 | refine below_set ?_ (IsS52.ge HI280.out)) | exact HB.out)⟩
      · rw [if_neg c8] at H
        exact absurd H (by simp)
    · rw [if_neg c7] at H
      exact absurd H (by simp)
  · rw [if_neg c5] at H
    have c5b0 : (t285 == 0) = false := beq_eq_false_iff_ne.mpr c5
    have c5b1 : (t285 != 0) = true := bne_iff_ne.mpr c5
    replace H := Option.bind_eq_some_iff.mp H
    obtain ⟨⟨t293, t294⟩, A190, H⟩ := H
    replace H : (some (t281, wrap64 (t293 * 2))) = some (r1, r2) := H
    have A19 := Aside0.mk A190
    clear A190
    simp only [Option.some.injEq, Prod.mk.injEq] at H
    obtain ⟨rfl, rfl⟩ := H
    go_enter Try.func24, Try.ntmps24
    go_wp2_with (first | ((with_reducible refine gate_callee (f := 34) rfl ?_); refine goesL_ (some 7) rfl rfl Try.func34 (by kernel_rfl) rfl #[.slice A0 l0.length c0] rfl (by (try simp only [List.map_toArray, List.map_cons, List.map_nil]); first | done | rfl | (simp only [List.length_drop, List.length_take]; rfl)) ?_; (with_reducible refine (spec_l6Open.calls _ _ l0 t278 t279 w _ ?side1 ?side2 ?side3 A2.out).mono ?_); (case side1 => repeat (first | (with_reducible first | exact HB.out | apply below_alloc | apply pw_below_drewN | apply below_drew1) | exact HB.out)); (case side2 => exact HR0.out); (case side3 => exact HC0.out); rintro e w20 ⟨g280, rfl, hi, hb, hb2⟩; refine ⟨_, rfl, ?_⟩; have n0_ := Aside0.mk (hb); have n1_ := Aside0.mk (hi); clear HB; have HB := n0_; have HI280 := n1_; clear n0_ n1_; (try clear hb); (try clear hb2); (try clear hk); (try clear hi)) | ((with_reducible refine gate_callee (f := 33) rfl ?_); refine goesL_ (some 9) rfl rfl Try.func33 (by kernel_rfl) rfl #[.pointer (some ⟨g280, 0, none⟩)] rfl (by (try simp only [List.map_toArray, List.map_cons, List.map_nil]); first | done | rfl | (simp only [List.length_drop, List.length_take]; rfl)) ?_; (with_reducible refine (spec_l92Readings.calls k g280 t278 t279 t281 t284 w _ ?side1 ?side2 A3.out).mono ?_); (case side1 => repeat (first | (with_reducible first | exact HI280.out | apply IsS52.alloc | apply IsS52.drewN | apply IsS52.drew | apply IsS52.set_1) | exact HI280.out)); (case side2 => repeat (first | (with_reducible first | exact HB.out | apply below_alloc | apply pw_below_drewN | apply below_drew1 | refine below_set ?_ (IsS52.ge HI280.out)) | exact HB.out)); rintro e w21 ⟨v282, rfl, ho0, hi, hb, hk⟩; refine ⟨_, rfl, ?_⟩; have n0_ := Aside0.mk (Kd.R_lower ho0 (below_size (by repeat (first | (with_reducible first | exact HB.out | apply below_alloc | apply pw_below_drewN | apply below_drew1 | refine below_set ?_ (IsS52.ge HI280.out)) | exact HB.out)))); have n1_ := Aside0.mk (hb); have n2_ := Aside0.mk (hi); clear HB; clear HI280; have HO283 := n0_; have HB := n1_; have HI280 := n2_; clear n0_ n1_ n2_; (try clear hb); (try clear hb2); (try clear hk); (try clear hi); (try clear ho0)) | ((with_reducible refine gate_callee (f := 37) rfl ?_); refine goesL_ (some 11) rfl rfl Try.func37 (by kernel_rfl) rfl #[.pointer (some ⟨g280, 0, none⟩), .int .i64 12] rfl (by (try simp only [List.map_toArray, List.map_cons, List.map_nil]); first | done | rfl | (simp only [List.length_drop, List.length_take]; rfl)) ?_; (with_reducible refine (spec_l6Rd_pick.calls k g280 t278 t284 12 t285 t286 w _ ?side1 ?side2 A4.out).mono ?_); (case side1 => repeat (first | (with_reducible first | exact HI280.out | apply IsS52.alloc | apply IsS52.drewN | apply IsS52.drew | apply IsS52.set_1) | exact HI280.out)); (case side2 => repeat (first | (with_reducible first | exact HB.out | apply below_alloc | apply pw_below_drewN | apply below_drew1 | refine below_set ?_ (IsS52.ge HI280.out)) | exact HB.out)); rintro e w22 ⟨rfl, hi, hb, hk⟩; refine ⟨_, rfl, ?_⟩; have n0_ := Aside0.mk (Kd.R_mono (Kd.R_keep (IsS52.apart (show IsS52 w _ g280 t278 t284 from by repeat (first | (with_reducible first | exact HI280.out | apply IsS52.alloc | apply IsS52.drewN | apply IsS52.drew | apply IsS52.set_1) | exact HI280.out)) (by (with_reducible repeat (first | apply Kd.R_alloc | apply Kd.R_drewN | apply Kd.R_drew)); exact HO283.out) (by decide)) hk (fun _ h => h.2)) (fun _ h => h.1)); have n1_ := Aside0.mk (hb); have n2_ := Aside0.mk (hi); clear HO283; clear HB; clear HI280; have HO283 := n0_; have HB := n1_; have HI280 := n2_; clear n0_ n1_ n2_; (try clear hb); (try clear hb2); (try clear hk); (try clear hi)) | ((with_reducible refine gate_callee (f := 37) rfl ?_); refine goesL_ (some 21) rfl rfl Try.func37 (by kernel_rfl) rfl #[.pointer (some ⟨g280, 0, none⟩), .int .i64 240] rfl (by (try simp only [List.map_toArray, List.map_cons, List.map_nil]); first | done | rfl | (simp only [List.length_drop, List.length_take]; rfl)) ?_; (with_reducible refine (spec_l6Rd_pick.calls k g280 t278 t286 240 t293 t294 w _ ?side1 ?side2 A19.out).mono ?_); (case side1 => repeat (first | (with_reducible first | exact HI280.out | apply IsS52.alloc | apply IsS52.drewN | apply IsS52.drew | apply IsS52.set_1) | exact HI280.out)); (case side2 => repeat (first | (with_reducible first | exact HB.out | apply below_alloc | apply pw_below_drewN | apply below_drew1 | refine below_set ?_ (IsS52.ge HI280.out)) | exact HB.out)); rintro e w23 ⟨rfl, hi, hb, hk⟩; refine ⟨_, rfl, ?_⟩; have n0_ := Aside0.mk (Kd.R_mono (Kd.R_keep (IsS52.apart (show IsS52 w _ g280 t278 t286 from by repeat (first | (with_reducible first | exact HI280.out | apply IsS52.alloc | apply IsS52.drewN | apply IsS52.drew | apply IsS52.set_1) | exact HI280.out)) (by (with_reducible repeat (first | apply Kd.R_alloc | apply Kd.R_drewN | apply Kd.R_drew)); exact HO283.out) (by decide)) hk (fun _ h => h.2)) (fun _ h => h.1)); have n1_ := Aside0.mk (hb); have n2_ := Aside0.mk (hi); clear HO283; clear HB; clear HI280; have HO283 := n0_; have HB := n1_; have HI280 := n2_; clear n0_ n1_ n2_; (try clear hb); (try clear hb2); (try clear hk); (try clear hi)))
    go_ret2
    exact ⟨_, by first | rfl | (simp [errW_none, errW_some] <;> rfl) | (simp [*, errW_none, errW_some] <;> rfl), by (with_reducible repeat (first | apply Kd.R_alloc | apply Kd.R_drewN | apply Kd.R_drew)); exact HO283.out, by repeat (first | (with_reducible first | exact HB.out | apply below_alloc | apply pw_below_drewN | apply below_drew1 | refine below_set ?_ (IsS52.ge HI280.out)) | exact HB.out)⟩

end Go.Proofs.Ytnefjfianhkniaa.PWm
