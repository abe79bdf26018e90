/- Written by the session's own driver (wip/tools/gprint.sh) over the kit's printing program: the machine side of a group of laws. Not trusted: the kernel checks it. -/
import Derived.Test.YtcglfapodhcfeaaVcPPmx0
import Derived.Test.YtcglfapodhcfeaaVcPPmx2
import Derived.Test.YtcglfapodhcfeaaVcPPmx9
import Derived.Test.YtcglfapodhcfeaaVcPPmx13
import Derived.Test.YtcglfapodhcfeaaVcPPmx14
import Derived.Test.YtcglfapodhcfeaaVcPPmx16
namespace Go.Proofs.Ytcglfapodhcfeaa.PPm
open Go.RowKit Go.Proofs.YtcglfapodhcfeaaW.PrintWords Go.Proofs.YtcglfapodhcfeaaW.PrintLast Go.Proofs.YtcglfapodhcfeaaW.PrintMore
attribute [local go_sem] max2_int min2_int max_two min_two max_three min_three max_four min_four   -- for this text's walks alone
set_option linter.unusedVariables false
set_option linter.unusedSimpArgs false

/-! ### laws_FnPlanMakeEarly: function 5 -/
mutual
def laws_FnPlanMakeEarly.j0 : Nat → List Int → List Int → Bool → Option (Bool)
 | 0, _, _, _ => none
 | k + 1, x0, x1, x20 => if x20 = true then (some true) else ((spec_DrawPlanMake.f k x0).bind fun bt413 => ((impl_PlanMake.f k bt413.1 bt413.2.1 bt413.2.2).bind fun bt421 => ((spec_PlanMake.f k bt413.1 bt413.2.1 bt413.2.2).bind fun bt425 => (if (bt421.2 != bt425.2) = true then (laws_FnPlanMakeEarly.j1 k x1 bt413.1 bt421.1 bt421.2 bt425.1 bt425.2 true bt413.2.1 bt413.2.2) else ((laws_sameInts.f k bt421.1 bt425.1).bind fun t429 => (if t429 = true then (if bt421.2 = true then (laws_FnPlanMakeEarly.j1 k x1 bt413.1 bt421.1 bt421.2 bt425.1 bt425.2 ((bt425.1.length : Int) == 0) bt413.2.1 bt413.2.2) else (laws_FnPlanMakeEarly.j1 k x1 bt413.1 bt421.1 bt421.2 bt425.1 bt425.2 true bt413.2.1 bt413.2.2)) else (laws_FnPlanMakeEarly.j1 k x1 bt413.1 bt421.1 bt421.2 bt425.1 bt425.2 true bt413.2.1 bt413.2.2)))))))
def laws_FnPlanMakeEarly.j1 : Nat → List Int → List (S39) → List Int → Bool → List Int → Bool → Bool → Int → List Int → Option (Bool)
 | 0, _, _, _, _, _, _, _, _, _ => none
 | k + 1, x1, x5, x7, x8, x9, x10, x55, x421000, x421001 => if x55 = true then (if (x8 == x10) = true then ((laws_sameInts.f k x7 x9).bind fun t430 => (some t430)) else (some false)) else (if (x7.length : Int) = 0 then (none) else ((some (([] : List Int) : List Int)).bind fun y431 => (if 0 ≤ (wrap64 (1 + ((x1.length : Int) % (x7.length : Int)))) then (if (wrap64 (1 + ((x1.length : Int) % (x7.length : Int)))) ≤ (x7.length : Int) then ((some (x7.take ((wrap64 (1 + ((x1.length : Int) % (x7.length : Int)))) : Int).toNat : List Int)).bind fun y434 => (if y431.length + y434.length < 17592186044416 then ((some (y431 ++ y434 : List Int)).bind fun y438 => (if 0 ≤ (wrap64 ((wrap64 (1 + ((x1.length : Int) % (x7.length : Int)))) - 1)) then (if (wrap64 ((wrap64 (1 + ((x1.length : Int) % (x7.length : Int)))) - 1)) < (y438.length : Int) then (if (wrap64 (1 + ((x1.length : Int) % (x7.length : Int)))) ≤ (x5.length : Int) then ((impl_PlanValid.f k (x5.take ((wrap64 (1 + ((x1.length : Int) % (x7.length : Int)))) : Int).toNat) x421000 x421001 (y438.set ((wrap64 ((wrap64 (1 + ((x1.length : Int) % (x7.length : Int)))) - 1)) : Int).toNat (wrap64 ((rd y438 (wrap64 ((wrap64 (1 + ((x1.length : Int) % (x7.length : Int)))) - 1))) - 1)))).bind fun t447 => (if t447 = true then (some false) else ((impl_PlanValid.f k (x5.take ((wrap64 (1 + ((x1.length : Int) % (x7.length : Int)))) : Int).toNat) x421000 x421001 (x7.take ((wrap64 (1 + ((x1.length : Int) % (x7.length : Int)))) : Int).toNat)).bind fun t456 => (some t456)))) else (none)) else (none)) else (none))) else (none))) else (none)) else (none))))
end
def laws_FnPlanMakeEarly.f (k : Nat) (l0 : List Int) (l1 : List Int) : Option (Bool) := if (l0.length : Int) > 1048576 then (laws_FnPlanMakeEarly.j0 k l0 l1 true) else (laws_FnPlanMakeEarly.j0 k l0 l1 (decide ((l1.length : Int) > 1048576)))
theorem laws_FnPlanMakeEarly.mono_l : ∀ k, (∀ y0 y1 y2, LeO (laws_FnPlanMakeEarly.j0 k y0 y1 y2) (laws_FnPlanMakeEarly.j0 (k + 1) y0 y1 y2)) ∧ (∀ y0 y1 y2 y3 y4 y5 y6 y7 y8, LeO (laws_FnPlanMakeEarly.j1 k y0 y1 y2 y3 y4 y5 y6 y7 y8) (laws_FnPlanMakeEarly.j1 (k + 1) y0 y1 y2 y3 y4 y5 y6 y7 y8))
 | 0 => ⟨fun _ _ _ r h => by simp [laws_FnPlanMakeEarly.j0] at h, fun _ _ _ _ _ _ _ _ _ r h => by simp [laws_FnPlanMakeEarly.j1] at h⟩
 | k + 1 => by
  obtain ⟨ih0, ih1⟩ := laws_FnPlanMakeEarly.mono_l k
  refine ⟨?_, ?_⟩
  ·intro y0 y1 y2
   unfold laws_FnPlanMakeEarly.j0
   repeat' first
   | (with_reducible exact ih0 _ _ _)
   | (with_reducible exact ih1 _ _ _ _ _ _ _ _ _)
   | (with_reducible exact impl_PlanMake.mono _ _ _ _)
   | (with_reducible exact impl_PlanValid.mono _ _ _ _ _)
   | (with_reducible exact laws_sameInts.mono _ _ _)
   | (with_reducible exact spec_DrawPlanMake.mono _ _)
   | (with_reducible exact spec_PlanMake.mono _ _ _ _)
   | (with_reducible exact LeO.refl _)
   | (with_reducible exact LeO.none _)
   | (with_reducible refine LeO.ite ?_ ?_)
   | (with_reducible refine LeO.bind ?_ (fun _ => ?_))
   | exact ih0 _ _ _
   | exact ih1 _ _ _ _ _ _ _ _ _
   | exact impl_PlanMake.mono _ _ _ _
   | exact impl_PlanValid.mono _ _ _ _ _
   | exact laws_sameInts.mono _ _ _
   | exact spec_DrawPlanMake.mono _ _
   | exact spec_PlanMake.mono _ _ _ _
   | exact LeO.none _
   | refine LeO.ite ?_ ?_
   | refine LeO.bind ?_ (fun _ => ?_)
  intro y0 y1 y2 y3 y4 y5 y6 y7 y8
  unfold laws_FnPlanMakeEarly.j1
  repeat' first
  | (with_reducible exact ih0 _ _ _)
  | (with_reducible exact ih1 _ _ _ _ _ _ _ _ _)
  | (with_reducible exact impl_PlanMake.mono _ _ _ _)
  | (with_reducible exact impl_PlanValid.mono _ _ _ _ _)
  | (with_reducible exact laws_sameInts.mono _ _ _)
  | (with_reducible exact spec_DrawPlanMake.mono _ _)
  | (with_reducible exact spec_PlanMake.mono _ _ _ _)
  | (with_reducible exact LeO.refl _)
  | (with_reducible exact LeO.none _)
  | (with_reducible refine LeO.ite ?_ ?_)
  | (with_reducible refine LeO.bind ?_ (fun _ => ?_))
  | exact ih0 _ _ _
  | exact ih1 _ _ _ _ _ _ _ _ _
  | exact impl_PlanMake.mono _ _ _ _
  | exact impl_PlanValid.mono _ _ _ _ _
  | exact laws_sameInts.mono _ _ _
  | exact spec_DrawPlanMake.mono _ _
  | exact spec_PlanMake.mono _ _ _ _
  | exact LeO.none _
  | refine LeO.ite ?_ ?_
  | refine LeO.bind ?_ (fun _ => ?_)
theorem laws_FnPlanMakeEarly.mono : ∀ a0 a1 k, LeO (laws_FnPlanMakeEarly.f k a0 a1) (laws_FnPlanMakeEarly.f (k + 1) a0 a1) := by
 intro a0 a1 k
 obtain ⟨ih0, ih1⟩ := laws_FnPlanMakeEarly.mono_l k
 unfold laws_FnPlanMakeEarly.f
 repeat' first
  | (with_reducible exact ih0 _ _ _)
  | (with_reducible exact ih1 _ _ _ _ _ _ _ _ _)
  | (with_reducible exact impl_PlanMake.mono _ _ _ _)
  | (with_reducible exact impl_PlanValid.mono _ _ _ _ _)
  | (with_reducible exact laws_sameInts.mono _ _ _)
  | (with_reducible exact spec_DrawPlanMake.mono _ _)
  | (with_reducible exact spec_PlanMake.mono _ _ _ _)
  | (with_reducible exact LeO.refl _)
  | (with_reducible exact LeO.none _)
  | (with_reducible refine LeO.ite ?_ ?_)
  | (with_reducible refine LeO.bind ?_ (fun _ => ?_))
  | exact ih0 _ _ _
  | exact ih1 _ _ _ _ _ _ _ _ _
  | exact impl_PlanMake.mono _ _ _ _
  | exact impl_PlanValid.mono _ _ _ _ _
  | exact laws_sameInts.mono _ _ _
  | exact spec_DrawPlanMake.mono _ _
  | exact spec_PlanMake.mono _ _ _ _
  | exact LeO.none _
  | refine LeO.ite ?_ ?_
  | refine LeO.bind ?_ (fun _ => ?_)
def laws_FnPlanMakeEarly.T11 : Bool × List (List Nat × List Nat) := (true, [([], []), ([], []), ([0, 1], [0, 1]), ([], []), ([], []), ([2, 3, 4], [2, 3, 4]), ([5], [5]), ([6, 5], [6]), ([7], [7]), ([7], [7]), ([8, 9, 7], [7, 8, 9]), ([7], [7]), ([7], [7]), ([7], [7]), ([12, 13, 7], [7, 12, 13]), ([10, 11, 14, 7, 7], [7, 10, 11, 14]), ([7, 15], [7, 15]), ([16, 15, 0, 1, 2, 3, 4, 5, 6, 7, 8, 9, 10, 11, 12, 13, 14, 15, 16], [16])])
def laws_FnPlanMakeEarly.B11 : List Nat := [0, 0, 3, 0, 0, 31, 63, 127, 255, 255, 1023, 255, 255, 255, 12543, 32767, 65535, 131071]
theorem laws_FnPlanMakeEarly.tab11 : rtab .any (opsOf Try.f5 11) = laws_FnPlanMakeEarly.T11 := by kernel_rfl
theorem laws_FnPlanMakeEarly.bits11 : waitsOk laws_FnPlanMakeEarly.T11.2 laws_FnPlanMakeEarly.B11 = true := by kernel_rfl
set_option maxHeartbeats 8000000 in
set_option maxRecDepth 100000 in
theorem laws_FnPlanMakeEarly.calls (k : Nat) (A0 : Option Addr) (c0 : Nat) (l0 : List Int) (A1 : Option Addr) (c1 : Nat) (l1 : List Int) (r : Bool) (w : World) (hr0 : Kd.C (Kd.int .u8) w A0 l0.length l0) (hc0 : l0.length ≤ c0) (hr1 : Kd.C (Kd.int .u8) w A1 l1.length l1) (hc1 : l1.length ≤ c1) (h : laws_FnPlanMakeEarly.f k l0 l1 = some r) :
    Calls Try.prog 5 #[.slice A0 l0.length c0, .slice A1 l1.length c1] w fun e w' => e = .returned (.bool r) ∧ Below w.heap.size w w' := by
 have hu26 := Try.underlying26
 have HR0 := Aside0.mk hr0
 have HC0 := Aside0.mk hc0
 clear hr0 hc0
 have HR1 := Aside0.mk hr1
 have HC1 := Aside0.mk hc1
 clear hr1 hc1
 have HB := Aside0.mk (Below.refl w.heap.size w)
 have H : (if (l0.length : Int) > 1048576 then (laws_FnPlanMakeEarly.j0 k l0 l1 true) else (laws_FnPlanMakeEarly.j0 k l0 l1 (decide ((l1.length : Int) > 1048576)))) = some r := h
 clear h
 have HC3 := Aside0.mk H
 clear H
 go_enter Try.func5, Try.ntmps5
 go_upto_region 1 with (fail)
 go_cut [20] (fun v20 wc => ∃ (kq : Nat) (x20_2 : Bool), v20 = .bool x20_2 ∧ Aside0 (laws_FnPlanMakeEarly.j0 kq l0 l1 x20_2 = some r) ∧ Aside0 (kq ≤ k) ∧ Aside0 (Below w.heap.size w wc))
 case first =>
  have H := HC3.out
  clear HC3
  by_cases c4 : (l0.length : Int) > 1048576
  ·rw [if_pos c4] at H
   have c4b0 : decide (1048576 < (l0.length : Int)) = true := decide_eq_true c4
   have c4b1 : decide (1048576 < l0.length) = true := decide_eq_true (by omega)
   clear c4
   (first | rw [c4b0] | (simp only [i64_w, i32_w]; rw [c4b0]) | skip)
   have H' := Aside0.mk H
   clear H
   go_wp2
   go_meet
   case rel => exact ⟨_, (true), (by first | rfl | (simp; done) | (simp [*]; done)), H', ⟨by first | omega | exact Nat.le_refl _⟩, ⟨bel HB.out⟩⟩
  rw [if_neg c4] at H
  have c4b0 : decide (1048576 < (l0.length : Int)) = false := decide_eq_false c4
  have c4b1 : decide (1048576 < l0.length) = false := decide_eq_false (by omega)
  clear c4
  (first | rw [c4b0] | (simp only [i64_w, i32_w]; rw [c4b0]) | skip)
  have H' := Aside0.mk H
  clear H
  go_wp2
  go_meet
  case rel => exact ⟨_, (decide ((l1.length : Int) > 1048576)), (by first | rfl | (simp; done) | (simp [*]; done)), H', ⟨by first | omega | exact Nat.le_refl _⟩, ⟨bel HB.out⟩⟩
 case rest =>
  clear HC3
  try clear c1
  try clear p2
  try clear c4
  try clear c4b0
  try clear c4b1
  obtain ⟨kq, x20_2, rfl, HA, HJ2, HB⟩ := hcut
  cases kq with
  | zero => exact absurd HA.out (by simp [laws_FnPlanMakeEarly.j0])
  | succ kj2 =>
   have H := HA.out
   clear HA
   simp only [laws_FnPlanMakeEarly.j0] at H
   by_cases c5 : x20_2 = true
   ·subst c5
    have H1 : (some true) = some r := by rw [if_pos rfl] at H; exact H
    clear H
    have H := H1
    clear H1
    obtain rfl := Option.some.inj H
    go_wp2
    go_ret
    exact ⟨by first | rfl | (simp [errW_none, errW_some] <;> rfl) | (simp [*, errW_none, errW_some] <;> rfl), bel HB.out⟩
   replace c5 := Bool.eq_false_iff.mpr c5
   subst c5
   have H1 : ((spec_DrawPlanMake.f kj2 l0).bind fun bt413 => ((impl_PlanMake.f kj2 bt413.1 bt413.2.1 bt413.2.2).bind fun bt421 => ((spec_PlanMake.f kj2 bt413.1 bt413.2.1 bt413.2.2).bind fun bt425 => (if (bt421.2 != bt425.2) = true then (laws_FnPlanMakeEarly.j1 kj2 l1 bt413.1 bt421.1 bt421.2 bt425.1 bt425.2 true bt413.2.1 bt413.2.2) else ((laws_sameInts.f kj2 bt421.1 bt425.1).bind fun t429 => (if t429 = true then (if bt421.2 = true then (laws_FnPlanMakeEarly.j1 kj2 l1 bt413.1 bt421.1 bt421.2 bt425.1 bt425.2 ((bt425.1.length : Int) == 0) bt413.2.1 bt413.2.2) else (laws_FnPlanMakeEarly.j1 kj2 l1 bt413.1 bt421.1 bt421.2 bt425.1 bt425.2 true bt413.2.1 bt413.2.2)) else (laws_FnPlanMakeEarly.j1 kj2 l1 bt413.1 bt421.1 bt421.2 bt425.1 bt425.2 true bt413.2.1 bt413.2.2))))))) = some r := by rw [if_neg (show ¬ (false = true) by decide)] at H; exact H
   clear H
   have H := H1
   clear H1
   replace H := Option.bind_eq_some_iff.mp H
   obtain ⟨⟨t413, t416, t417⟩, A60, H⟩ := H
   replace H : ((impl_PlanMake.f kj2 t413 t416 t417).bind fun bt421 => ((spec_PlanMake.f kj2 t413 t416 t417).bind fun bt425 => (if (bt421.2 != bt425.2) = true then (laws_FnPlanMakeEarly.j1 kj2 l1 t413 bt421.1 bt421.2 bt425.1 bt425.2 true t416 t417) else ((laws_sameInts.f kj2 bt421.1 bt425.1).bind fun t429 => (if t429 = true then (if bt421.2 = true then (laws_FnPlanMakeEarly.j1 kj2 l1 t413 bt421.1 bt421.2 bt425.1 bt425.2 ((bt425.1.length : Int) == 0) t416 t417) else (laws_FnPlanMakeEarly.j1 kj2 l1 t413 bt421.1 bt421.2 bt425.1 bt425.2 true t416 t417)) else (laws_FnPlanMakeEarly.j1 kj2 l1 t413 bt421.1 bt421.2 bt425.1 bt425.2 true t416 t417)))))) = some r := H
   have A6 := Aside0.mk A60
   clear A60
   replace H := Option.bind_eq_some_iff.mp H
   obtain ⟨⟨t421, t424⟩, A70, H⟩ := H
   replace H : ((spec_PlanMake.f kj2 t413 t416 t417).bind fun bt425 => (if (t424 != bt425.2) = true then (laws_FnPlanMakeEarly.j1 kj2 l1 t413 t421 t424 bt425.1 bt425.2 true t416 t417) else ((laws_sameInts.f kj2 t421 bt425.1).bind fun t429 => (if t429 = true then (if t424 = true then (laws_FnPlanMakeEarly.j1 kj2 l1 t413 t421 t424 bt425.1 bt425.2 ((bt425.1.length : Int) == 0) t416 t417) else (laws_FnPlanMakeEarly.j1 kj2 l1 t413 t421 t424 bt425.1 bt425.2 true t416 t417)) else (laws_FnPlanMakeEarly.j1 kj2 l1 t413 t421 t424 bt425.1 bt425.2 true t416 t417))))) = some r := H
   have A7 := Aside0.mk A70
   clear A70
   replace H := Option.bind_eq_some_iff.mp H
   obtain ⟨⟨t425, t428⟩, A80, H⟩ := H
   replace H : (if (t424 != t428) = true then (laws_FnPlanMakeEarly.j1 kj2 l1 t413 t421 t424 t425 t428 true t416 t417) else ((laws_sameInts.f kj2 t421 t425).bind fun t429 => (if t429 = true then (if t424 = true then (laws_FnPlanMakeEarly.j1 kj2 l1 t413 t421 t424 t425 t428 ((t425.length : Int) == 0) t416 t417) else (laws_FnPlanMakeEarly.j1 kj2 l1 t413 t421 t424 t425 t428 true t416 t417)) else (laws_FnPlanMakeEarly.j1 kj2 l1 t413 t421 t424 t425 t428 true t416 t417)))) = some r := H
   have A8 := Aside0.mk A80
   clear A80
   have HC9 := Aside0.mk H
   clear H
   go_upto_region 6 with (first | ((with_reducible refine gate_callee (f := 7) rfl ?_); refine goesL_ (some 23) rfl rfl Try.func7 (by kernel_rfl) rfl #[.slice A0 l0.length c0] rfl (by (try simp only [List.map_toArray, List.map_cons, List.map_nil]); first | done | rfl | (simp only [List.length_drop, List.length_take]; rfl)) ?_; (with_reducible refine (spec_DrawPlanMake.calls kj2 _ _ l0 t413 t416 t417 _ ?side1 ?side2 A6.out).mono ?_); (case side1 => exact cup (Kd.C_below HR0.out HB.out)); (case side2 => exact HC0.out); rintro e w10 ⟨v414, v418, rfl, ho0, ho1, hb⟩; refine ⟨_, rfl, ?_⟩; have n0_ := Aside0.mk (Kd.S_lower ho0 (below_size (bel HB.out))); have n1_ := Aside0.mk (Kd.R_lower ho1 (below_size (bel HB.out))); have n2_ := Aside0.mk (below_step (bel HB.out) hb); clear HB; have HO415 := n0_; have HO419 := n1_; have HB := n2_; clear n0_ n1_ n2_; (try clear hb); (try clear hb2); (try clear hk); (try clear hi); (try clear ho0); (try clear ho1)) | ((with_reducible refine gate_dst (N := 6) rfl ?_); (try (refine gate_guard (by rfl) ?_; dsimp only)); refine box_event ?hg (N := 6) ?hd (cs := #[.int .i64 0, .slice none 0 0]) (t := 26) ?hr ?_; (case hd => rfl); (case hg => rfl); (case hr => first | (go_simp; done) | (go_simp; rfl)); intro gb420 hg w11 hbox hb; have n0_ := Aside0.mk (Kd.S_below (by (with_reducible repeat (first | apply Kd.S_alloc | apply Kd.S_drewN | apply Kd.S_drew)); exact HO415.out) hb); have n1_ := Aside0.mk (Kd.R_below (rup HO419.out) hb); have n2_ := Aside0.mk (below_step (bel HB.out) hb); have n3_ := Aside0.mk (hbox); have n4_ := Aside0.mk ((by rw [hg]; exact (below_size (bel HB.out)) : w.heap.size ≤ gb420)); have n5_ := Aside0.mk ((by rw [hg]; exact (below_size (bel HB.out)) : w.heap.size ≤ gb420)); clear HO415; clear HO419; clear HB; have HO415 := n0_; have HO419 := n1_; have HB := n2_; have BK420 := n3_; have GW420 := n4_; have GE420 := n5_; clear n0_ n1_ n2_ n3_ n4_ n5_; clear hb hbox hg; have hcz12_0 : w11.cell? ⟨gb420, 0, none⟩ = some (.int .i64 0) := (blk_cell BK420.out 0).trans rfl; have hcz12_1 : w11.cell? ⟨gb420, 1, none⟩ = some (.slice none 0 0) := (blk_cell BK420.out 1).trans rfl; have hfz12_0 := blk_frozen BK420.out 0; have hfz12_1 := blk_frozen BK420.out 1; obtain ⟨Ao13, co13, eo13⟩ := Kd.R_slice HO419.out; subst eo13; obtain ⟨Ao14, co14, eo14⟩ := Kd.S_slice HO415.out; subst eo14) | ((with_reducible refine gate_callee (f := 8) rfl ?_); refine goesL_ (some 29) rfl rfl Try.func8 (by kernel_rfl) rfl #[.slice Ao14 t413.length co14, .agg #[.int .i64 t416, .slice Ao13 t417.length co13]] rfl (by (try simp only [List.map_toArray, List.map_cons, List.map_nil]); first | done | rfl | (simp only [List.length_drop, List.length_take]; rfl)) ?_; (with_reducible refine (impl_PlanMake.calls kj2 _ _ t413 t416 _ _ t417 t421 t424 _ ?side1 ?side2 ?side3 ?side4 A7.out).mono ?_); (case side1 => refine (Kd.S_reads' (e := 39) (base := w.heap.size) (ok := fun k_ => some k_ ≠ (.slice Ao13 t417.length co13 : Value).ownBlock) (n := t413.length) (c := co14) ?_).2.2; exact (by (with_reducible repeat (first | apply Kd.S_alloc | apply Kd.S_drewN | apply Kd.S_drew)); exact (Kd.S_mono (Kd.S_far (p := ⟨gb420, 1, none⟩) (Kd.S_far (p := ⟨gb420, 0, none⟩) (Kd.S_types HO415.out BK420.out (by decide)) (fun _ hk => hk.2) (.int .i64 t416)) (fun _ hk => hk.2) (.slice Ao13 t417.length co13)) (fun _ h_ => h_.1)))); (case side2 => exact (Kd.S_reads' HO415.out).2.1); (case side3 => refine (Kd.R_reads' (e := 3) (base := w.heap.size) (ok := fun k_ => True) (n := t417.length) (c := co13) ?_).2.2; exact (by (with_reducible repeat (first | apply Kd.R_alloc | apply Kd.R_drewN | apply Kd.R_drew)); exact (Kd.R_mono (Kd.R_far (p := ⟨gb420, 1, none⟩) (Kd.R_far (p := ⟨gb420, 0, none⟩) (Kd.R_types HO419.out BK420.out (by decide)) (fun _ hk => hk.2) (.int .i64 t416)) (fun _ hk => hk.2) (.slice Ao13 t417.length co13)) (fun _ h_ => h_.1)))); (case side4 => exact (Kd.R_reads' HO419.out).2.1); rintro e w15 ⟨v422, rfl, ho0, hb⟩; refine ⟨_, rfl, ?_⟩; have n0_ := Aside0.mk (Kd.S_elder' (by (with_reducible repeat (first | apply Kd.S_alloc | apply Kd.S_drewN | apply Kd.S_drew)); exact (Kd.S_mono (Kd.S_far (p := ⟨gb420, 1, none⟩) (Kd.S_far (p := ⟨gb420, 0, none⟩) (Kd.S_types HO415.out BK420.out (by decide)) (fun _ hk => hk.2) (.int .i64 t416)) (fun _ hk => hk.2) (.slice Ao13 t417.length co13)) (fun _ h_ => h_.1))) (Kd.R_base ho0) hb); have n1_ := Aside0.mk (Kd.R_elder' (by (with_reducible repeat (first | apply Kd.R_alloc | apply Kd.R_drewN | apply Kd.R_drew)); exact (Kd.R_mono (Kd.R_far (p := ⟨gb420, 1, none⟩) (Kd.R_far (p := ⟨gb420, 0, none⟩) (Kd.R_types HO419.out BK420.out (by decide)) (fun _ hk => hk.2) (.int .i64 t416)) (fun _ hk => hk.2) (.slice Ao13 t417.length co13)) (fun _ h_ => h_.1))) (Kd.R_base ho0) hb); have n2_ := Aside0.mk (Kd.R_lower (Kd.R_new' ho0 (Kd.R_lt (by (with_reducible repeat (first | apply Kd.R_alloc | apply Kd.R_drewN | apply Kd.R_drew)); exact (Kd.R_mono (Kd.R_far (p := ⟨gb420, 1, none⟩) (Kd.R_far (p := ⟨gb420, 0, none⟩) (Kd.R_types HO419.out BK420.out (by decide)) (fun _ hk => hk.2) (.int .i64 t416)) (fun _ hk => hk.2) (.slice Ao13 t417.length co13)) (fun _ h_ => h_.1))))) (below_size (by repeat (first | (with_reducible first | exact HB.out | apply below_alloc | apply pw_below_drewN | apply below_drew1 | refine below_set ?_ GE420.out) | exact HB.out)))); have n3_ := Aside0.mk (blk_below (g := gb420) (o := .cells #[.int .i64 t416, .slice Ao13 t417.length co13] 26 (0, 0)) (by (with_reducible repeat (first | refine blk_drewN ?_ _ | refine blk_drew ?_ | refine blk_alloc ?_ _)); refine blk_put (cs := #[.int .i64 t416, .slice none 0 0]) ?_ 1 _ rfl; (with_reducible repeat (first | refine blk_drewN ?_ _ | refine blk_drew ?_ | refine blk_alloc ?_ _)); refine blk_put (cs := #[.int .i64 0, .slice none 0 0]) ?_ 0 _ rfl; (with_reducible repeat (first | refine blk_drewN ?_ _ | refine blk_drew ?_ | refine blk_alloc ?_ _)); exact BK420.out) hb); have n4_ := Aside0.mk (below_step (by repeat (first | (with_reducible first | exact HB.out | apply below_alloc | apply pw_below_drewN | apply below_drew1 | refine below_set ?_ GE420.out) | exact HB.out)) hb); clear HO415; clear HO419; clear BK420; clear HB; have HO415 := n0_; have HO419 := n1_; have HO423 := n2_; have BK420 := n3_; have HB := n4_; clear n0_ n1_ n2_ n3_ n4_; (try clear hb); (try clear hb2); (try clear hk); (try clear hi); (try clear ho0); have hcz16_0 : w15.cell? ⟨gb420, 0, none⟩ = some (.int .i64 t416) := (blk_cell BK420.out 0).trans rfl; have hcz16_1 : w15.cell? ⟨gb420, 1, none⟩ = some (.slice Ao13 t417.length co13) := (blk_cell BK420.out 1).trans rfl; have hfz16_0 := blk_frozen BK420.out 0; have hfz16_1 := blk_frozen BK420.out 1) | ((with_reducible refine gate_callee (f := 9) rfl ?_); refine goesL_ (some 35) rfl rfl Try.func9 (by kernel_rfl) rfl #[.slice Ao14 t413.length co14, .agg #[.int .i64 t416, .slice Ao13 t417.length co13]] rfl (by (try simp only [List.map_toArray, List.map_cons, List.map_nil]); first | done | rfl | (simp only [List.length_drop, List.length_take]; rfl)) ?_; (with_reducible refine (spec_PlanMake.calls kj2 _ _ t413 t416 _ _ t417 t425 t428 _ ?side1 ?side2 ?side3 ?side4 A8.out).mono ?_); (case side1 => repeat (first | exact (Kd.S_reads' HO415.out).2.2 | (with_reducible refine Kd.C_alloc ?_ _) | (with_reducible refine Kd.C_drewN ?_ _) | (with_reducible refine Kd.C_drew ?_))); (case side2 => exact (Kd.S_reads' HO415.out).2.1); (case side3 => exact cup (Kd.R_reads' HO419.out).2.2); (case side4 => exact (Kd.R_reads' HO419.out).2.1); rintro e w17 ⟨v426, rfl, ho0, hb⟩; refine ⟨_, rfl, ?_⟩; have n0_ := Aside0.mk (Kd.S_elder' (by (with_reducible repeat (first | apply Kd.S_alloc | apply Kd.S_drewN | apply Kd.S_drew)); exact HO415.out) (Kd.R_base ho0) hb); have n1_ := Aside0.mk (Kd.R_elder' (rup HO419.out) (Kd.R_base ho0) hb); have n2_ := Aside0.mk (Kd.R_elder' (rup HO423.out) (Kd.R_base ho0) hb); have n3_ := Aside0.mk (Kd.R_lower (Kd.R_new' (Kd.R_new' ho0 (Kd.R_lt (rup HO419.out))) (Kd.R_lt (rup HO423.out))) (below_size (by repeat (first | (with_reducible first | exact HB.out | apply below_alloc | apply pw_below_drewN | apply below_drew1 | refine below_set ?_ GE420.out) | exact HB.out)))); have n4_ := Aside0.mk (blk_below (g := gb420) (o := .cells #[.int .i64 t416, .slice Ao13 t417.length co13] 26 (0, 0)) (bup BK420.out) hb); have n5_ := Aside0.mk (below_step (by repeat (first | (with_reducible first | exact HB.out | apply below_alloc | apply pw_below_drewN | apply below_drew1 | refine below_set ?_ GE420.out) | exact HB.out)) hb); clear HO415; clear HO419; clear HO423; clear BK420; clear HB; have HO415 := n0_; have HO419 := n1_; have HO423 := n2_; have HO427 := n3_; have BK420 := n4_; have HB := n5_; clear n0_ n1_ n2_ n3_ n4_ n5_; (try clear hb); (try clear hb2); (try clear hk); (try clear hi); (try clear ho0)))
   (try simp only [Act.put, List.setIfInBounds_toArray, List.set_cons_zero, List.set_cons_succ])
   go_cut [55] (fun v55 wc => ∃ (kq : Nat) (x55_8 : Bool), v55 = .bool x55_8 ∧ Aside0 (laws_FnPlanMakeEarly.j1 kq l1 t413 t421 t424 t425 t428 x55_8 t416 t417 = some r) ∧ Aside0 (kq ≤ kj2) ∧ Aside0 (Kd.S k39 39 wc w.heap.size (fun k_ => some k_ ≠ (v422 : Value).ownBlock ∧ some k_ ≠ (v426 : Value).ownBlock ∧ some k_ ≠ ((.slice Ao13 t417.length co13) : Value).ownBlock) (.slice Ao14 t413.length co14) t413) ∧ Aside0 (Kd.R (Kd.int .i64) 3 wc w.heap.size (fun k_ => some k_ ≠ (v426 : Value).ownBlock ∧ some k_ ≠ ((.slice Ao13 t417.length co13) : Value).ownBlock) v422 t421) ∧ Aside0 (Kd.R (Kd.int .i64) 3 wc w.heap.size (fun k_ => some k_ ≠ (v422 : Value).ownBlock ∧ some k_ ≠ ((.slice Ao13 t417.length co13) : Value).ownBlock) v426 t425) ∧ Aside0 (Kd.R (Kd.int .i64) 3 wc w.heap.size (fun k_ => some k_ ≠ (v422 : Value).ownBlock ∧ some k_ ≠ (v426 : Value).ownBlock) (.slice Ao13 t417.length co13) t417) ∧ Aside0 (wc.heap[gb420]? = some (.cells #[.int .i64 t416, (.slice Ao13 t417.length co13)] 26 (0, 0))) ∧ Aside0 (Below w.heap.size w wc))
   case first =>
    have H := HC9.out
    clear HC9
    by_cases c18 : (t424 != t428) = true
    ·rw [if_pos c18] at H
     have c18b0 : (t424 != t428) = true := c18
     (try (have c18b1 : decide (t424 = t428) = false := by simpa using c18))
     (try (have c18b2 : (t424 == t428) = false := by simpa using c18))
     (try (have c18b3 : ¬ (t424 = t428) := by simpa using c18))
     clear c18
     (first | rw [c18b0] | (simp only [i64_w, i32_w]; rw [c18b0]) | skip)
     have H' := Aside0.mk H
     clear H
     go_wp2
     go_meet
     case rel => exact ⟨_, (true), (by first | rfl | (simp; done) | (simp [*]; done)), H', ⟨by have := HJ2.out; first | omega | exact Nat.le_refl _⟩, ⟨by (with_reducible repeat (first | apply Kd.S_alloc | apply Kd.S_drewN | apply Kd.S_drew)); exact Kd.S_mono HO415.out (fun _ hk => ⟨hk.1.2, ⟨hk.2, hk.1.1⟩⟩)⟩, ⟨by (with_reducible repeat (first | apply Kd.R_alloc | apply Kd.R_drewN | apply Kd.R_drew)); exact Kd.R_mono HO423.out (fun _ hk => ⟨hk.2, hk.1.2⟩)⟩, ⟨by (with_reducible repeat (first | apply Kd.R_alloc | apply Kd.R_drewN | apply Kd.R_drew)); exact Kd.R_mono HO427.out (fun _ hk => ⟨hk.2, hk.1.2⟩)⟩, ⟨by (with_reducible repeat (first | apply Kd.R_alloc | apply Kd.R_drewN | apply Kd.R_drew)); exact Kd.R_mono HO419.out (fun _ hk => ⟨hk.1.2, hk.2⟩)⟩, ⟨by (with_reducible repeat (first | refine blk_drewN ?_ _ | refine blk_drew ?_ | refine blk_alloc ?_ _)); exact BK420.out⟩, ⟨by repeat (first | (with_reducible first | exact HB.out | apply below_alloc | apply pw_below_drewN | apply below_drew1 | refine below_set ?_ GE420.out) | exact HB.out)⟩⟩
    rw [if_neg c18] at H
    have c18b0 : (t424 != t428) = false := by simpa using c18
    (try (have c18b1 : decide (t424 = t428) = true := by simpa using c18))
    (try (have c18b2 : (t424 == t428) = true := by simpa using c18))
    clear c18
    (first | rw [c18b0] | (simp only [i64_w, i32_w]; rw [c18b0]) | skip)
    replace H := Option.bind_eq_some_iff.mp H
    obtain ⟨t429, A190, H⟩ := H
    replace H : (if t429 = true then (if t424 = true then (laws_FnPlanMakeEarly.j1 kj2 l1 t413 t421 t424 t425 t428 ((t425.length : Int) == 0) t416 t417) else (laws_FnPlanMakeEarly.j1 kj2 l1 t413 t421 t424 t425 t428 true t416 t417)) else (laws_FnPlanMakeEarly.j1 kj2 l1 t413 t421 t424 t425 t428 true t416 t417)) = some r := H
    have A19 := Aside0.mk A190
    clear A190
    by_cases c20 : t429 = true
    ·subst c20
     have H1 : (if t424 = true then (laws_FnPlanMakeEarly.j1 kj2 l1 t413 t421 t424 t425 t428 ((t425.length : Int) == 0) t416 t417) else (laws_FnPlanMakeEarly.j1 kj2 l1 t413 t421 t424 t425 t428 true t416 t417)) = some r := by rw [if_pos rfl] at H; exact H
     clear H
     have H := H1
     clear H1
     by_cases c21 : t424 = true
     ·subst c21
      have H1 : (laws_FnPlanMakeEarly.j1 kj2 l1 t413 t421 true t425 t428 ((t425.length : Int) == 0) t416 t417) = some r := by rw [if_pos rfl] at H; exact H
      clear H
      have H := H1
      clear H1
      have H' := Aside0.mk H
      clear H
      obtain ⟨Ao22, co22, eo22⟩ := Kd.R_slice HO423.out
      subst eo22
      obtain ⟨Ao23, co23, eo23⟩ := Kd.R_slice HO427.out
      subst eo23
      go_wp2_with (first | (go_at_call 10; (with_reducible refine (laws_sameInts.calls kj2 _ _ t421 _ _ t425 true _ ?side1 ?side2 ?side3 ?side4 A19.out).mono ?_); (case side1 => exact cup (Kd.R_reads' HO423.out).2.2); (case side2 => exact (Kd.R_reads' HO423.out).2.1); (case side3 => exact cup (Kd.R_reads' HO427.out).2.2); (case side4 => exact (Kd.R_reads' HO427.out).2.1); rintro e w' ⟨rfl, ⟨nd, rfl⟩⟩))
      go_meet
      case rel => exact ⟨_, (((t425.length : Int) == 0)), (by first | rfl | (simp; done) | (simp [*]; done)), H', ⟨by have := HJ2.out; first | omega | exact Nat.le_refl _⟩, ⟨by (with_reducible repeat (first | apply Kd.S_alloc | apply Kd.S_drewN | apply Kd.S_drew)); exact Kd.S_mono HO415.out (fun _ hk => ⟨hk.1.2, ⟨hk.2, hk.1.1⟩⟩)⟩, ⟨by (with_reducible repeat (first | apply Kd.R_alloc | apply Kd.R_drewN | apply Kd.R_drew)); exact Kd.R_mono HO423.out (fun _ hk => ⟨hk.2, hk.1.2⟩)⟩, ⟨by (with_reducible repeat (first | apply Kd.R_alloc | apply Kd.R_drewN | apply Kd.R_drew)); exact Kd.R_mono HO427.out (fun _ hk => ⟨hk.2, hk.1.2⟩)⟩, ⟨by (with_reducible repeat (first | apply Kd.R_alloc | apply Kd.R_drewN | apply Kd.R_drew)); exact Kd.R_mono HO419.out (fun _ hk => ⟨hk.1.2, hk.2⟩)⟩, ⟨by (with_reducible repeat (first | refine blk_drewN ?_ _ | refine blk_drew ?_ | refine blk_alloc ?_ _)); exact BK420.out⟩, ⟨by repeat (first | (with_reducible first | exact HB.out | apply below_alloc | apply pw_below_drewN | apply below_drew1 | refine below_set ?_ GE420.out) | exact HB.out)⟩⟩
     replace c21 := Bool.eq_false_iff.mpr c21
     subst c21
     have H1 : (laws_FnPlanMakeEarly.j1 kj2 l1 t413 t421 false t425 t428 true t416 t417) = some r := by rw [if_neg (show ¬ (false = true) by decide)] at H; exact H
     clear H
     have H := H1
     clear H1
     have H' := Aside0.mk H
     clear H
     obtain ⟨Ao24, co24, eo24⟩ := Kd.R_slice HO423.out
     subst eo24
     obtain ⟨Ao25, co25, eo25⟩ := Kd.R_slice HO427.out
     subst eo25
     go_wp2_with (first | (go_at_call 10; (with_reducible refine (laws_sameInts.calls kj2 _ _ t421 _ _ t425 true _ ?side1 ?side2 ?side3 ?side4 A19.out).mono ?_); (case side1 => exact cup (Kd.R_reads' HO423.out).2.2); (case side2 => exact (Kd.R_reads' HO423.out).2.1); (case side3 => exact cup (Kd.R_reads' HO427.out).2.2); (case side4 => exact (Kd.R_reads' HO427.out).2.1); rintro e w' ⟨rfl, ⟨nd, rfl⟩⟩))
     go_meet
     case rel => exact ⟨_, (true), (by first | rfl | (simp; done) | (simp [*]; done)), H', ⟨by have := HJ2.out; first | omega | exact Nat.le_refl _⟩, ⟨by (with_reducible repeat (first | apply Kd.S_alloc | apply Kd.S_drewN | apply Kd.S_drew)); exact Kd.S_mono HO415.out (fun _ hk => ⟨hk.1.2, ⟨hk.2, hk.1.1⟩⟩)⟩, ⟨by (with_reducible repeat (first | apply Kd.R_alloc | apply Kd.R_drewN | apply Kd.R_drew)); exact Kd.R_mono HO423.out (fun _ hk => ⟨hk.2, hk.1.2⟩)⟩, ⟨by (with_reducible repeat (first | apply Kd.R_alloc | apply Kd.R_drewN | apply Kd.R_drew)); exact Kd.R_mono HO427.out (fun _ hk => ⟨hk.2, hk.1.2⟩)⟩, ⟨by (with_reducible repeat (first | apply Kd.R_alloc | apply Kd.R_drewN | apply Kd.R_drew)); exact Kd.R_mono HO419.out (fun _ hk => ⟨hk.1.2, hk.2⟩)⟩, ⟨by (with_reducible repeat (first | refine blk_drewN ?_ _ | refine blk_drew ?_ | refine blk_alloc ?_ _)); exact BK420.out⟩, ⟨by repeat (first | (with_reducible first | exact HB.out | apply below_alloc | apply pw_below_drewN | apply below_drew1 | refine below_set ?_ GE420.out) | exact HB.out)⟩⟩
    replace c20 := Bool.eq_false_iff.mpr c20
    subst c20
    have H1 : (laws_FnPlanMakeEarly.j1 kj2 l1 t413 t421 t424 t425 t428 true t416 t417) = some r := by rw [if_neg (show ¬ (false = true) by decide)] at H; exact H
    clear H
    have H := H1
    clear H1
    have H' := Aside0.mk H
    clear H
    obtain ⟨Ao26, co26, eo26⟩ := Kd.R_slice HO423.out
    subst eo26
    obtain ⟨Ao27, co27, eo27⟩ := Kd.R_slice HO427.out
    subst eo27
    go_wp2_with (first | (go_at_call 10; (with_reducible refine (laws_sameInts.calls kj2 _ _ t421 _ _ t425 false _ ?side1 ?side2 ?side3 ?side4 A19.out).mono ?_); (case side1 => exact cup (Kd.R_reads' HO423.out).2.2); (case side2 => exact (Kd.R_reads' HO423.out).2.1); (case side3 => exact cup (Kd.R_reads' HO427.out).2.2); (case side4 => exact (Kd.R_reads' HO427.out).2.1); rintro e w' ⟨rfl, ⟨nd, rfl⟩⟩))
    go_meet
    case rel => exact ⟨_, (true), (by first | rfl | (simp; done) | (simp [*]; done)), H', ⟨by have := HJ2.out; first | omega | exact Nat.le_refl _⟩, ⟨by (with_reducible repeat (first | apply Kd.S_alloc | apply Kd.S_drewN | apply Kd.S_drew)); exact Kd.S_mono HO415.out (fun _ hk => ⟨hk.1.2, ⟨hk.2, hk.1.1⟩⟩)⟩, ⟨by (with_reducible repeat (first | apply Kd.R_alloc | apply Kd.R_drewN | apply Kd.R_drew)); exact Kd.R_mono HO423.out (fun _ hk => ⟨hk.2, hk.1.2⟩)⟩, ⟨by (with_reducible repeat (first | apply Kd.R_alloc | apply Kd.R_drewN | apply Kd.R_drew)); exact Kd.R_mono HO427.out (fun _ hk => ⟨hk.2, hk.1.2⟩)⟩, ⟨by (with_reducible repeat (first | apply Kd.R_alloc | apply Kd.R_drewN | apply Kd.R_drew)); exact Kd.R_mono HO419.out (fun _ hk => ⟨hk.1.2, hk.2⟩)⟩, ⟨by (with_reducible repeat (first | refine blk_drewN ?_ _ | refine blk_drew ?_ | refine blk_alloc ?_ _)); exact BK420.out⟩, ⟨by repeat (first | (with_reducible first | exact HB.out | apply below_alloc | apply pw_below_drewN | apply below_drew1 | refine below_set ?_ GE420.out) | exact HB.out)⟩⟩
   case rest =>
    clear HC9
    try clear c1
    try clear c2
    try clear p2
    try clear c4
    try clear c4b0
    try clear c4b1
    try clear c5
    try clear c7
    try clear c8
    try clear c9
    try clear c18
    try clear c18b0
    try clear c18b1
    try clear c18b2
    try clear c20
    try clear c21
    try clear hcz12_0
    try clear hcz12_1
    try clear hcz16_0
    try clear hcz16_1
    try clear hfz12_0
    try clear hfz12_1
    try clear hfz16_0
    try clear hfz16_1
    try clear p2
    obtain ⟨kq, x55_8, rfl, HA, HJ8, HO_5, HO_7, HO_9, HO_421001, BK420, HB⟩ := hcut
    cases kq with
    | zero => exact absurd HA.out (by simp [laws_FnPlanMakeEarly.j1])
    | succ kj8 =>
     have H := HA.out
     clear HA
     simp only [laws_FnPlanMakeEarly.j1] at H
     by_cases c28 : x55_8 = true
     ·subst c28
      have H1 : (if (t424 == t428) = true then ((laws_sameInts.f kj8 t421 t425).bind fun t430 => (some t430)) else (some false)) = some r := by rw [if_pos rfl] at H; exact H
      clear H
      have H := H1
      clear H1
      by_cases c29 : (t424 == t428) = true
      ·rw [if_pos c29] at H
       have c29b0 : (t424 == t428) = true := c29
       (try (have c29b1 : decide (t424 = t428) = true := by simpa using c29))
       (try (have c29b2 : (t424 == t428) = true := by simpa using c29))
       clear c29
       replace H := Option.bind_eq_some_iff.mp H
       obtain ⟨t430, A300, H⟩ := H
       replace H : (some t430) = some r := H
       have A30 := Aside0.mk A300
       clear A300
       obtain rfl := Option.some.inj H
       obtain ⟨Ao31, co31, eo31⟩ := Kd.R_slice HO_7.out
       subst eo31
       obtain ⟨Ao32, co32, eo32⟩ := Kd.R_slice HO_9.out
       subst eo32
       go_wp2_with (first | (go_at_call 10; (with_reducible refine (laws_sameInts.calls kj8 _ _ t421 _ _ t425 t430 _ ?side1 ?side2 ?side3 ?side4 A30.out).mono ?_); (case side1 => exact cup (Kd.R_reads' HO_7.out).2.2); (case side2 => exact (Kd.R_reads' HO_7.out).2.1); (case side3 => exact cup (Kd.R_reads' HO_9.out).2.2); (case side4 => exact (Kd.R_reads' HO_9.out).2.1); rintro e w' ⟨rfl, ⟨nd, rfl⟩⟩))
       go_ret
       exact ⟨by first | rfl | (simp [errW_none, errW_some] <;> rfl) | (simp [*, errW_none, errW_some] <;> rfl), by repeat (first | (with_reducible first | exact HB.out | apply below_alloc | apply pw_below_drewN | apply below_drew1 | refine below_set ?_ GE420.out) | exact HB.out)⟩
      rw [if_neg c29] at H
      have c29b0 : (t424 == t428) = false := by simpa using c29
      (try (have c29b1 : decide (t424 = t428) = false := by simpa using c29))
      (try (have c29b2 : (t424 == t428) = false := by simpa using c29))
      (try (have c29b3 : ¬ (t424 = t428) := by simpa using c29))
      clear c29
      obtain rfl := Option.some.inj H
      go_wp2
      go_ret
      exact ⟨by first | rfl | (simp [errW_none, errW_some] <;> rfl) | (simp [*, errW_none, errW_some] <;> rfl), by repeat (first | (with_reducible first | exact HB.out | apply below_alloc | apply pw_below_drewN | apply below_drew1 | refine below_set ?_ GE420.out) | exact HB.out)⟩
     replace c28 := Bool.eq_false_iff.mpr c28
     subst c28
     have H1 : (if (t421.length : Int) = 0 then (none) else ((some (([] : List Int) : List Int)).bind fun y431 => (if 0 ≤ (wrap64 (1 + ((l1.length : Int) % (t421.length : Int)))) then (if (wrap64 (1 + ((l1.length : Int) % (t421.length : Int)))) ≤ (t421.length : Int) then ((some (t421.take ((wrap64 (1 + ((l1.length : Int) % (t421.length : Int)))) : Int).toNat : List Int)).bind fun y434 => (if y431.length + y434.length < 17592186044416 then ((some (y431 ++ y434 : List Int)).bind fun y438 => (if 0 ≤ (wrap64 ((wrap64 (1 + ((l1.length : Int) % (t421.length : Int)))) - 1)) then (if (wrap64 ((wrap64 (1 + ((l1.length : Int) % (t421.length : Int)))) - 1)) < (y438.length : Int) then (if (wrap64 (1 + ((l1.length : Int) % (t421.length : Int)))) ≤ (t413.length : Int) then ((impl_PlanValid.f kj8 (t413.take ((wrap64 (1 + ((l1.length : Int) % (t421.length : Int)))) : Int).toNat) t416 t417 (y438.set ((wrap64 ((wrap64 (1 + ((l1.length : Int) % (t421.length : Int)))) - 1)) : Int).toNat (wrap64 ((rd y438 (wrap64 ((wrap64 (1 + ((l1.length : Int) % (t421.length : Int)))) - 1))) - 1)))).bind fun t447 => (if t447 = true then (some false) else ((impl_PlanValid.f kj8 (t413.take ((wrap64 (1 + ((l1.length : Int) % (t421.length : Int)))) : Int).toNat) t416 t417 (t421.take ((wrap64 (1 + ((l1.length : Int) % (t421.length : Int)))) : Int).toNat)).bind fun t456 => (some t456)))) else (none)) else (none)) else (none))) else (none))) else (none)) else (none)))) = some r := by rw [if_neg (show ¬ (false = true) by decide)] at H; exact H
     clear H
     have H := H1
     clear H1
     by_cases c33 : (t421.length : Int) = 0
     ·rw [if_pos c33] at H
      exact absurd H (by simp)
     rw [if_neg c33] at H
     have c33b0 : ((t421.length : Int) == 0) = false := beq_eq_false_iff_ne.mpr c33
     have c33b1 : ((t421.length : Int) != 0) = true := bne_iff_ne.mpr c33
     have c33b2 : ¬ (t421 = []) := fun h_ => c33 (by rw [h_]; rfl)
     obtain ⟨y431, hy431⟩ : ∃ y_ : List Int, y_ = (([] : List Int)) := ⟨_, rfl⟩
     replace H : (if 0 ≤ (wrap64 (1 + ((l1.length : Int) % (t421.length : Int)))) then (if (wrap64 (1 + ((l1.length : Int) % (t421.length : Int)))) ≤ (t421.length : Int) then ((some (t421.take ((wrap64 (1 + ((l1.length : Int) % (t421.length : Int)))) : Int).toNat : List Int)).bind fun y434 => (if y431.length + y434.length < 17592186044416 then ((some (y431 ++ y434 : List Int)).bind fun y438 => (if 0 ≤ (wrap64 ((wrap64 (1 + ((l1.length : Int) % (t421.length : Int)))) - 1)) then (if (wrap64 ((wrap64 (1 + ((l1.length : Int) % (t421.length : Int)))) - 1)) < (y438.length : Int) then (if (wrap64 (1 + ((l1.length : Int) % (t421.length : Int)))) ≤ (t413.length : Int) then ((impl_PlanValid.f kj8 (t413.take ((wrap64 (1 + ((l1.length : Int) % (t421.length : Int)))) : Int).toNat) t416 t417 (y438.set ((wrap64 ((wrap64 (1 + ((l1.length : Int) % (t421.length : Int)))) - 1)) : Int).toNat (wrap64 ((rd y438 (wrap64 ((wrap64 (1 + ((l1.length : Int) % (t421.length : Int)))) - 1))) - 1)))).bind fun t447 => (if t447 = true then (some false) else ((impl_PlanValid.f kj8 (t413.take ((wrap64 (1 + ((l1.length : Int) % (t421.length : Int)))) : Int).toNat) t416 t417 (t421.take ((wrap64 (1 + ((l1.length : Int) % (t421.length : Int)))) : Int).toNat)).bind fun t456 => (some t456)))) else (none)) else (none)) else (none))) else (none))) else (none)) else (none)) = some r := by first | (rw [hy431]; with_reducible exact H) | (have H2_ := (Option.bind_some _ _).symm.trans H; rw [hy431]; with_reducible exact H2_) | (have H2_ := (Option.bind_some _ _).symm.trans H; with_reducible exact H2_) | with_reducible exact H | (rw [hy431]; exact H) | exact H
     have Ny431 := Aside0.mk hy431
     clear hy431
     obtain ⟨ji34, hji34⟩ : ∃ j_ : Int, (wrap64 (1 + ((l1.length : Int) % (t421.length : Int)))) = j_ := ⟨_, rfl⟩
     replace H : (if 0 ≤ (ji34) then (if (ji34) ≤ (t421.length : Int) then ((some (t421.take ((ji34) : Int).toNat : List Int)).bind fun y434 => (if y431.length + y434.length < 17592186044416 then ((some (y431 ++ y434 : List Int)).bind fun y438 => (if 0 ≤ (wrap64 ((ji34) - 1)) then (if (wrap64 ((ji34) - 1)) < (y438.length : Int) then (if (ji34) ≤ (t413.length : Int) then ((impl_PlanValid.f kj8 (t413.take ((ji34) : Int).toNat) t416 t417 (y438.set ((wrap64 ((ji34) - 1)) : Int).toNat (wrap64 ((rd y438 (wrap64 ((ji34) - 1))) - 1)))).bind fun t447 => (if t447 = true then (some false) else ((impl_PlanValid.f kj8 (t413.take ((ji34) : Int).toNat) t416 t417 (t421.take ((ji34) : Int).toNat)).bind fun t456 => (some t456)))) else (none)) else (none)) else (none))) else (none))) else (none)) else (none)) = some r := by first | (rw [hji34] at H; exact H) | (simp only [hji34] at H ⊢; exact H)
     have hji34w : (IntKind.i64.wrap (1 + ((l1.length : Int) % (t421.length : Int)))) = ji34 := (i64_w _).trans hji34
     by_cases c35 : 0 ≤ (ji34)
     ·rw [if_pos c35] at H
      have c35b0 := eq_true c35
      have c35b1 : decide (0 ≤ (ji34)) = true := decide_eq_true c35
      clear c35
      by_cases c36 : (ji34) ≤ (t421.length : Int)
      ·rw [if_pos c36] at H
       have c36b0 := eq_true c36
       have c36b1 : decide ((ji34) ≤ (t421.length : Int)) = true := decide_eq_true c36
       clear c36
       obtain ⟨y434, hy434⟩ : ∃ y_ : List Int, y_ = (t421.take ((ji34) : Int).toNat) := ⟨_, rfl⟩
       replace H : (if y431.length + y434.length < 17592186044416 then ((some (y431 ++ y434 : List Int)).bind fun y438 => (if 0 ≤ (wrap64 ((ji34) - 1)) then (if (wrap64 ((ji34) - 1)) < (y438.length : Int) then (if (ji34) ≤ (t413.length : Int) then ((impl_PlanValid.f kj8 (t413.take ((ji34) : Int).toNat) t416 t417 (y438.set ((wrap64 ((ji34) - 1)) : Int).toNat (wrap64 ((rd y438 (wrap64 ((ji34) - 1))) - 1)))).bind fun t447 => (if t447 = true then (some false) else ((impl_PlanValid.f kj8 (t413.take ((ji34) : Int).toNat) t416 t417 (t421.take ((ji34) : Int).toNat)).bind fun t456 => (some t456)))) else (none)) else (none)) else (none))) else (none)) = some r := by first | (rw [hy434]; with_reducible exact H) | (have H2_ := (Option.bind_some _ _).symm.trans H; rw [hy434]; with_reducible exact H2_) | (have H2_ := (Option.bind_some _ _).symm.trans H; with_reducible exact H2_) | with_reducible exact H | (rw [hy434]; exact H) | exact H
       have Ny434 := Aside0.mk hy434
       clear hy434
       by_cases c37 : y431.length + y434.length < 17592186044416
       ·rw [if_pos c37] at H
        have LMc37 := Aside0.mk c37
        clear c37
        obtain ⟨y438, hy438⟩ : ∃ y_ : List Int, y_ = (y431 ++ y434) := ⟨_, rfl⟩
        replace H : (if 0 ≤ (wrap64 ((ji34) - 1)) then (if (wrap64 ((ji34) - 1)) < (y438.length : Int) then (if (ji34) ≤ (t413.length : Int) then ((impl_PlanValid.f kj8 (t413.take ((ji34) : Int).toNat) t416 t417 (y438.set ((wrap64 ((ji34) - 1)) : Int).toNat (wrap64 ((rd y438 (wrap64 ((ji34) - 1))) - 1)))).bind fun t447 => (if t447 = true then (some false) else ((impl_PlanValid.f kj8 (t413.take ((ji34) : Int).toNat) t416 t417 (t421.take ((ji34) : Int).toNat)).bind fun t456 => (some t456)))) else (none)) else (none)) else (none)) = some r := by first | (rw [hy438]; with_reducible exact H) | (have H2_ := (Option.bind_some _ _).symm.trans H; rw [hy438]; with_reducible exact H2_) | (have H2_ := (Option.bind_some _ _).symm.trans H; with_reducible exact H2_) | with_reducible exact H | (rw [hy438]; exact H) | exact H
        have Ny438 := Aside0.mk hy438
        clear hy438
        obtain ⟨ji38, hji38⟩ : ∃ j_ : Int, (wrap64 ((ji34) - 1)) = j_ := ⟨_, rfl⟩
        replace H : (if 0 ≤ (ji38) then (if (ji38) < (y438.length : Int) then (if (ji34) ≤ (t413.length : Int) then ((impl_PlanValid.f kj8 (t413.take ((ji34) : Int).toNat) t416 t417 (y438.set ((ji38) : Int).toNat (wrap64 ((rd y438 (ji38)) - 1)))).bind fun t447 => (if t447 = true then (some false) else ((impl_PlanValid.f kj8 (t413.take ((ji34) : Int).toNat) t416 t417 (t421.take ((ji34) : Int).toNat)).bind fun t456 => (some t456)))) else (none)) else (none)) else (none)) = some r := by first | (rw [hji38] at H; exact H) | (simp only [hji38] at H ⊢; exact H)
        have hji38w : (IntKind.i64.wrap ((ji34) - 1)) = ji38 := (i64_w _).trans hji38
        by_cases c39 : 0 ≤ (ji38)
        ·rw [if_pos c39] at H
         have c39b0 : decide (0 ≤ (ji38)) = true := decide_eq_true c39
         clear c39
         by_cases c40 : (ji38) < (y438.length : Int)
         ·rw [if_pos c40] at H
          have c40b0 : decide ((ji38) < (y438.length : Int)) = true := decide_eq_true c40
          clear c40
          obtain ⟨y442, hy442⟩ : ∃ y_ : List Int, y_ = (y438.set ((ji38) : Int).toNat (wrap64 ((rd y438 (ji38)) - 1))) := ⟨_, rfl⟩
          replace H : (if (ji34) ≤ (t413.length : Int) then ((impl_PlanValid.f kj8 (t413.take ((ji34) : Int).toNat) t416 t417 y442).bind fun t447 => (if t447 = true then (some false) else ((impl_PlanValid.f kj8 (t413.take ((ji34) : Int).toNat) t416 t417 (t421.take ((ji34) : Int).toNat)).bind fun t456 => (some t456)))) else (none)) = some r := by first | (rw [hy442]; with_reducible exact H) | (have H2_ := (Option.bind_some _ _).symm.trans H; rw [hy442]; with_reducible exact H2_) | (have H2_ := (Option.bind_some _ _).symm.trans H; with_reducible exact H2_) | with_reducible exact H | (rw [hy442]; exact H) | exact H
          have Ny442 := Aside0.mk hy442
          clear hy442
          have c42b0 := eq_true (of_decide_eq_true (by assumption) : 0 ≤ (ji34))
          by_cases c43 : (ji34) ≤ (t413.length : Int)
          ·rw [if_pos c43] at H
           have c43b0 := eq_true c43
           have c43b1 : decide ((ji34) ≤ (t413.length : Int)) = true := decide_eq_true c43
           clear c43
           obtain ⟨y443, hy443⟩ : ∃ y_ : List (S39), y_ = (t413.take ((ji34) : Int).toNat) := ⟨_, rfl⟩
           replace H : ((impl_PlanValid.f kj8 y443 t416 t417 y442).bind fun t447 => (if t447 = true then (some false) else ((impl_PlanValid.f kj8 (t413.take ((ji34) : Int).toNat) t416 t417 (t421.take ((ji34) : Int).toNat)).bind fun t456 => (some t456)))) = some r := by first | (rw [hy443]; with_reducible exact H) | (have H2_ := (Option.bind_some _ _).symm.trans H; rw [hy443]; with_reducible exact H2_) | (have H2_ := (Option.bind_some _ _).symm.trans H; with_reducible exact H2_) | with_reducible exact H | (rw [hy443]; exact H) | exact H
           have Ny443 := Aside0.mk hy443
           clear hy443
           replace H := Option.bind_eq_some_iff.mp H
           obtain ⟨t447, A440, H⟩ := H
           replace H : (if t447 = true then (some false) else ((impl_PlanValid.f kj8 (t413.take ((ji34) : Int).toNat) t416 t417 (t421.take ((ji34) : Int).toNat)).bind fun t456 => (some t456))) = some r := H
           have A44 := Aside0.mk A440
           clear A440
           by_cases c45 : t447 = true
           ·subst c45
            have H1 : (some false) = some r := by rw [if_pos rfl] at H; exact H
            clear H
            have H := H1
            clear H1
            obtain rfl := Option.some.inj H
            obtain ⟨Ao46, co46, eo46⟩ := Kd.R_slice HO_7.out
            subst eo46
            try go_wp2_with (first | ((with_reducible refine gate_dst (N := 70) rfl ?_); (try (refine gate_guard (by rfl) ?_; dsimp only)); refine Kd.R_lit (Kd.int .i64) _ 3 ?hg (N := 70) ?hd (xs := ([] : List Int)) (inner := []) (ok := fun _ => True) (okp := fun _ => True) ?hr ?hp (fun _ hk => hk) trivial (Below.refl _ _) (Nat.le_refl _) (by simp) ?_; (case hd => rfl); (case hg => rfl); (case hr => first | (go_simp; done) | (go_simp; rfl)); (case hp => exact (Reps.none _ _)); intro v432 w47 ho48 hb hg_ hnew_; clear hg_ hnew_; (first | rw [← Ny431.out] at ho48 | (simp only [Int.reduceToNat] at ho48; rw [← Ny431.out] at ho48)); have n0_ := Aside0.mk (Kd.S_elder' (by (with_reducible repeat (first | apply Kd.S_alloc | apply Kd.S_drewN | apply Kd.S_drew)); exact HO_5.out) (Kd.R_base ho48) hb); have n1_ := Aside0.mk (Kd.R_elder' (rup HO_7.out) (Kd.R_base ho48) hb); have n2_ := Aside0.mk (Kd.R_elder' (rup HO_9.out) (Kd.R_base ho48) hb); have n3_ := Aside0.mk (Kd.R_elder' (rup HO_421001.out) (Kd.R_base ho48) hb); have n4_ := Aside0.mk (Kd.R_lower (Kd.R_new' (Kd.R_new' (Kd.R_new' ho48 (Kd.R_lt (rup HO_7.out))) (Kd.R_lt (rup HO_9.out))) (Kd.R_lt (rup HO_421001.out))) (below_size (by repeat (first | (with_reducible first | exact HB.out | apply below_alloc | apply pw_below_drewN | apply below_drew1 | refine below_set ?_ GE420.out) | exact HB.out)))); have n5_ := Aside0.mk (blk_below (g := gb420) (o := .cells #[.int .i64 t416, .slice Ao13 t417.length co13] 26 (0, 0)) (bup BK420.out) hb); have n6_ := Aside0.mk (below_step (by repeat (first | (with_reducible first | exact HB.out | apply below_alloc | apply pw_below_drewN | apply below_drew1 | refine below_set ?_ GE420.out) | exact HB.out)) hb); clear HO_5; clear HO_7; clear HO_9; clear HO_421001; clear BK420; clear HB; have HO_5 := n0_; have HO_7 := n1_; have HO_9 := n2_; have HO_421001 := n3_; have HO433 := n4_; have BK420 := n5_; have HB := n6_; clear n0_ n1_ n2_ n3_ n4_ n5_ n6_; clear hb ho48; have q49 : ((ji34) : Int) ≤ ((t421.length : Int) : Int) := of_decide_eq_true (by assumption); obtain ⟨i049, hi049, _, hsz49, _⟩ := info_parts info3; have hroom49 : t421.length ≤ co46 := (Kd.R_reads' HO_7.out).2.1; have hC49 : Kd.C (Kd.int .i64) _ Ao46 t421.length t421 := (Kd.R_reads' HO_7.out).2.2; have hcut49 := cut_to (P := Try.prog) 24 3 .i64 Try.underlying24 hi049 Ao46 t421.length co46 (ji34) (of_decide_eq_true (by assumption)) q49 hroom49; have hr49 := Kd.C_take (m := ((ji34) : Int).toNat) hC49 (by omega); have hy49 : y434.length = ((ji34) : Int).toNat := (by rw [Ny434.out, List.length_take]; omega); rw [← Ny434.out] at hr49; rw [← hy49] at hcut49; have HR437 := Aside0.mk hr49; have HC437 := Aside0.mk (show y434.length ≤ co46 from by omega); clear hr49 hC49 hroom49 hi049 hsz49; have KY49 := Aside0.mk hy49; clear hy49; have KL49 := Aside0.mk (show ((ji34) : Int).toNat ≤ t421.length from by omega); replace q49 := eq_true q49) | ((with_reducible refine gate_builtin (b := .append) (xs := #[.tmp 70, .tmp 73]) rfl ?_); (try (refine gate_guard (by rfl) ?_; dsimp only)); at_builtin; refine Kd.R_append_rows (Kd.int .i64) (w0 := w) w.heap.size rfl (.tmp 70) (.tmp 73) 24 3 (.int .i64 0) 8 rfl Try.underlying24 info3 rfl (by decide) (by omega) v432 y431 y434 _ _ _ (fun k_ => some k_ ≠ (.slice Ao46 t421.length co46 : Value).ownBlock ∧ some k_ ≠ (v426 : Value).ownBlock ∧ some k_ ≠ (.slice Ao13 t417.length co13 : Value).ownBlock) (fun _ => False) rfl rfl ?aO ?aR (fun _ _ h => h) (fun _ h => h.elim) ?aF ?aB ?aS ?aL ?_; (case aR => repeat (first | exact (by repeat (first | (with_reducible exact HR437.out) | (with_reducible refine Kd.C_alloc ?_ _) | (with_reducible refine Kd.C_drewN ?_ _) | (with_reducible refine Kd.C_drew ?_) | exact HR437.out)) | (with_reducible refine Kd.C_alloc ?_ _) | (with_reducible refine Kd.C_drewN ?_ _) | (with_reducible refine Kd.C_drew ?_))); (case aB => exact (by repeat (first | (with_reducible first | exact HB.out | apply below_alloc | apply pw_below_drewN | apply below_drew1 | refine below_set ?_ GE420.out) | exact HB.out))); (case aF => exact (fun k_ hk => ⟨Kd.fresh' (Kd.R_lt (rup HO_7.out)) k_ hk, Kd.fresh' (Kd.R_lt (rup HO_9.out)) k_ hk, Kd.fresh' (Kd.R_lt (rup HO_421001.out)) k_ hk⟩)); (case aO => exact (by (with_reducible repeat (first | apply Kd.R_alloc | apply Kd.R_drewN | apply Kd.R_drew)); exact Kd.R_mono HO433.out (fun _ hk => ⟨hk.1.1.2, ⟨hk.1.2, hk.2⟩⟩))); (case aS => exact (below_size (by repeat (first | (with_reducible first | exact HB.out | apply below_alloc | apply pw_below_drewN | apply below_drew1 | refine below_set ?_ GE420.out) | exact HB.out)))); (case aL => have := LMc37.out; omega); intro v439 w50 ho hb hg hat; rw [← Ny438.out] at ho; have n0_ := Aside0.mk (Kd.S_after (ok := (fun k_ => some k_ ≠ (.slice Ao46 t421.length co46 : Value).ownBlock ∧ some k_ ≠ (v426 : Value).ownBlock ∧ some k_ ≠ (.slice Ao13 t417.length co13 : Value).ownBlock)) (by (with_reducible repeat (first | apply Kd.S_alloc | apply Kd.S_drewN | apply Kd.S_drew)); exact HO_5.out) hg hat); have n1_ := Aside0.mk (Kd.R_after (ok := (fun k_ => some k_ ≠ (v426 : Value).ownBlock ∧ some k_ ≠ (.slice Ao13 t417.length co13 : Value).ownBlock)) (rup HO_7.out) hg hat); have n2_ := Aside0.mk (Kd.R_after (ok := (fun k_ => some k_ ≠ (.slice Ao46 t421.length co46 : Value).ownBlock ∧ some k_ ≠ (.slice Ao13 t417.length co13 : Value).ownBlock)) (rup HO_9.out) hg hat); have n3_ := Aside0.mk (Kd.R_after (ok := (fun k_ => some k_ ≠ (.slice Ao46 t421.length co46 : Value).ownBlock ∧ some k_ ≠ (v426 : Value).ownBlock)) (rup HO_421001.out) hg hat); have n4_ := Aside0.mk (blk_grown (g := gb420) (o := .cells #[.int .i64 t416, .slice Ao13 t417.length co13] 26 (0, 0)) (bup BK420.out) hg (Kd.R_ne HO433.out BK420.out (by decide))); have n5_ := Aside0.mk (hb); have n6_ := Aside0.mk ((show Kd.C (Kd.int .i64) w50 Ao46 y434.length y434 from by rw [Ny434.out]; exact Kd.C_take (m := ((ji34) : Int).toNat) ((Kd.R_reads' (Kd.R_after (ok := (fun k_ => some k_ ≠ (v426 : Value).ownBlock ∧ some k_ ≠ (.slice Ao13 t417.length co13 : Value).ownBlock)) (rup HO_7.out) hg hat)).2.2) KL49.out)); have n7_ := Aside0.mk (ho); clear HO_5; clear HO_7; clear HO_9; clear HO_421001; clear BK420; clear HB; clear HR437; clear HO433; have HO_5 := n0_; have HO_7 := n1_; have HO_9 := n2_; have HO_421001 := n3_; have BK420 := n4_; have HB := n5_; have HR437 := n6_; have HO440 := n7_; clear n0_ n1_ n2_ n3_ n4_ n5_ n6_ n7_; clear ho hb hg hat; obtain ⟨Ao51, co51, eo51⟩ := Kd.R_slice HO440.out; subst eo51; have p441 : 0 ≤ ((ji38) : Int) := of_decide_eq_true (by assumption); have q441 : (ji38) < (y438.length : Int) := of_decide_eq_true (by assumption); obtain ⟨ad441, e441, hx441_0⟩ := Kd.at_int (Kd.R_reads' HO440.out).2.2 (ji38) p441 q441; cases e441; replace p441 := eq_true p441; replace q441 := eq_true q441; have p41 : 0 ≤ ((ji38) : Int) := of_decide_eq_true (by assumption); have q41 : ((ji38) : Int) < ((y438.length : Int) : Int) := of_decide_eq_true (by assumption); obtain ⟨go41, co41, eo41, gb41, gl41, cl41, HG41⟩ := Kd.R_form HO440.out (by omega); (first | cases eo41 | (injection eo41 with ea_ en_ ec_; (first | subst ea_ | (injection ea_ with ea_; subst ea_)); subst ec_; clear en_)); have GB41 := Aside0.mk gb41; have GG41 := Aside0.mk HG41; clear gb41 gl41 HG41; (first | simp only [add_plain] at hx441_0 | skip); obtain ⟨hx41_0, hf41_0⟩ := Kd.R_celln 0 HO440.out ((ji38) : Int) p41 q41; replace p41 := eq_true p41; replace q41 := eq_true q41; obtain ⟨hy52_, hz52_⟩ := Kd.R_celln 0 HO440.out ((ji38) : Int) (of_decide_eq_true (by assumption)) (of_decide_eq_true (by assumption)); have HP52 := Kd.R_putg HO440.out ((ji38) : Int) (wrap64 ((rd y438 (ji38)) - 1))) | ((with_reducible refine gate_store (t := 3) (p := 84) rfl ?_); refine store_event (t := 3) (p := 84) (v := ?vo_w53) (w1 := (w50.setCell ⟨go41, ((ji38) : Int).toNat, none⟩ (.int .i64 (wrap64 ((rd y438 (ji38)) - 1))))) ?hg ?ho ?hn ?hr ?_; (case ho => rfl); (case hg => rfl); (case hn => rfl); (case hr => first | (go_simp; done) | (go_simp; rfl)); intro w53 hw; have hg : w50.grownBy w53 (some go41) := (by rw [hw]; exact HP52.2); have hp_ : Kd.R (Kd.int .i64) 3 w53 w.heap.size (fun k_ => some k_ ≠ (.slice Ao46 t421.length co46 : Value).ownBlock ∧ some k_ ≠ (v426 : Value).ownBlock ∧ some k_ ≠ (.slice Ao13 t417.length co13 : Value).ownBlock) (.slice (some ⟨go41, 0, none⟩) y438.length co51) y442 := (by rw [hw, Ny442.out]; exact HP52.1); clear HP52; have n0_ := Aside0.mk (Kd.S_after (v := (.slice (some ⟨go41, 0, none⟩) y438.length co51)) (v1 := (.slice (some ⟨go41, 0, none⟩) y438.length co51)) (ok := (fun k_ => some k_ ≠ (.slice Ao46 t421.length co46 : Value).ownBlock ∧ some k_ ≠ (v426 : Value).ownBlock ∧ some k_ ≠ (.slice Ao13 t417.length co13 : Value).ownBlock)) (by (with_reducible repeat (first | apply Kd.S_alloc | apply Kd.S_drewN | apply Kd.S_drew)); exact HO_5.out) hg (.inl rfl)); have n1_ := Aside0.mk (Kd.R_after (v := (.slice (some ⟨go41, 0, none⟩) y438.length co51)) (v1 := (.slice (some ⟨go41, 0, none⟩) y438.length co51)) (ok := (fun k_ => some k_ ≠ (v426 : Value).ownBlock ∧ some k_ ≠ (.slice Ao13 t417.length co13 : Value).ownBlock)) (rup HO_7.out) hg (.inl rfl)); have n2_ := Aside0.mk (Kd.R_after (v := (.slice (some ⟨go41, 0, none⟩) y438.length co51)) (v1 := (.slice (some ⟨go41, 0, none⟩) y438.length co51)) (ok := (fun k_ => some k_ ≠ (.slice Ao46 t421.length co46 : Value).ownBlock ∧ some k_ ≠ (.slice Ao13 t417.length co13 : Value).ownBlock)) (rup HO_9.out) hg (.inl rfl)); have n3_ := Aside0.mk (Kd.R_after (v := (.slice (some ⟨go41, 0, none⟩) y438.length co51)) (v1 := (.slice (some ⟨go41, 0, none⟩) y438.length co51)) (ok := (fun k_ => some k_ ≠ (.slice Ao46 t421.length co46 : Value).ownBlock ∧ some k_ ≠ (v426 : Value).ownBlock)) (rup HO_421001.out) hg (.inl rfl)); have n4_ := Aside0.mk (blk_grown (g := gb420) (o := .cells #[.int .i64 t416, .slice Ao13 t417.length co13] 26 (0, 0)) (bup BK420.out) hg (Kd.R_ne HO440.out BK420.out (by decide))); have n5_ := Aside0.mk (hp_); have n6_ := Aside0.mk ((by rw [hw]; exact below_set (HB.out) GB41.out : Below w.heap.size w w53)); have n7_ := Aside0.mk ((show Kd.C (Kd.int .i64) w53 Ao46 y434.length y434 from by rw [Ny434.out]; exact Kd.C_take (m := ((ji34) : Int).toNat) ((Kd.R_reads' (Kd.R_after (v := (.slice (some ⟨go41, 0, none⟩) y438.length co51)) (v1 := (.slice (some ⟨go41, 0, none⟩) y438.length co51)) (ok := (fun k_ => some k_ ≠ (v426 : Value).ownBlock ∧ some k_ ≠ (.slice Ao13 t417.length co13 : Value).ownBlock)) (rup HO_7.out) hg (.inl rfl))).2.2) KL49.out)); clear HO_5; clear HO_7; clear HO_9; clear HO_421001; clear BK420; clear HO440; clear HB; clear HR437; have HO_5 := n0_; have HO_7 := n1_; have HO_9 := n2_; have HO_421001 := n3_; have BK420 := n4_; have HO440 := n5_; have HB := n6_; have HR437 := n7_; clear n0_ n1_ n2_ n3_ n4_ n5_ n6_ n7_; clear hg hw hp_))
            have n0_ := Aside0.mk (Kd.S_drew HO_5.out)
            have n1_ := Aside0.mk (Kd.R_drew HO_7.out)
            have n2_ := Aside0.mk (Kd.R_drew HO_9.out)
            have n3_ := Aside0.mk (Kd.R_drew HO_421001.out)
            have n4_ := Aside0.mk (Kd.R_drew HO440.out)
            have n5_ := Aside0.mk (blk_drew BK420.out)
            have n6_ := Aside0.mk (Kd.C_drew HR437.out)
            have n7_ := Aside0.mk (below_drew1 HB.out)
            clear HO_5
            clear HO_7
            clear HO_9
            clear HO_421001
            clear HO440
            clear BK420
            clear HR437
            clear HB
            have HO_5 := n0_
            have HO_7 := n1_
            have HO_9 := n2_
            have HO_421001 := n3_
            have HO440 := n4_
            have BK420 := n5_
            have HR437 := n6_
            have HB := n7_
            clear n0_ n1_ n2_ n3_ n4_ n5_ n6_ n7_
            have q55 : ((ji34) : Int) ≤ ((t413.length : Int) : Int) := of_decide_eq_true (by assumption)
            obtain ⟨i055, hi055, _, hsz55, _⟩ := info_parts info39
            have hroom55 : t413.length ≤ co14 := (Kd.S_reads' HO_5.out).2.1
            have hC55 : Kd.C k39 _ Ao14 t413.length t413 := (Kd.S_reads' HO_5.out).2.2
            have hcut55 := cut_to (P := Try.prog) 23 39 .i64 Try.underlying23 hi055 Ao14 t413.length co14 (ji34) (of_decide_eq_true (by assumption)) q55 hroom55
            have hr55 := Kd.C_take (m := ((ji34) : Int).toNat) hC55 (by omega)
            have hy55 : y443.length = ((ji34) : Int).toNat := (by rw [Ny443.out, List.length_take]; omega)
            rw [← Ny443.out] at hr55
            rw [← hy55] at hcut55
            have HR446 := Aside0.mk hr55
            have HC446 := Aside0.mk (show y443.length ≤ co14 from by omega)
            clear hr55 hC55 hroom55 hi055 hsz55
            have KY55 := Aside0.mk hy55
            clear hy55
            have KL55 := Aside0.mk (show ((ji34) : Int).toNat ≤ t413.length from by omega)
            replace q55 := eq_true q55
            refine start_ (n := 18) (S := fun w' => w'.cell? ⟨gb420, 0, none⟩ = some (.int .i64 t416) ∧ w'.cell? ⟨gb420, 1, none⟩ = some (.slice Ao13 t417.length co13)) (ds := []) #[false, false, false, false, false, false, false, false, false, false, false, false, false, false, false, false, false, false] (by kernel_rfl) rfl rfl ⟨(blk_cell BK420.out 0).trans rfl, (blk_cell BK420.out 1).trans rfl⟩ (fun hHeld => ?_); refine with_tabW laws_FnPlanMakeEarly.tab11 laws_FnPlanMakeEarly.bits11 (fun HT_ HW_ => ?_)
            generalize w53.drew = w54 at HO_5 HO_7 HO_9 HO_421001 HO440 BK420 HR437 HB HR446 hHeld ⊢
            refine pure_ (i := 0) (N := some 85) (v := ?_) (a' := ?_) #[true, false, false, false, false, false, false, false, false, false, false, false, false, false, false, false, false, false] rfl rfl (any_of HT_.out (by kernel_rfl)) (fun _ _ _ h => h) (Or.inl ⟨by rfl, ?_⟩) ?_ ?_
            rotate_left
            ·intro w'
             go_simp
             with_reducible rfl
            rotate_left
            ·simp only [Act.put, List.setIfInBounds_toArray, List.set_cons_zero, List.set_cons_succ, i64_w, i32_w]
             rfl
            refine pure_ (i := 1) (N := some 86) (v := ?_) (a' := ?_) #[true, true, false, false, false, false, false, false, false, false, false, false, false, false, false, false, false, false] rfl rfl (any_of HT_.out (by kernel_rfl)) (fun _ _ _ h => h) (Or.inl ⟨by rfl, ?_⟩) ?_ ?_
            rotate_left
            ·intro w'
             go_simp
             with_reducible rfl
            rotate_left
            ·simp only [Act.put, List.setIfInBounds_toArray, List.set_cons_zero, List.set_cons_succ, i64_w, i32_w]
             rfl
            refine pure_ (i := 2) (N := some 87) (v := ?_) (a' := ?_) #[true, true, true, false, false, false, false, false, false, false, false, false, false, false, false, false, false, false] rfl rfl (any_of HT_.out (by kernel_rfl)) (fun _ _ _ h => h) (Or.inl ⟨by rfl, ?_⟩) ?_ ?_
            rotate_left
            ·intro w'
             go_simp
             with_reducible rfl
            rotate_left
            ·simp only [Act.put, List.setIfInBounds_toArray, List.set_cons_zero, List.set_cons_succ, i64_w, i32_w]
             rfl
            refine pure_ (i := 4) (N := some 89) (v := ?_) (a' := ?_) #[true, true, true, false, true, false, false, false, false, false, false, false, false, false, false, false, false, false] rfl rfl (any_of HT_.out (by kernel_rfl)) (fun _ _ _ h => h) (Or.inl ⟨by rfl, ?_⟩) ?_ ?_
            rotate_left
            ·intro w'
             go_simp
             with_reducible rfl
            rotate_left
            ·simp only [Act.put, List.setIfInBounds_toArray, List.set_cons_zero, List.set_cons_succ, i64_w, i32_w]
             rfl
            refine take_ (i := 3) (N := some 88) (v := ?_) (a' := ?_) #[true, true, true, true, true, false, false, false, false, false, false, false, false, false, false, false, false, false] rfl rfl (take_ofW HT_.out HW_.out (by kernel_rfl)) (fun _ _ _ h => h) (Or.inl ⟨by rfl, ?_⟩) hHeld ?_ ?_
            rotate_left
            ·rintro w' ⟨s0, s1⟩
             go_simp
             with_reducible rfl
            rotate_left
            ·simp only [Act.put, List.setIfInBounds_toArray, List.set_cons_zero, List.set_cons_succ, i64_w, i32_w]
             rfl
            refine one_ (i := 5) (N := some 90) #[true, true, true, true, true, true, false, false, false, false, false, false, false, false, false, false, false, false] rfl rfl (one_of HT_.out (by kernel_rfl)) (by decide) (fun K hK => ?_)
            refine goes_ Try.func11 (by kernel_rfl) rfl #[.slice Ao14 y443.length co14, .agg #[.int .i64 t416, .slice Ao13 t417.length co13], .slice (some ⟨go41, 0, none⟩) y442.length co51] (by rfl) rfl rfl (by (try simp only [List.map_toArray, List.map_cons, List.map_nil]); first | done | (rw [show y442.length = y438.length from (Kd.R_reads' HO440.out).1.symm] <;> rfl) | rfl | (simp only [List.length_drop, List.length_take]; rfl)) ?_
            with_reducible refine (impl_PlanValid.calls kj8 _ _ y443 t416 _ _ t417 _ _ y442 true _ ?side1 ?side2 ?side3 ?side4 ?side5 ?side6 A44.out).mono ?_
            (case side1 => repeat (first | exact (by repeat (first | (with_reducible exact HR446.out) | (with_reducible refine Kd.C_alloc ?_ _) | (with_reducible refine Kd.C_drewN ?_ _) | (with_reducible refine Kd.C_drew ?_) | exact HR446.out)) | (with_reducible refine Kd.C_alloc ?_ _) | (with_reducible refine Kd.C_drewN ?_ _) | (with_reducible refine Kd.C_drew ?_)))
            (case side2 => exact HC446.out)
            (case side3 => exact cup (Kd.R_reads' HO_421001.out).2.2)
            (case side4 => exact (Kd.R_reads' HO_421001.out).2.1)
            (case side5 => exact cup (Kd.R_reads' HO440.out).2.2)
            (case side6 => rw [show y442.length = y438.length from (Kd.R_reads' HO440.out).1.symm]; exact (Kd.R_reads' HO440.out).2.1)
            rintro e w56 ⟨rfl, hb⟩
            refine ⟨_, rfl, ?_⟩
            have n0_ := Aside0.mk (Kd.S_below (by (with_reducible repeat (first | apply Kd.S_alloc | apply Kd.S_drewN | apply Kd.S_drew)); exact HO_5.out) hb)
            have n1_ := Aside0.mk (Kd.R_below (rup HO_7.out) hb)
            have n2_ := Aside0.mk (Kd.R_below (rup HO_9.out) hb)
            have n3_ := Aside0.mk (Kd.R_below (rup HO_421001.out) hb)
            have n4_ := Aside0.mk (Kd.R_below (rup HO440.out) hb)
            have n5_ := Aside0.mk (blk_below (g := gb420) (o := .cells #[.int .i64 t416, .slice Ao13 t417.length co13] 26 (0, 0)) (bup BK420.out) hb)
            have n6_ := Aside0.mk (Kd.C_below (by repeat (first | (with_reducible exact HR437.out) | (with_reducible refine Kd.C_alloc ?_ _) | (with_reducible refine Kd.C_drewN ?_ _) | (with_reducible refine Kd.C_drew ?_) | exact HR437.out)) hb)
            have n7_ := Aside0.mk (Kd.C_below (by repeat (first | (with_reducible exact HR446.out) | (with_reducible refine Kd.C_alloc ?_ _) | (with_reducible refine Kd.C_drewN ?_ _) | (with_reducible refine Kd.C_drew ?_) | exact HR446.out)) hb)
            have n8_ := Aside0.mk (below_step (by repeat (first | (with_reducible first | exact HB.out | apply below_alloc | apply pw_below_drewN | apply below_drew1 | refine below_set ?_ GE420.out) | exact HB.out)) hb)
            clear HO_5
            clear HO_7
            clear HO_9
            clear HO_421001
            clear HO440
            clear BK420
            clear HR437
            clear HR446
            clear HB
            have HO_5 := n0_
            have HO_7 := n1_
            have HO_9 := n2_
            have HO_421001 := n3_
            have HO440 := n4_
            have BK420 := n5_
            have HR437 := n6_
            have HR446 := n7_
            have HB := n8_
            clear n0_ n1_ n2_ n3_ n4_ n5_ n6_ n7_ n8_
            (try clear hb)
            (try clear hb2)
            (try clear hk)
            (try clear hi)
            refine hK.out _ _ ⟨(blk_cell BK420.out 0).trans rfl, (blk_cell BK420.out 1).trans rfl⟩ (fun hHeld => ?_)
            clear hK K
            refine norm_ (a' := ?_) ?_ ?_
            rotate_left
            ·show Act.put _ (some 90) _ = _
             simp only [Act.put, List.setIfInBounds_toArray, List.set_cons_zero, List.set_cons_succ, i64_w, i32_w]
             rfl
            refine pure_ (i := 6) (N := some 91) (v := ?_) (a' := ?_) #[true, true, true, true, true, true, true, false, false, false, false, false, false, false, false, false, false, false] rfl rfl (any_of HT_.out (by kernel_rfl)) (fun _ _ _ h => h) (Or.inl ⟨by rfl, ?_⟩) ?_ ?_
            rotate_left
            ·intro w'
             go_simp
             with_reducible rfl
            rotate_left
            ·simp only [Act.put, List.setIfInBounds_toArray, List.set_cons_zero, List.set_cons_succ, i64_w, i32_w]
             rfl
            refine pure_ (i := 7) (N := some 92) (v := ?_) (a' := ?_) #[true, true, true, true, true, true, true, true, false, false, false, false, false, false, false, false, false, false] rfl rfl (any_of HT_.out (by kernel_rfl)) (fun _ _ _ h => h) (Or.inl ⟨by rfl, ?_⟩) ?_ ?_
            rotate_left
            ·intro w'
             go_simp
             with_reducible rfl
            rotate_left
            ·simp only [Act.put, List.setIfInBounds_toArray, List.set_cons_zero, List.set_cons_succ, i64_w, i32_w]
             rfl
            refine pure_ (i := 8) (N := some 93) (v := undef) (a' := ?_) #[true, true, true, true, true, true, true, true, true, false, false, false, false, false, false, false, false, false] rfl rfl (any_of HT_.out (by kernel_rfl)) (fun _ _ _ h => h) (Or.inr ⟨by rfl, rfl⟩) ?_ ?_
            rotate_left
            ·simp only [Act.put, List.setIfInBounds_toArray, List.set_cons_zero, List.set_cons_succ, i64_w, i32_w]
             rfl
            refine pure_ (i := 9) (N := some 94) (v := undef) (a' := ?_) #[true, true, true, true, true, true, true, true, true, true, false, false, false, false, false, false, false, false] rfl rfl (any_of HT_.out (by kernel_rfl)) (fun _ _ _ h => h) (Or.inr ⟨by rfl, rfl⟩) ?_ ?_
            rotate_left
            ·simp only [Act.put, List.setIfInBounds_toArray, List.set_cons_zero, List.set_cons_succ, i64_w, i32_w]
             rfl
            refine pure_ (i := 10) (N := some 95) (v := undef) (a' := ?_) #[true, true, true, true, true, true, true, true, true, true, true, false, false, false, false, false, false, false] rfl rfl (any_of HT_.out (by kernel_rfl)) (fun _ _ _ h => h) (Or.inr ⟨by rfl, rfl⟩) ?_ ?_
            rotate_left
            ·simp only [Act.put, List.setIfInBounds_toArray, List.set_cons_zero, List.set_cons_succ, i64_w, i32_w]
             rfl
            refine pure_ (i := 11) (N := some 96) (v := undef) (a' := ?_) #[true, true, true, true, true, true, true, true, true, true, true, true, false, false, false, false, false, false] rfl rfl (any_of HT_.out (by kernel_rfl)) (fun _ _ _ h => h) (Or.inr ⟨by rfl, rfl⟩) ?_ ?_
            rotate_left
            ·simp only [Act.put, List.setIfInBounds_toArray, List.set_cons_zero, List.set_cons_succ, i64_w, i32_w]
             rfl
            refine pure_ (i := 12) (N := some 97) (v := undef) (a' := ?_) #[true, true, true, true, true, true, true, true, true, true, true, true, true, false, false, false, false, false] rfl rfl (any_of HT_.out (by kernel_rfl)) (fun _ _ _ h => h) (Or.inr ⟨by rfl, rfl⟩) ?_ ?_
            rotate_left
            ·simp only [Act.put, List.setIfInBounds_toArray, List.set_cons_zero, List.set_cons_succ, i64_w, i32_w]
             rfl
            refine pure_ (i := 13) (N := some 98) (v := undef) (a' := ?_) #[true, true, true, true, true, true, true, true, true, true, true, true, true, true, false, false, false, false] rfl rfl (any_of HT_.out (by kernel_rfl)) (fun _ _ _ h => h) (Or.inr ⟨by rfl, rfl⟩) ?_ ?_
            rotate_left
            ·simp only [Act.put, List.setIfInBounds_toArray, List.set_cons_zero, List.set_cons_succ, i64_w, i32_w]
             rfl
            refine pure_ (i := 14) (N := some 99) (v := undef) (a' := ?_) #[true, true, true, true, true, true, true, true, true, true, true, true, true, true, true, false, false, false] rfl rfl (any_of HT_.out (by kernel_rfl)) (fun _ _ _ h => h) (Or.inr ⟨by rfl, rfl⟩) ?_ ?_
            rotate_left
            ·simp only [Act.put, List.setIfInBounds_toArray, List.set_cons_zero, List.set_cons_succ, i64_w, i32_w]
             rfl
            refine pure_ (i := 15) (N := some 100) (v := undef) (a' := ?_) #[true, true, true, true, true, true, true, true, true, true, true, true, true, true, true, true, false, false] rfl rfl (any_of HT_.out (by kernel_rfl)) (fun _ _ _ h => h) (Or.inr ⟨by rfl, rfl⟩) ?_ ?_
            rotate_left
            ·simp only [Act.put, List.setIfInBounds_toArray, List.set_cons_zero, List.set_cons_succ, i64_w, i32_w]
             rfl
            refine pure_ (i := 16) (N := some 101) (v := ?_) (a' := ?_) #[true, true, true, true, true, true, true, true, true, true, true, true, true, true, true, true, true, false] rfl rfl (any_of HT_.out (by kernel_rfl)) (fun _ _ _ h => h) (Or.inl ⟨by rfl, ?_⟩) ?_ ?_
            rotate_left
            ·intro w'
             go_simp
             with_reducible rfl
            rotate_left
            ·simp only [Act.put, List.setIfInBounds_toArray, List.set_cons_zero, List.set_cons_succ, i64_w, i32_w]
             rfl
            refine pure_ (i := 17) (N := some 4) (v := ?_) (a' := ?_) #[true, true, true, true, true, true, true, true, true, true, true, true, true, true, true, true, true, true] rfl rfl (any_of HT_.out (by kernel_rfl)) (fun _ _ _ h => h) (Or.inl ⟨by rfl, ?_⟩) ?_ ?_
            rotate_left
            ·intro w'
             go_simp
             with_reducible rfl
            rotate_left
            ·simp only [Act.put, List.setIfInBounds_toArray, List.set_cons_zero, List.set_cons_succ, i64_w, i32_w]
             rfl
            refine done_ (done_of HT_.out (by kernel_rfl)) ?_
            try go_wp2
            go_ret
            exact ⟨by first | rfl | (simp [errW_none, errW_some] <;> rfl) | (simp only [← hji34, ← hji38]; first | rfl | (simp [errW_none, errW_some] <;> rfl)) | (simp [*, errW_none, errW_some] <;> rfl), by repeat (first | (with_reducible first | exact HB.out | apply below_alloc | apply pw_below_drewN | apply below_drew1 | refine below_set ?_ GE420.out) | exact HB.out)⟩
           replace c45 := Bool.eq_false_iff.mpr c45
           subst c45
           have H1 : ((impl_PlanValid.f kj8 (t413.take ((ji34) : Int).toNat) t416 t417 (t421.take ((ji34) : Int).toNat)).bind fun t456 => (some t456)) = some r := by rw [if_neg (show ¬ (false = true) by decide)] at H; exact H
           clear H
           have H := H1
           clear H1
           have c57b0 := eq_true (of_decide_eq_true (by assumption) : 0 ≤ (ji34))
           have c58b0 := eq_true (of_decide_eq_true (by assumption) : (ji34) ≤ (t413.length : Int))
           obtain ⟨y448, hy448⟩ : ∃ y_ : List (S39), y_ = (t413.take ((ji34) : Int).toNat) := ⟨_, rfl⟩
           replace H : ((impl_PlanValid.f kj8 y448 t416 t417 (t421.take ((ji34) : Int).toNat)).bind fun t456 => (some t456)) = some r := by first | (rw [hy448]; with_reducible exact H) | (have H2_ := (Option.bind_some _ _).symm.trans H; rw [hy448]; with_reducible exact H2_) | (have H2_ := (Option.bind_some _ _).symm.trans H; with_reducible exact H2_) | with_reducible exact H | (rw [hy448]; exact H) | exact H
           have Ny448 := Aside0.mk hy448
           clear hy448
           have c59b0 := eq_true (of_decide_eq_true (by assumption) : 0 ≤ (ji34))
           have c60b0 := eq_true (of_decide_eq_true (by assumption) : (ji34) ≤ (t421.length : Int))
           obtain ⟨y452, hy452⟩ : ∃ y_ : List Int, y_ = (t421.take ((ji34) : Int).toNat) := ⟨_, rfl⟩
           replace H : ((impl_PlanValid.f kj8 y448 t416 t417 y452).bind fun t456 => (some t456)) = some r := by first | (rw [hy452]; with_reducible exact H) | (have H2_ := (Option.bind_some _ _).symm.trans H; rw [hy452]; with_reducible exact H2_) | (have H2_ := (Option.bind_some _ _).symm.trans H; with_reducible exact H2_) | with_reducible exact H | (rw [hy452]; exact H) | exact H
           have Ny452 := Aside0.mk hy452
           clear hy452
           replace H := Option.bind_eq_some_iff.mp H
           obtain ⟨t456, A610, H⟩ := H
           replace H : (some t456) = some r := H
           have A61 := Aside0.mk A610
           clear A610
           obtain rfl := Option.some.inj H
           obtain ⟨Ao62, co62, eo62⟩ := Kd.R_slice HO_7.out
           subst eo62
           try go_wp2_with (first | ((with_reducible refine gate_dst (N := 70) rfl ?_); (try (refine gate_guard (by rfl) ?_; dsimp only)); refine Kd.R_lit (Kd.int .i64) _ 3 ?hg (N := 70) ?hd (xs := ([] : List Int)) (inner := []) (ok := fun _ => True) (okp := fun _ => True) ?hr ?hp (fun _ hk => hk) trivial (Below.refl _ _) (Nat.le_refl _) (by simp) ?_; (case hd => rfl); (case hg => rfl); (case hr => first | (go_simp; done) | (go_simp; rfl)); (case hp => exact (Reps.none _ _)); intro v432 w63 ho64 hb hg_ hnew_; clear hg_ hnew_; (first | rw [← Ny431.out] at ho64 | (simp only [Int.reduceToNat] at ho64; rw [← Ny431.out] at ho64)); have n0_ := Aside0.mk (Kd.S_elder' (by (with_reducible repeat (first | apply Kd.S_alloc | apply Kd.S_drewN | apply Kd.S_drew)); exact HO_5.out) (Kd.R_base ho64) hb); have n1_ := Aside0.mk (Kd.R_elder' (rup HO_7.out) (Kd.R_base ho64) hb); have n2_ := Aside0.mk (Kd.R_elder' (rup HO_9.out) (Kd.R_base ho64) hb); have n3_ := Aside0.mk (Kd.R_elder' (rup HO_421001.out) (Kd.R_base ho64) hb); have n4_ := Aside0.mk (Kd.R_lower (Kd.R_new' (Kd.R_new' (Kd.R_new' ho64 (Kd.R_lt (rup HO_7.out))) (Kd.R_lt (rup HO_9.out))) (Kd.R_lt (rup HO_421001.out))) (below_size (by repeat (first | (with_reducible first | exact HB.out | apply below_alloc | apply pw_below_drewN | apply below_drew1 | refine below_set ?_ GE420.out) | exact HB.out)))); have n5_ := Aside0.mk (blk_below (g := gb420) (o := .cells #[.int .i64 t416, .slice Ao13 t417.length co13] 26 (0, 0)) (bup BK420.out) hb); have n6_ := Aside0.mk (below_step (by repeat (first | (with_reducible first | exact HB.out | apply below_alloc | apply pw_below_drewN | apply below_drew1 | refine below_set ?_ GE420.out) | exact HB.out)) hb); clear HO_5; clear HO_7; clear HO_9; clear HO_421001; clear BK420; clear HB; have HO_5 := n0_; have HO_7 := n1_; have HO_9 := n2_; have HO_421001 := n3_; have HO433 := n4_; have BK420 := n5_; have HB := n6_; clear n0_ n1_ n2_ n3_ n4_ n5_ n6_; clear hb ho64; have q65 : ((ji34) : Int) ≤ ((t421.length : Int) : Int) := of_decide_eq_true (by assumption); obtain ⟨i065, hi065, _, hsz65, _⟩ := info_parts info3; have hroom65 : t421.length ≤ co62 := (Kd.R_reads' HO_7.out).2.1; have hC65 : Kd.C (Kd.int .i64) _ Ao62 t421.length t421 := (Kd.R_reads' HO_7.out).2.2; have hcut65 := cut_to (P := Try.prog) 24 3 .i64 Try.underlying24 hi065 Ao62 t421.length co62 (ji34) (of_decide_eq_true (by assumption)) q65 hroom65; have hr65 := Kd.C_take (m := ((ji34) : Int).toNat) hC65 (by omega); have hy65 : y434.length = ((ji34) : Int).toNat := (by rw [Ny434.out, List.length_take]; omega); rw [← Ny434.out] at hr65; rw [← hy65] at hcut65; have HR437 := Aside0.mk hr65; have HC437 := Aside0.mk (show y434.length ≤ co62 from by omega); clear hr65 hC65 hroom65 hi065 hsz65; have KY65 := Aside0.mk hy65; clear hy65; have KL65 := Aside0.mk (show ((ji34) : Int).toNat ≤ t421.length from by omega); replace q65 := eq_true q65) | ((with_reducible refine gate_builtin (b := .append) (xs := #[.tmp 70, .tmp 73]) rfl ?_); (try (refine gate_guard (by rfl) ?_; dsimp only)); at_builtin; refine Kd.R_append_rows (Kd.int .i64) (w0 := w) w.heap.size rfl (.tmp 70) (.tmp 73) 24 3 (.int .i64 0) 8 rfl Try.underlying24 info3 rfl (by decide) (by omega) v432 y431 y434 _ _ _ (fun k_ => some k_ ≠ (.slice Ao62 t421.length co62 : Value).ownBlock ∧ some k_ ≠ (v426 : Value).ownBlock ∧ some k_ ≠ (.slice Ao13 t417.length co13 : Value).ownBlock) (fun _ => False) rfl rfl ?aO ?aR (fun _ _ h => h) (fun _ h => h.elim) ?aF ?aB ?aS ?aL ?_; (case aR => repeat (first | exact (by repeat (first | (with_reducible exact HR437.out) | (with_reducible refine Kd.C_alloc ?_ _) | (with_reducible refine Kd.C_drewN ?_ _) | (with_reducible refine Kd.C_drew ?_) | exact HR437.out)) | (with_reducible refine Kd.C_alloc ?_ _) | (with_reducible refine Kd.C_drewN ?_ _) | (with_reducible refine Kd.C_drew ?_))); (case aB => exact (by repeat (first | (with_reducible first | exact HB.out | apply below_alloc | apply pw_below_drewN | apply below_drew1 | refine below_set ?_ GE420.out) | exact HB.out))); (case aF => exact (fun k_ hk => ⟨Kd.fresh' (Kd.R_lt (rup HO_7.out)) k_ hk, Kd.fresh' (Kd.R_lt (rup HO_9.out)) k_ hk, Kd.fresh' (Kd.R_lt (rup HO_421001.out)) k_ hk⟩)); (case aO => exact (by (with_reducible repeat (first | apply Kd.R_alloc | apply Kd.R_drewN | apply Kd.R_drew)); exact Kd.R_mono HO433.out (fun _ hk => ⟨hk.1.1.2, ⟨hk.1.2, hk.2⟩⟩))); (case aS => exact (below_size (by repeat (first | (with_reducible first | exact HB.out | apply below_alloc | apply pw_below_drewN | apply below_drew1 | refine below_set ?_ GE420.out) | exact HB.out)))); (case aL => have := LMc37.out; omega); intro v439 w66 ho hb hg hat; rw [← Ny438.out] at ho; have n0_ := Aside0.mk (Kd.S_after (ok := (fun k_ => some k_ ≠ (.slice Ao62 t421.length co62 : Value).ownBlock ∧ some k_ ≠ (v426 : Value).ownBlock ∧ some k_ ≠ (.slice Ao13 t417.length co13 : Value).ownBlock)) (by (with_reducible repeat (first | apply Kd.S_alloc | apply Kd.S_drewN | apply Kd.S_drew)); exact HO_5.out) hg hat); have n1_ := Aside0.mk (Kd.R_after (ok := (fun k_ => some k_ ≠ (v426 : Value).ownBlock ∧ some k_ ≠ (.slice Ao13 t417.length co13 : Value).ownBlock)) (rup HO_7.out) hg hat); have n2_ := Aside0.mk (Kd.R_after (ok := (fun k_ => some k_ ≠ (.slice Ao62 t421.length co62 : Value).ownBlock ∧ some k_ ≠ (.slice Ao13 t417.length co13 : Value).ownBlock)) (rup HO_9.out) hg hat); have n3_ := Aside0.mk (Kd.R_after (ok := (fun k_ => some k_ ≠ (.slice Ao62 t421.length co62 : Value).ownBlock ∧ some k_ ≠ (v426 : Value).ownBlock)) (rup HO_421001.out) hg hat); have n4_ := Aside0.mk (blk_grown (g := gb420) (o := .cells #[.int .i64 t416, .slice Ao13 t417.length co13] 26 (0, 0)) (bup BK420.out) hg (Kd.R_ne HO433.out BK420.out (by decide))); have n5_ := Aside0.mk (hb); have n6_ := Aside0.mk ((show Kd.C (Kd.int .i64) w66 Ao62 y434.length y434 from by rw [Ny434.out]; exact Kd.C_take (m := ((ji34) : Int).toNat) ((Kd.R_reads' (Kd.R_after (ok := (fun k_ => some k_ ≠ (v426 : Value).ownBlock ∧ some k_ ≠ (.slice Ao13 t417.length co13 : Value).ownBlock)) (rup HO_7.out) hg hat)).2.2) KL65.out)); have n7_ := Aside0.mk (ho); clear HO_5; clear HO_7; clear HO_9; clear HO_421001; clear BK420; clear HB; clear HR437; clear HO433; have HO_5 := n0_; have HO_7 := n1_; have HO_9 := n2_; have HO_421001 := n3_; have BK420 := n4_; have HB := n5_; have HR437 := n6_; have HO440 := n7_; clear n0_ n1_ n2_ n3_ n4_ n5_ n6_ n7_; clear ho hb hg hat; obtain ⟨Ao67, co67, eo67⟩ := Kd.R_slice HO440.out; subst eo67; have p441 : 0 ≤ ((ji38) : Int) := of_decide_eq_true (by assumption); have q441 : (ji38) < (y438.length : Int) := of_decide_eq_true (by assumption); obtain ⟨ad441, e441, hx441_0⟩ := Kd.at_int (Kd.R_reads' HO440.out).2.2 (ji38) p441 q441; cases e441; replace p441 := eq_true p441; replace q441 := eq_true q441; have p41 : 0 ≤ ((ji38) : Int) := of_decide_eq_true (by assumption); have q41 : ((ji38) : Int) < ((y438.length : Int) : Int) := of_decide_eq_true (by assumption); obtain ⟨go41, co41, eo41, gb41, gl41, cl41, HG41⟩ := Kd.R_form HO440.out (by omega); (first | cases eo41 | (injection eo41 with ea_ en_ ec_; (first | subst ea_ | (injection ea_ with ea_; subst ea_)); subst ec_; clear en_)); have GB41 := Aside0.mk gb41; have GG41 := Aside0.mk HG41; clear gb41 gl41 HG41; (first | simp only [add_plain] at hx441_0 | skip); obtain ⟨hx41_0, hf41_0⟩ := Kd.R_celln 0 HO440.out ((ji38) : Int) p41 q41; replace p41 := eq_true p41; replace q41 := eq_true q41; obtain ⟨hy68_, hz68_⟩ := Kd.R_celln 0 HO440.out ((ji38) : Int) (of_decide_eq_true (by assumption)) (of_decide_eq_true (by assumption)); have HP68 := Kd.R_putg HO440.out ((ji38) : Int) (wrap64 ((rd y438 (ji38)) - 1))) | ((with_reducible refine gate_store (t := 3) (p := 84) rfl ?_); refine store_event (t := 3) (p := 84) (v := ?vo_w69) (w1 := (w66.setCell ⟨go41, ((ji38) : Int).toNat, none⟩ (.int .i64 (wrap64 ((rd y438 (ji38)) - 1))))) ?hg ?ho ?hn ?hr ?_; (case ho => rfl); (case hg => rfl); (case hn => rfl); (case hr => first | (go_simp; done) | (go_simp; rfl)); intro w69 hw; have hg : w66.grownBy w69 (some go41) := (by rw [hw]; exact HP68.2); have hp_ : Kd.R (Kd.int .i64) 3 w69 w.heap.size (fun k_ => some k_ ≠ (.slice Ao62 t421.length co62 : Value).ownBlock ∧ some k_ ≠ (v426 : Value).ownBlock ∧ some k_ ≠ (.slice Ao13 t417.length co13 : Value).ownBlock) (.slice (some ⟨go41, 0, none⟩) y438.length co67) y442 := (by rw [hw, Ny442.out]; exact HP68.1); clear HP68; have n0_ := Aside0.mk (Kd.S_after (v := (.slice (some ⟨go41, 0, none⟩) y438.length co67)) (v1 := (.slice (some ⟨go41, 0, none⟩) y438.length co67)) (ok := (fun k_ => some k_ ≠ (.slice Ao62 t421.length co62 : Value).ownBlock ∧ some k_ ≠ (v426 : Value).ownBlock ∧ some k_ ≠ (.slice Ao13 t417.length co13 : Value).ownBlock)) (by (with_reducible repeat (first | apply Kd.S_alloc | apply Kd.S_drewN | apply Kd.S_drew)); exact HO_5.out) hg (.inl rfl)); have n1_ := Aside0.mk (Kd.R_after (v := (.slice (some ⟨go41, 0, none⟩) y438.length co67)) (v1 := (.slice (some ⟨go41, 0, none⟩) y438.length co67)) (ok := (fun k_ => some k_ ≠ (v426 : Value).ownBlock ∧ some k_ ≠ (.slice Ao13 t417.length co13 : Value).ownBlock)) (rup HO_7.out) hg (.inl rfl)); have n2_ := Aside0.mk (Kd.R_after (v := (.slice (some ⟨go41, 0, none⟩) y438.length co67)) (v1 := (.slice (some ⟨go41, 0, none⟩) y438.length co67)) (ok := (fun k_ => some k_ ≠ (.slice Ao62 t421.length co62 : Value).ownBlock ∧ some k_ ≠ (.slice Ao13 t417.length co13 : Value).ownBlock)) (rup HO_9.out) hg (.inl rfl)); have n3_ := Aside0.mk (Kd.R_after (v := (.slice (some ⟨go41, 0, none⟩) y438.length co67)) (v1 := (.slice (some ⟨go41, 0, none⟩) y438.length co67)) (ok := (fun k_ => some k_ ≠ (.slice Ao62 t421.length co62 : Value).ownBlock ∧ some k_ ≠ (v426 : Value).ownBlock)) (rup HO_421001.out) hg (.inl rfl)); have n4_ := Aside0.mk (blk_grown (g := gb420) (o := .cells #[.int .i64 t416, .slice Ao13 t417.length co13] 26 (0, 0)) (bup BK420.out) hg (Kd.R_ne HO440.out BK420.out (by decide))); have n5_ := Aside0.mk (hp_); have n6_ := Aside0.mk ((by rw [hw]; exact below_set (HB.out) GB41.out : Below w.heap.size w w69)); have n7_ := Aside0.mk ((show Kd.C (Kd.int .i64) w69 Ao62 y434.length y434 from by rw [Ny434.out]; exact Kd.C_take (m := ((ji34) : Int).toNat) ((Kd.R_reads' (Kd.R_after (v := (.slice (some ⟨go41, 0, none⟩) y438.length co67)) (v1 := (.slice (some ⟨go41, 0, none⟩) y438.length co67)) (ok := (fun k_ => some k_ ≠ (v426 : Value).ownBlock ∧ some k_ ≠ (.slice Ao13 t417.length co13 : Value).ownBlock)) (rup HO_7.out) hg (.inl rfl))).2.2) KL65.out)); clear HO_5; clear HO_7; clear HO_9; clear HO_421001; clear BK420; clear HO440; clear HB; clear HR437; have HO_5 := n0_; have HO_7 := n1_; have HO_9 := n2_; have HO_421001 := n3_; have BK420 := n4_; have HO440 := n5_; have HB := n6_; have HR437 := n7_; clear n0_ n1_ n2_ n3_ n4_ n5_ n6_ n7_; clear hg hw hp_))
           have n0_ := Aside0.mk (Kd.S_drew HO_5.out)
           have n1_ := Aside0.mk (Kd.R_drew HO_7.out)
           have n2_ := Aside0.mk (Kd.R_drew HO_9.out)
           have n3_ := Aside0.mk (Kd.R_drew HO_421001.out)
           have n4_ := Aside0.mk (Kd.R_drew HO440.out)
           have n5_ := Aside0.mk (blk_drew BK420.out)
           have n6_ := Aside0.mk (Kd.C_drew HR437.out)
           have n7_ := Aside0.mk (below_drew1 HB.out)
           clear HO_5
           clear HO_7
           clear HO_9
           clear HO_421001
           clear HO440
           clear BK420
           clear HR437
           clear HB
           have HO_5 := n0_
           have HO_7 := n1_
           have HO_9 := n2_
           have HO_421001 := n3_
           have HO440 := n4_
           have BK420 := n5_
           have HR437 := n6_
           have HB := n7_
           clear n0_ n1_ n2_ n3_ n4_ n5_ n6_ n7_
           have q71 : ((ji34) : Int) ≤ ((t413.length : Int) : Int) := of_decide_eq_true (by assumption)
           obtain ⟨i071, hi071, _, hsz71, _⟩ := info_parts info39
           have hroom71 : t413.length ≤ co14 := (Kd.S_reads' HO_5.out).2.1
           have hC71 : Kd.C k39 _ Ao14 t413.length t413 := (Kd.S_reads' HO_5.out).2.2
           have hcut71 := cut_to (P := Try.prog) 23 39 .i64 Try.underlying23 hi071 Ao14 t413.length co14 (ji34) (of_decide_eq_true (by assumption)) q71 hroom71
           have hr71 := Kd.C_take (m := ((ji34) : Int).toNat) hC71 (by omega)
           have hy71 : y443.length = ((ji34) : Int).toNat := (by rw [Ny443.out, List.length_take]; omega)
           rw [← Ny443.out] at hr71
           rw [← hy71] at hcut71
           have HR446 := Aside0.mk hr71
           have HC446 := Aside0.mk (show y443.length ≤ co14 from by omega)
           clear hr71 hC71 hroom71 hi071 hsz71
           have KY71 := Aside0.mk hy71
           clear hy71
           have KL71 := Aside0.mk (show ((ji34) : Int).toNat ≤ t413.length from by omega)
           replace q71 := eq_true q71
           refine start_ (n := 18) (S := fun w' => w'.cell? ⟨gb420, 0, none⟩ = some (.int .i64 t416) ∧ w'.cell? ⟨gb420, 1, none⟩ = some (.slice Ao13 t417.length co13)) (ds := []) #[false, false, false, false, false, false, false, false, false, false, false, false, false, false, false, false, false, false] (by kernel_rfl) rfl rfl ⟨(blk_cell BK420.out 0).trans rfl, (blk_cell BK420.out 1).trans rfl⟩ (fun hHeld => ?_); refine with_tabW laws_FnPlanMakeEarly.tab11 laws_FnPlanMakeEarly.bits11 (fun HT_ HW_ => ?_)
           generalize w69.drew = w70 at HO_5 HO_7 HO_9 HO_421001 HO440 BK420 HR437 HB HR446 hHeld ⊢
           refine pure_ (i := 0) (N := some 85) (v := ?_) (a' := ?_) #[true, false, false, false, false, false, false, false, false, false, false, false, false, false, false, false, false, false] rfl rfl (any_of HT_.out (by kernel_rfl)) (fun _ _ _ h => h) (Or.inl ⟨by rfl, ?_⟩) ?_ ?_
           rotate_left
           ·intro w'
            go_simp
            with_reducible rfl
           rotate_left
           ·simp only [Act.put, List.setIfInBounds_toArray, List.set_cons_zero, List.set_cons_succ, i64_w, i32_w]
            rfl
           refine pure_ (i := 1) (N := some 86) (v := ?_) (a' := ?_) #[true, true, false, false, false, false, false, false, false, false, false, false, false, false, false, false, false, false] rfl rfl (any_of HT_.out (by kernel_rfl)) (fun _ _ _ h => h) (Or.inl ⟨by rfl, ?_⟩) ?_ ?_
           rotate_left
           ·intro w'
            go_simp
            with_reducible rfl
           rotate_left
           ·simp only [Act.put, List.setIfInBounds_toArray, List.set_cons_zero, List.set_cons_succ, i64_w, i32_w]
            rfl
           refine pure_ (i := 2) (N := some 87) (v := ?_) (a' := ?_) #[true, true, true, false, false, false, false, false, false, false, false, false, false, false, false, false, false, false] rfl rfl (any_of HT_.out (by kernel_rfl)) (fun _ _ _ h => h) (Or.inl ⟨by rfl, ?_⟩) ?_ ?_
           rotate_left
           ·intro w'
            go_simp
            with_reducible rfl
           rotate_left
           ·simp only [Act.put, List.setIfInBounds_toArray, List.set_cons_zero, List.set_cons_succ, i64_w, i32_w]
            rfl
           refine pure_ (i := 4) (N := some 89) (v := ?_) (a' := ?_) #[true, true, true, false, true, false, false, false, false, false, false, false, false, false, false, false, false, false] rfl rfl (any_of HT_.out (by kernel_rfl)) (fun _ _ _ h => h) (Or.inl ⟨by rfl, ?_⟩) ?_ ?_
           rotate_left
           ·intro w'
            go_simp
            with_reducible rfl
           rotate_left
           ·simp only [Act.put, List.setIfInBounds_toArray, List.set_cons_zero, List.set_cons_succ, i64_w, i32_w]
            rfl
           refine take_ (i := 3) (N := some 88) (v := ?_) (a' := ?_) #[true, true, true, true, true, false, false, false, false, false, false, false, false, false, false, false, false, false] rfl rfl (take_ofW HT_.out HW_.out (by kernel_rfl)) (fun _ _ _ h => h) (Or.inl ⟨by rfl, ?_⟩) hHeld ?_ ?_
           rotate_left
           ·rintro w' ⟨s0, s1⟩
            go_simp
            with_reducible rfl
           rotate_left
           ·simp only [Act.put, List.setIfInBounds_toArray, List.set_cons_zero, List.set_cons_succ, i64_w, i32_w]
            rfl
           refine one_ (i := 5) (N := some 90) #[true, true, true, true, true, true, false, false, false, false, false, false, false, false, false, false, false, false] rfl rfl (one_of HT_.out (by kernel_rfl)) (by decide) (fun K hK => ?_)
           refine goes_ Try.func11 (by kernel_rfl) rfl #[.slice Ao14 y443.length co14, .agg #[.int .i64 t416, .slice Ao13 t417.length co13], .slice (some ⟨go41, 0, none⟩) y442.length co67] (by rfl) rfl rfl (by (try simp only [List.map_toArray, List.map_cons, List.map_nil]); first | done | (rw [show y442.length = y438.length from (Kd.R_reads' HO440.out).1.symm] <;> rfl) | rfl | (simp only [List.length_drop, List.length_take]; rfl) | (simp only [Ny443.out, Ny448.out]; rfl)) ?_
           with_reducible refine (impl_PlanValid.calls kj8 _ _ y443 t416 _ _ t417 _ _ y442 false _ ?side1 ?side2 ?side3 ?side4 ?side5 ?side6 A44.out).mono ?_
           (case side1 => repeat (first | exact (by repeat (first | (with_reducible exact HR446.out) | (with_reducible refine Kd.C_alloc ?_ _) | (with_reducible refine Kd.C_drewN ?_ _) | (with_reducible refine Kd.C_drew ?_) | exact HR446.out)) | (with_reducible refine Kd.C_alloc ?_ _) | (with_reducible refine Kd.C_drewN ?_ _) | (with_reducible refine Kd.C_drew ?_)))
           (case side2 => exact HC446.out)
           (case side3 => exact cup (Kd.R_reads' HO_421001.out).2.2)
           (case side4 => exact (Kd.R_reads' HO_421001.out).2.1)
           (case side5 => exact cup (Kd.R_reads' HO440.out).2.2)
           (case side6 => rw [show y442.length = y438.length from (Kd.R_reads' HO440.out).1.symm]; exact (Kd.R_reads' HO440.out).2.1)
           rintro e w72 ⟨rfl, hb⟩
           refine ⟨_, rfl, ?_⟩
           have n0_ := Aside0.mk (Kd.S_below (by (with_reducible repeat (first | apply Kd.S_alloc | apply Kd.S_drewN | apply Kd.S_drew)); exact HO_5.out) hb)
           have n1_ := Aside0.mk (Kd.R_below (rup HO_7.out) hb)
           have n2_ := Aside0.mk (Kd.R_below (rup HO_9.out) hb)
           have n3_ := Aside0.mk (Kd.R_below (rup HO_421001.out) hb)
           have n4_ := Aside0.mk (Kd.R_below (rup HO440.out) hb)
           have n5_ := Aside0.mk (blk_below (g := gb420) (o := .cells #[.int .i64 t416, .slice Ao13 t417.length co13] 26 (0, 0)) (bup BK420.out) hb)
           have n6_ := Aside0.mk (Kd.C_below (by repeat (first | (with_reducible exact HR437.out) | (with_reducible refine Kd.C_alloc ?_ _) | (with_reducible refine Kd.C_drewN ?_ _) | (with_reducible refine Kd.C_drew ?_) | exact HR437.out)) hb)
           have n7_ := Aside0.mk (Kd.C_below (by repeat (first | (with_reducible exact HR446.out) | (with_reducible refine Kd.C_alloc ?_ _) | (with_reducible refine Kd.C_drewN ?_ _) | (with_reducible refine Kd.C_drew ?_) | exact HR446.out)) hb)
           have n8_ := Aside0.mk (below_step (by repeat (first | (with_reducible first | exact HB.out | apply below_alloc | apply pw_below_drewN | apply below_drew1 | refine below_set ?_ GE420.out) | exact HB.out)) hb)
           clear HO_5
           clear HO_7
           clear HO_9
           clear HO_421001
           clear HO440
           clear BK420
           clear HR437
           clear HR446
           clear HB
           have HO_5 := n0_
           have HO_7 := n1_
           have HO_9 := n2_
           have HO_421001 := n3_
           have HO440 := n4_
           have BK420 := n5_
           have HR437 := n6_
           have HR446 := n7_
           have HB := n8_
           clear n0_ n1_ n2_ n3_ n4_ n5_ n6_ n7_ n8_
           (try clear hb)
           (try clear hb2)
           (try clear hk)
           (try clear hi)
           have q73 : ((ji34) : Int) ≤ ((t413.length : Int) : Int) := of_decide_eq_true (by assumption)
           obtain ⟨i073, hi073, _, hsz73, _⟩ := info_parts info39
           have hroom73 : t413.length ≤ co14 := (Kd.S_reads' HO_5.out).2.1
           have hC73 : Kd.C k39 _ Ao14 t413.length t413 := (Kd.S_reads' HO_5.out).2.2
           have hcut73 := cut_to (P := Try.prog) 23 39 .i64 Try.underlying23 hi073 Ao14 t413.length co14 (ji34) (of_decide_eq_true (by assumption)) q73 hroom73
           have hr73 := Kd.C_take (m := ((ji34) : Int).toNat) hC73 (by omega)
           have hy73 : y448.length = ((ji34) : Int).toNat := (by rw [Ny448.out, List.length_take]; omega)
           rw [← Ny448.out] at hr73
           rw [← hy73] at hcut73
           have HR451 := Aside0.mk hr73
           have HC451 := Aside0.mk (show y448.length ≤ co14 from by omega)
           clear hr73 hC73 hroom73 hi073 hsz73
           have KY73 := Aside0.mk hy73
           clear hy73
           have KL73 := Aside0.mk (show ((ji34) : Int).toNat ≤ t413.length from by omega)
           replace q73 := eq_true q73
           have q74 : ((ji34) : Int) ≤ ((t421.length : Int) : Int) := of_decide_eq_true (by assumption)
           obtain ⟨i074, hi074, _, hsz74, _⟩ := info_parts info3
           have hroom74 : t421.length ≤ co62 := (Kd.R_reads' HO_7.out).2.1
           have hC74 : Kd.C (Kd.int .i64) _ Ao62 t421.length t421 := (Kd.R_reads' HO_7.out).2.2
           have hcut74 := cut_to (P := Try.prog) 24 3 .i64 Try.underlying24 hi074 Ao62 t421.length co62 (ji34) (of_decide_eq_true (by assumption)) q74 hroom74
           have hr74 := Kd.C_take (m := ((ji34) : Int).toNat) hC74 (by omega)
           have hy74 : y452.length = ((ji34) : Int).toNat := (by rw [Ny452.out, List.length_take]; omega)
           rw [← Ny452.out] at hr74
           rw [← hy74] at hcut74
           have HR455 := Aside0.mk hr74
           have HC455 := Aside0.mk (show y452.length ≤ co62 from by omega)
           clear hr74 hC74 hroom74 hi074 hsz74
           have KY74 := Aside0.mk hy74
           clear hy74
           have KL74 := Aside0.mk (show ((ji34) : Int).toNat ≤ t421.length from by omega)
           replace q74 := eq_true q74
           refine hK.out _ _ ⟨(blk_cell BK420.out 0).trans rfl, (blk_cell BK420.out 1).trans rfl⟩ (fun hHeld => ?_)
           clear hK K
           refine norm_ (a' := ?_) ?_ ?_
           rotate_left
           ·show Act.put _ (some 90) _ = _
            simp only [Act.put, List.setIfInBounds_toArray, List.set_cons_zero, List.set_cons_succ, i64_w, i32_w]
            rfl
           refine pure_ (i := 6) (N := some 91) (v := ?_) (a' := ?_) #[true, true, true, true, true, true, true, false, false, false, false, false, false, false, false, false, false, false] rfl rfl (any_of HT_.out (by kernel_rfl)) (fun _ _ _ h => h) (Or.inl ⟨by rfl, ?_⟩) ?_ ?_
           rotate_left
           ·intro w'
            go_simp
            with_reducible rfl
           rotate_left
           ·simp only [Act.put, List.setIfInBounds_toArray, List.set_cons_zero, List.set_cons_succ, i64_w, i32_w]
            rfl
           refine pure_ (i := 7) (N := some 92) (v := ?_) (a' := ?_) #[true, true, true, true, true, true, true, true, false, false, false, false, false, false, false, false, false, false] rfl rfl (any_of HT_.out (by kernel_rfl)) (fun _ _ _ h => h) (Or.inl ⟨by rfl, ?_⟩) ?_ ?_
           rotate_left
           ·intro w'
            go_simp
            with_reducible rfl
           rotate_left
           ·simp only [Act.put, List.setIfInBounds_toArray, List.set_cons_zero, List.set_cons_succ, i64_w, i32_w]
            rfl
           refine pure_ (i := 8) (N := some 93) (v := ?_) (a' := ?_) #[true, true, true, true, true, true, true, true, true, false, false, false, false, false, false, false, false, false] rfl rfl (any_of HT_.out (by kernel_rfl)) (fun _ _ _ h => h) (Or.inl ⟨by rfl, ?_⟩) ?_ ?_
           rotate_left
           ·intro w'
            go_simp
            with_reducible rfl
           rotate_left
           ·simp only [Act.put, List.setIfInBounds_toArray, List.set_cons_zero, List.set_cons_succ, i64_w, i32_w]
            rfl
           refine pure_ (i := 9) (N := some 94) (v := ?_) (a' := ?_) #[true, true, true, true, true, true, true, true, true, true, false, false, false, false, false, false, false, false] rfl rfl (any_of HT_.out (by kernel_rfl)) (fun _ _ _ h => h) (Or.inl ⟨by rfl, ?_⟩) ?_ ?_
           rotate_left
           ·intro w'
            go_simp
            with_reducible rfl
           rotate_left
           ·simp only [Act.put, List.setIfInBounds_toArray, List.set_cons_zero, List.set_cons_succ, i64_w, i32_w]
            rfl
           refine pure_ (i := 10) (N := some 95) (v := ?_) (a' := ?_) #[true, true, true, true, true, true, true, true, true, true, true, false, false, false, false, false, false, false] rfl rfl (any_of HT_.out (by kernel_rfl)) (fun _ _ _ h => h) (Or.inl ⟨by rfl, ?_⟩) ?_ ?_
           rotate_left
           ·intro w'
            go_simp
            with_reducible rfl
           rotate_left
           ·simp only [Act.put, List.setIfInBounds_toArray, List.set_cons_zero, List.set_cons_succ, i64_w, i32_w]
            rfl
           refine pure_ (i := 12) (N := some 97) (v := ?_) (a' := ?_) #[true, true, true, true, true, true, true, true, true, true, true, false, true, false, false, false, false, false] rfl rfl (any_of HT_.out (by kernel_rfl)) (fun _ _ _ h => h) (Or.inl ⟨by rfl, ?_⟩) ?_ ?_
           rotate_left
           ·intro w'
            go_simp
            with_reducible rfl
           rotate_left
           ·simp only [Act.put, List.setIfInBounds_toArray, List.set_cons_zero, List.set_cons_succ, i64_w, i32_w]
            rfl
           refine pure_ (i := 13) (N := some 98) (v := ?_) (a' := ?_) #[true, true, true, true, true, true, true, true, true, true, true, false, true, true, false, false, false, false] rfl rfl (any_of HT_.out (by kernel_rfl)) (fun _ _ _ h => h) (Or.inl ⟨by rfl, ?_⟩) ?_ ?_
           rotate_left
           ·intro w'
            go_simp
            with_reducible rfl
           rotate_left
           ·simp only [Act.put, List.setIfInBounds_toArray, List.set_cons_zero, List.set_cons_succ, i64_w, i32_w]
            rfl
           refine pure_ (i := 14) (N := some 99) (v := ?_) (a' := ?_) #[true, true, true, true, true, true, true, true, true, true, true, false, true, true, true, false, false, false] rfl rfl (any_of HT_.out (by kernel_rfl)) (fun _ _ _ h => h) (Or.inl ⟨by rfl, ?_⟩) ?_ ?_
           rotate_left
           ·intro w'
            go_simp
            with_reducible rfl
           rotate_left
           ·simp only [Act.put, List.setIfInBounds_toArray, List.set_cons_zero, List.set_cons_succ, i64_w, i32_w]
            rfl
           refine take_ (i := 11) (N := some 96) (v := ?_) (a' := ?_) #[true, true, true, true, true, true, true, true, true, true, true, true, true, true, true, false, false, false] rfl rfl (take_ofW HT_.out HW_.out (by kernel_rfl)) (fun _ _ _ h => h) (Or.inl ⟨by rfl, ?_⟩) hHeld ?_ ?_
           rotate_left
           ·rintro w' ⟨s0, s1⟩
            go_simp
            with_reducible rfl
           rotate_left
           ·simp only [Act.put, List.setIfInBounds_toArray, List.set_cons_zero, List.set_cons_succ, i64_w, i32_w]
            rfl
           refine one_ (i := 15) (N := some 100) #[true, true, true, true, true, true, true, true, true, true, true, true, true, true, true, true, false, false] rfl rfl (one_of HT_.out (by kernel_rfl)) (by decide) (fun K hK => ?_)
           refine goes_ Try.func11 (by kernel_rfl) rfl #[.slice Ao14 y448.length co14, .agg #[.int .i64 t416, .slice Ao13 t417.length co13], .slice Ao62 y452.length co62] (by rfl) rfl rfl (by (try simp only [List.map_toArray, List.map_cons, List.map_nil]); first | done | rfl | (simp only [List.length_drop, List.length_take]; rfl) | (simp only [Ny448.out, Ny443.out, Ny452.out, Ny434.out]; rfl)) ?_
           with_reducible refine (impl_PlanValid.calls kj8 _ _ y448 t416 _ _ t417 _ _ y452 t456 _ ?side1 ?side2 ?side3 ?side4 ?side5 ?side6 A61.out).mono ?_
           (case side1 => repeat (first | exact (by repeat (first | (with_reducible exact HR451.out) | (with_reducible refine Kd.C_alloc ?_ _) | (with_reducible refine Kd.C_drewN ?_ _) | (with_reducible refine Kd.C_drew ?_) | exact HR451.out)) | (with_reducible refine Kd.C_alloc ?_ _) | (with_reducible refine Kd.C_drewN ?_ _) | (with_reducible refine Kd.C_drew ?_)))
           (case side2 => exact HC451.out)
           (case side3 => exact cup (Kd.R_reads' HO_421001.out).2.2)
           (case side4 => exact (Kd.R_reads' HO_421001.out).2.1)
           (case side5 => repeat (first | exact (by repeat (first | (with_reducible exact HR455.out) | (with_reducible refine Kd.C_alloc ?_ _) | (with_reducible refine Kd.C_drewN ?_ _) | (with_reducible refine Kd.C_drew ?_) | exact HR455.out)) | (with_reducible refine Kd.C_alloc ?_ _) | (with_reducible refine Kd.C_drewN ?_ _) | (with_reducible refine Kd.C_drew ?_)))
           (case side6 => exact HC455.out)
           rintro e w75 ⟨rfl, hb⟩
           refine ⟨_, rfl, ?_⟩
           have n0_ := Aside0.mk (Kd.S_below (by (with_reducible repeat (first | apply Kd.S_alloc | apply Kd.S_drewN | apply Kd.S_drew)); exact HO_5.out) hb)
           have n1_ := Aside0.mk (Kd.R_below (rup HO_7.out) hb)
           have n2_ := Aside0.mk (Kd.R_below (rup HO_9.out) hb)
           have n3_ := Aside0.mk (Kd.R_below (rup HO_421001.out) hb)
           have n4_ := Aside0.mk (Kd.R_below (rup HO440.out) hb)
           have n5_ := Aside0.mk (blk_below (g := gb420) (o := .cells #[.int .i64 t416, .slice Ao13 t417.length co13] 26 (0, 0)) (bup BK420.out) hb)
           have n6_ := Aside0.mk (Kd.C_below (by repeat (first | (with_reducible exact HR437.out) | (with_reducible refine Kd.C_alloc ?_ _) | (with_reducible refine Kd.C_drewN ?_ _) | (with_reducible refine Kd.C_drew ?_) | exact HR437.out)) hb)
           have n7_ := Aside0.mk (Kd.C_below (by repeat (first | (with_reducible exact HR446.out) | (with_reducible refine Kd.C_alloc ?_ _) | (with_reducible refine Kd.C_drewN ?_ _) | (with_reducible refine Kd.C_drew ?_) | exact HR446.out)) hb)
           have n8_ := Aside0.mk (Kd.C_below (by repeat (first | (with_reducible exact HR451.out) | (with_reducible refine Kd.C_alloc ?_ _) | (with_reducible refine Kd.C_drewN ?_ _) | (with_reducible refine Kd.C_drew ?_) | exact HR451.out)) hb)
           have n9_ := Aside0.mk (Kd.C_below (by repeat (first | (with_reducible exact HR455.out) | (with_reducible refine Kd.C_alloc ?_ _) | (with_reducible refine Kd.C_drewN ?_ _) | (with_reducible refine Kd.C_drew ?_) | exact HR455.out)) hb)
           have n10_ := Aside0.mk (below_step (by repeat (first | (with_reducible first | exact HB.out | apply below_alloc | apply pw_below_drewN | apply below_drew1 | refine below_set ?_ GE420.out) | exact HB.out)) hb)
           clear HO_5
           clear HO_7
           clear HO_9
           clear HO_421001
           clear HO440
           clear BK420
           clear HR437
           clear HR446
           clear HR451
           clear HR455
           clear HB
           have HO_5 := n0_
           have HO_7 := n1_
           have HO_9 := n2_
           have HO_421001 := n3_
           have HO440 := n4_
           have BK420 := n5_
           have HR437 := n6_
           have HR446 := n7_
           have HR451 := n8_
           have HR455 := n9_
           have HB := n10_
           clear n0_ n1_ n2_ n3_ n4_ n5_ n6_ n7_ n8_ n9_ n10_
           (try clear hb)
           (try clear hb2)
           (try clear hk)
           (try clear hi)
           refine hK.out _ _ ⟨(blk_cell BK420.out 0).trans rfl, (blk_cell BK420.out 1).trans rfl⟩ (fun hHeld => ?_)
           clear hK K
           refine norm_ (a' := ?_) ?_ ?_
           rotate_left
           ·show Act.put _ (some 100) _ = _
            simp only [Act.put, List.setIfInBounds_toArray, List.set_cons_zero, List.set_cons_succ, i64_w, i32_w]
            rfl
           refine pure_ (i := 16) (N := some 101) (v := ?_) (a' := ?_) #[true, true, true, true, true, true, true, true, true, true, true, true, true, true, true, true, true, false] rfl rfl (any_of HT_.out (by kernel_rfl)) (fun _ _ _ h => h) (Or.inl ⟨by rfl, ?_⟩) ?_ ?_
           rotate_left
           ·intro w'
            go_simp
            with_reducible rfl
           rotate_left
           ·simp only [Act.put, List.setIfInBounds_toArray, List.set_cons_zero, List.set_cons_succ, i64_w, i32_w]
            rfl
           refine pure_ (i := 17) (N := some 4) (v := ?_) (a' := ?_) #[true, true, true, true, true, true, true, true, true, true, true, true, true, true, true, true, true, true] rfl rfl (any_of HT_.out (by kernel_rfl)) (fun _ _ _ h => h) (Or.inl ⟨by rfl, ?_⟩) ?_ ?_
           rotate_left
           ·intro w'
            go_simp
            with_reducible rfl
           rotate_left
           ·simp only [Act.put, List.setIfInBounds_toArray, List.set_cons_zero, List.set_cons_succ, i64_w, i32_w]
            rfl
           refine done_ (done_of HT_.out (by kernel_rfl)) ?_
           try go_wp2
           go_ret
           exact ⟨by first | rfl | (simp [errW_none, errW_some] <;> rfl) | (simp only [← hji34, ← hji38]; first | rfl | (simp [errW_none, errW_some] <;> rfl)) | (simp [*, errW_none, errW_some] <;> rfl), by repeat (first | (with_reducible first | exact HB.out | apply below_alloc | apply pw_below_drewN | apply below_drew1 | refine below_set ?_ GE420.out) | exact HB.out)⟩
          rw [if_neg c43] at H
          exact absurd H (by simp)
         rw [if_neg c40] at H
         exact absurd H (by simp)
        rw [if_neg c39] at H
        exact absurd H (by simp)
       rw [if_neg c37] at H
       exact absurd H (by simp)
      rw [if_neg c36] at H
      exact absurd H (by simp)
     rw [if_neg c35] at H
     exact absurd H (by simp)

/-- THE ONE PURE STATEMENT of laws_FnPlanMakeEarly: yours. -/
def laws_FnPlanMakeEarly.Pure : Prop := ∀ (l0 : List Int) (l1 : List Int), l0.length ≤ maxLen → l0.length * 1 ≤ 140737488351232 → (∀ x ∈ l0, (Lit.int .u8 x).wf = true) → l1.length ≤ maxLen → l1.length * 1 ≤ 140737488351232 → (∀ x ∈ l1, (Lit.int .u8 x).wf = true) → ∃ k, laws_FnPlanMakeEarly.f k l0 l1 = some true
theorem laws_FnPlanMakeEarly.walk (P : laws_FnPlanMakeEarly.Pure) (a0 : Option Addr) (len0 cap0 : Nat) (z0 : List Int) (a1 : Option Addr) (len1 cap1 : Nat) (z1 : List Int) (w : World) (w0 : (a0 = none ∧ len0 = 0 ∧ cap0 = 0 ∧ z0 = []) ∨ ∃ x, a0 = some x ∧ len0 ≤ cap0 ∧ cap0 ≤ maxLen ∧ z0.length = cap0 ∧ (∀ i, i < z0.length → w.cell? (x.add i) = some (.int .u8 (z0.getD i 0))) ∧ ∀ n ∈ z0, (Lit.int .u8 n).wf = true) (y0 : len0 * 1 ≤ 140737488351232) (w1 : (a1 = none ∧ len1 = 0 ∧ cap1 = 0 ∧ z1 = []) ∨ ∃ x, a1 = some x ∧ len1 ≤ cap1 ∧ cap1 ≤ maxLen ∧ z1.length = cap1 ∧ (∀ i, i < z1.length → w.cell? (x.add i) = some (.int .u8 (z1.getD i 0))) ∧ ∀ n ∈ z1, (Lit.int .u8 n).wf = true) (y1 : len1 * 1 ≤ 140737488351232) :
    Calls Try.prog 5 #[.slice a0 len0 cap0, .slice a1 len1 cap1] w fun e w' => e = .returned (.bool true) ∧ Below w.heap.size w w' := by
 obtain ⟨l0, rfl, hr0, hm0, hw0, hc0⟩ := ReadsInt.ofRowC w0
 obtain ⟨l1, rfl, hr1, hm1, hw1, hc1⟩ := ReadsInt.ofRowC w1
 obtain ⟨k, h⟩ := P l0 l1 hm0 y0 hw0 hm1 y1 hw1
 refine (laws_FnPlanMakeEarly.calls k _ _ l0 _ _ l1 true w (Kd.C_of_reads (d := (0 : Int)) (h1 := fun _ => rfl) hr0) hc0 (Kd.C_of_reads (d := (0 : Int)) (h1 := fun _ => rfl) hr1) hc1 h).mono ?_
 rintro e w' ⟨rfl, hd⟩
 exact ⟨rfl, hd⟩

end Go.Proofs.Ytcglfapodhcfeaa.PPm
