/- Written by the session's own driver (wip/tools/gprint.sh) over the kit's printing program: the machine side of a group of laws. Not trusted: the kernel checks it. -/
import Derived.Test.YtcglfapodhcfeaaVdPPmx0
import Derived.Test.YtcglfapodhcfeaaVdPPmx11
namespace Go.Proofs.Ytcglfapodhcfeaa.PPm
open Go.RowKit Go.Proofs.YtcglfapodhcfeaaW.PrintWords Go.Proofs.YtcglfapodhcfeaaW.PrintLast Go.Proofs.YtcglfapodhcfeaaW.PrintMore
attribute [local go_sem] max2_int min2_int max_two min_two max_three min_three max_four min_four   -- for this text's walks alone
set_option linter.unusedVariables false
set_option linter.unusedSimpArgs false

/-! ### spec_l32Room: function 26 -/
mutual
def spec_l32Room.l0 : Nat → List (S39) → List Int → Int → Int → Int → List Int → Option (Bool)
 | 0, _, _, _, _, _, _ => none
 | k + 1, x0, x2, x7, x8, x302000, x302001 => if 0 ≤ x7 then (if x7 < (x2.length : Int) then (if x7 < (x0.length : Int) then (if x8 < (wrap64 ((rd x2 x7) + ((rd_T39 x0 x7).f0))) then ((spec_l32Use.f k x0 x2 x8).bind fun bt305 => (if bt305.1 > x302000 then (some false) else (spec_l32Room.l1 k x0 x2 x7 x8 bt305.2 0 x302000 x302001))) else (some true)) else (none)) else (none)) else (none)
def spec_l32Room.l1 : Nat → List (S39) → List Int → Int → Int → List Int → Int → Int → List Int → Option (Bool)
 | 0, _, _, _, _, _, _, _, _ => none
 | k + 1, x0, x2, x7, x8, x10, x11, x302000, x302001 => if x11 < (x10.length : Int) then (if 0 ≤ x11 then (if x11 < (x302001.length : Int) then (if (rd x10 x11) > (rd x302001 x11) then (some false) else (spec_l32Room.l1 k x0 x2 x7 x8 x10 (wrap64 (x11 + 1)) x302000 x302001)) else (none)) else (none)) else (spec_l32Room.l0 k x0 x2 x7 (wrap64 (x8 + 1)) x302000 x302001)
end
def spec_l32Room.f (k : Nat) (l0 : List (S39)) (a1_0 : Int) (l1_1 : List Int) (l2 : List Int) : Option (Bool) := if 0 ≤ (wrap64 ((l2.length : Int) - 1)) then (if (wrap64 ((l2.length : Int) - 1)) < (l2.length : Int) then (spec_l32Room.l0 k l0 l2 (wrap64 ((l2.length : Int) - 1)) (rd l2 (wrap64 ((l2.length : Int) - 1))) a1_0 l1_1) else (none)) else (none)
theorem spec_l32Room.mono_l : ∀ k, (∀ y0 y1 y2 y3 y4 y5, LeO (spec_l32Room.l0 k y0 y1 y2 y3 y4 y5) (spec_l32Room.l0 (k + 1) y0 y1 y2 y3 y4 y5)) ∧ (∀ y0 y1 y2 y3 y4 y5 y6 y7, LeO (spec_l32Room.l1 k y0 y1 y2 y3 y4 y5 y6 y7) (spec_l32Room.l1 (k + 1) y0 y1 y2 y3 y4 y5 y6 y7))
 | 0 => ⟨fun _ _ _ _ _ _ r h => by simp [spec_l32Room.l0] at h, fun _ _ _ _ _ _ _ _ r h => by simp [spec_l32Room.l1] at h⟩
 | k + 1 => by
  obtain ⟨ih0, ih1⟩ := spec_l32Room.mono_l k
  refine ⟨?_, ?_⟩
  ·intro y0 y1 y2 y3 y4 y5
   unfold spec_l32Room.l0
   repeat' first
   | (with_reducible exact ih0 _ _ _ _ _ _)
   | (with_reducible exact ih1 _ _ _ _ _ _ _ _)
   | (with_reducible exact spec_l32Use.mono _ _ _ _)
   | (with_reducible exact LeO.refl _)
   | (with_reducible exact LeO.none _)
   | (with_reducible refine LeO.ite ?_ ?_)
   | (with_reducible refine LeO.bind ?_ (fun _ => ?_))
   | exact ih0 _ _ _ _ _ _
   | exact ih1 _ _ _ _ _ _ _ _
   | exact spec_l32Use.mono _ _ _ _
   | exact LeO.none _
   | refine LeO.ite ?_ ?_
   | refine LeO.bind ?_ (fun _ => ?_)
  intro y0 y1 y2 y3 y4 y5 y6 y7
  unfold spec_l32Room.l1
  repeat' first
  | (with_reducible exact ih0 _ _ _ _ _ _)
  | (with_reducible exact ih1 _ _ _ _ _ _ _ _)
  | (with_reducible exact spec_l32Use.mono _ _ _ _)
  | (with_reducible exact LeO.refl _)
  | (with_reducible exact LeO.none _)
  | (with_reducible refine LeO.ite ?_ ?_)
  | (with_reducible refine LeO.bind ?_ (fun _ => ?_))
  | exact ih0 _ _ _ _ _ _
  | exact ih1 _ _ _ _ _ _ _ _
  | exact spec_l32Use.mono _ _ _ _
  | exact LeO.none _
  | refine LeO.ite ?_ ?_
  | refine LeO.bind ?_ (fun _ => ?_)
theorem spec_l32Room.mono : ∀ a0 a1 a2 a3 k, LeO (spec_l32Room.f k a0 a1 a2 a3) (spec_l32Room.f (k + 1) a0 a1 a2 a3) := by
 intro a0 a1 a2 a3 k
 obtain ⟨ih0, ih1⟩ := spec_l32Room.mono_l k
 unfold spec_l32Room.f
 repeat' first
  | (with_reducible exact ih0 _ _ _ _ _ _)
  | (with_reducible exact ih1 _ _ _ _ _ _ _ _)
  | (with_reducible exact spec_l32Use.mono _ _ _ _)
  | (with_reducible exact LeO.refl _)
  | (with_reducible exact LeO.none _)
  | (with_reducible refine LeO.ite ?_ ?_)
  | (with_reducible refine LeO.bind ?_ (fun _ => ?_))
  | exact ih0 _ _ _ _ _ _
  | exact ih1 _ _ _ _ _ _ _ _
  | exact spec_l32Use.mono _ _ _ _
  | exact LeO.none _
  | refine LeO.ite ?_ ?_
  | refine LeO.bind ?_ (fun _ => ?_)
set_option maxHeartbeats 8000000 in
set_option maxRecDepth 100000 in
theorem spec_l32Room.calls (k : Nat) (A0 : Option Addr) (c0 : Nat) (l0 : List (S39)) (a1_0 : Int) (A1_1 : Option Addr) (c1_1 : Nat) (l1_1 : List Int) (A2 : Option Addr) (c2 : Nat) (l2 : List Int) (r : Bool) (w : World) (hr0 : Kd.C k39 w A0 l0.length l0) (hc0 : l0.length ≤ c0) (hr1_1 : Kd.C (Kd.int .i64) w A1_1 l1_1.length l1_1) (hc1_1 : l1_1.length ≤ c1_1) (hr2 : Kd.C (Kd.int .i64) w A2 l2.length l2) (hc2 : l2.length ≤ c2) (h : spec_l32Room.f k l0 a1_0 l1_1 l2 = some r) :
    Calls Try.prog 26 #[.slice A0 l0.length c0, .agg #[.int .i64 a1_0, .slice A1_1 l1_1.length c1_1], .slice A2 l2.length c2] w fun e w' => e = .returned (.bool r) ∧ Below w.heap.size w w' := by
 have hu26 := Try.underlying26
 have HR0 := Aside0.mk hr0
 have HC0 := Aside0.mk hc0
 clear hr0 hc0
 have HR1_1 := Aside0.mk hr1_1
 have HC1_1 := Aside0.mk hc1_1
 clear hr1_1 hc1_1
 have HR2 := Aside0.mk hr2
 have HC2 := Aside0.mk hc2
 clear hr2 hc2
 have HB := Aside0.mk (Below.refl w.heap.size w)
 have H : (if 0 ≤ (wrap64 ((l2.length : Int) - 1)) then (if (wrap64 ((l2.length : Int) - 1)) < (l2.length : Int) then (spec_l32Room.l0 k l0 l2 (wrap64 ((l2.length : Int) - 1)) (rd l2 (wrap64 ((l2.length : Int) - 1))) a1_0 l1_1) else (none)) else (none)) = some r := h
 clear h
 obtain ⟨ji4, hji4⟩ : ∃ j_ : Int, (wrap64 ((l2.length : Int) - 1)) = j_ := ⟨_, rfl⟩
 replace H : (if 0 ≤ (ji4) then (if (ji4) < (l2.length : Int) then (spec_l32Room.l0 k l0 l2 ji4 (rd l2 (ji4)) a1_0 l1_1) else (none)) else (none)) = some r := by first | (rw [hji4] at H; exact H) | (simp only [hji4] at H ⊢; exact H)
 have hji4w : (IntKind.i64.wrap ((l2.length : Int) - 1)) = ji4 := (i64_w _).trans hji4
 by_cases c5 : 0 ≤ (ji4)
 ·rw [if_pos c5] at H
  have c5b0 : decide (0 ≤ (ji4)) = true := decide_eq_true c5
  clear c5
  by_cases c6 : (ji4) < (l2.length : Int)
  ·rw [if_pos c6] at H
   have c6b0 : decide ((ji4) < (l2.length : Int)) = true := decide_eq_true c6
   clear c6
   have H' := Aside0.mk H
   clear H
   go_enter Try.func26, Try.ntmps26
   go_wp2_with (first | ((with_reducible refine gate_dst (N := 4) rfl ?_); refine box_event ?hg (N := 4) ?hd (cs := #[.int .i64 a1_0, .slice A1_1 l1_1.length c1_1]) (t := 26) ?hr ?_; (case hd => rfl); (case hg => rfl); (case hr => first | (go_simp; done) | (go_simp; rfl)); intro gb301 hg w7 hbox hb; have n0_ := Aside0.mk (below_step (bel HB.out) hb); have n1_ := Aside0.mk (hbox); have n2_ := Aside0.mk ((by rw [hg]; exact (below_size (bel HB.out)) : w.heap.size ≤ gb301)); have n3_ := Aside0.mk ((by rw [hg]; exact (below_size (bel HB.out)) : w.heap.size ≤ gb301)); clear HB; have HB := n0_; have BK301 := n1_; have GW301 := n2_; have GE301 := n3_; clear n0_ n1_ n2_ n3_; clear hb hbox hg; have p302 : 0 ≤ ((ji4) : Int) := of_decide_eq_true (by assumption); have q302 : (ji4) < (l2.length : Int) := of_decide_eq_true (by assumption); obtain ⟨ad302, e302, hx302_0⟩ := Kd.at_int HR2.out (ji4) p302 q302; cases e302; replace hx302_0 := cel HB.out hx302_0; replace p302 := eq_true p302; replace q302 := eq_true q302))
   repeat (go_quiet (first | ((with_reducible refine gate_dst (N := 4) rfl ?_); refine box_event ?hg (N := 4) ?hd (cs := #[.int .i64 a1_0, .slice A1_1 l1_1.length c1_1]) (t := 26) ?hr ?_; (case hd => rfl); (case hg => rfl); (case hr => first | (go_simp; done) | (go_simp; rfl)); intro gb301 hg w7 hbox hb; have n0_ := Aside0.mk (below_step (bel HB.out) hb); have n1_ := Aside0.mk (hbox); have n2_ := Aside0.mk ((by rw [hg]; exact (below_size (bel HB.out)) : w.heap.size ≤ gb301)); have n3_ := Aside0.mk ((by rw [hg]; exact (below_size (bel HB.out)) : w.heap.size ≤ gb301)); clear HB; have HB := n0_; have BK301 := n1_; have GW301 := n2_; have GE301 := n3_; clear n0_ n1_ n2_ n3_; clear hb hbox hg; have p302 : 0 ≤ ((ji4) : Int) := of_decide_eq_true (by assumption); have q302 : (ji4) < (l2.length : Int) := of_decide_eq_true (by assumption); obtain ⟨ad302, e302, hx302_0⟩ := Kd.at_int HR2.out (ji4) p302 q302; cases e302; replace hx302_0 := cel HB.out hx302_0; replace p302 := eq_true p302; replace q302 := eq_true q302)); try go_wp2_with (first | ((with_reducible refine gate_dst (N := 4) rfl ?_); refine box_event ?hg (N := 4) ?hd (cs := #[.int .i64 a1_0, .slice A1_1 l1_1.length c1_1]) (t := 26) ?hr ?_; (case hd => rfl); (case hg => rfl); (case hr => first | (go_simp; done) | (go_simp; rfl)); intro gb301 hg w7 hbox hb; have n0_ := Aside0.mk (below_step (bel HB.out) hb); have n1_ := Aside0.mk (hbox); have n2_ := Aside0.mk ((by rw [hg]; exact (below_size (bel HB.out)) : w.heap.size ≤ gb301)); have n3_ := Aside0.mk ((by rw [hg]; exact (below_size (bel HB.out)) : w.heap.size ≤ gb301)); clear HB; have HB := n0_; have BK301 := n1_; have GW301 := n2_; have GE301 := n3_; clear n0_ n1_ n2_ n3_; clear hb hbox hg; have p302 : 0 ≤ ((ji4) : Int) := of_decide_eq_true (by assumption); have q302 : (ji4) < (l2.length : Int) := of_decide_eq_true (by assumption); obtain ⟨ad302, e302, hx302_0⟩ := Kd.at_int HR2.out (ji4) p302 q302; cases e302; replace hx302_0 := cel HB.out hx302_0; replace p302 := eq_true p302; replace q302 := eq_true q302)))
   go_loopg [8] k (fun kq v8 w' => ∃ (x8_1 : Int), v8 = .int .i64 x8_1 ∧ Aside0 (spec_l32Room.l0 kq l0 l2 ji4 x8_1 a1_0 l1_1 = some r) ∧ Aside0 (kq ≤ k) ∧ Aside0 (w'.heap[gb301]? = some (.cells #[.int .i64 a1_0, (.slice A1_1 l1_1.length c1_1)] 26 (0, 0))) ∧ Aside0 (Below w.heap.size w w'))
   case atStart => exact ⟨(rd l2 (ji4)), (by first | rfl | (simp; done) | (simp only [← hji4] <;> (first | rfl | simp)) | (simp [*]; done)), H', ⟨Nat.le_refl _⟩, ⟨by (with_reducible repeat (first | refine blk_drewN ?_ _ | refine blk_drew ?_ | refine blk_alloc ?_ _)); exact BK301.out⟩, ⟨by repeat (first | (with_reducible first | exact HB.out | apply below_alloc | apply pw_below_drewN | apply below_drew1 | refine below_set ?_ GE301.out) | exact HB.out)⟩⟩
   case round =>
    clear H'
    try clear c1
    try clear c2
    try clear p2
    try clear p3
    try clear q3
    try clear hx3
    try clear c5
    try clear c5b0
    try clear c6
    try clear c6b0
    try clear p6
    try clear hx302_0
    try clear p302
    try clear q302
    obtain ⟨x8_1, rfl, HA, HK1, BK301, HB⟩ := hrel
    cases gk with
    | zero => exact absurd HA.out (by simp [spec_l32Room.l0])
    | succ k1 =>
     have H := HA.out
     clear HA
     simp only [spec_l32Room.l0] at H
     by_cases c8 : 0 ≤ ji4
     ·rw [if_pos c8] at H
      have c8b0 : decide (0 ≤ ji4) = true := decide_eq_true c8
      clear c8
      by_cases c9 : ji4 < (l2.length : Int)
      ·rw [if_pos c9] at H
       have c9b0 : decide (ji4 < (l2.length : Int)) = true := decide_eq_true c9
       clear c9
       by_cases c10 : ji4 < (l0.length : Int)
       ·rw [if_pos c10] at H
        have c10b0 : decide (ji4 < (l0.length : Int)) = true := decide_eq_true c10
        clear c10
        by_cases c11 : x8_1 < (wrap64 ((rd l2 ji4) + ((rd_T39 l0 ji4).f0)))
        ·rw [if_pos c11] at H
         have c11b0 : decide (x8_1 < (wrap64 ((rd l2 ji4) + ((rd_T39 l0 ji4).f0)))) = true := decide_eq_true c11
         clear c11
         replace H := Option.bind_eq_some_iff.mp H
         obtain ⟨⟨t305, t306⟩, A120, H⟩ := H
         replace H : (if t305 > a1_0 then (some false) else (spec_l32Room.l1 k1 l0 l2 ji4 x8_1 t306 0 a1_0 l1_1)) = some r := H
         have A12 := Aside0.mk A120
         clear A120
         by_cases c13 : t305 > a1_0
         ·rw [if_pos c13] at H
          have c13b0 : decide (a1_0 < t305) = true := decide_eq_true c13
          clear c13
          obtain rfl := Option.some.inj H
          have p303 : 0 ≤ (ji4 : Int) := of_decide_eq_true (by assumption)
          have q303 : ji4 < (l2.length : Int) := of_decide_eq_true (by assumption)
          obtain ⟨ad303, e303, hx303_0⟩ := Kd.at_int HR2.out ji4 p303 q303
          obtain rfl : ad302 = ad303 := (by injection e303)
          replace hx303_0 := cel HB.out hx303_0
          replace p303 := eq_true p303
          replace q303 := eq_true q303
          have p304 : 0 ≤ (ji4 : Int) := of_decide_eq_true (by assumption)
          have q304 : ji4 < (l0.length : Int) := of_decide_eq_true (by assumption)
          obtain ⟨ad304, A304_3, c304_3, e304, hx304_0, hx304_1, hx304_2, hx304_3, hl304_3, hi304_3⟩ := at_T39 HR0.out ji4 p304 q304
          cases e304
          replace hx304_0 := cel HB.out hx304_0
          replace hx304_1 := cel HB.out hx304_1
          replace hx304_2 := cel HB.out hx304_2
          replace hx304_3 := cel HB.out hx304_3
          have HR304_3 := Aside0.mk hi304_3
          have HC304_3 := Aside0.mk hl304_3
          clear hi304_3 hl304_3
          replace p304 := eq_true p304
          replace q304 := eq_true q304
          go_wp2_with (first | (go_at_call 37; (with_reducible refine (spec_l32Use.calls k1 _ _ l0 _ _ l2 x8_1 t305 t306 _ ?side1 ?side2 ?side3 ?side4 A12.out).mono ?_); (case side1 => exact cup (Kd.C_below HR0.out HB.out)); (case side2 => exact HC0.out); (case side3 => exact cup (Kd.C_below HR2.out HB.out)); (case side4 => exact HC2.out); rintro e w14 ⟨v307, rfl, ho0, hb⟩; have n0_ := Aside0.mk (Kd.R_lower ho0 (below_size (by repeat (first | (with_reducible first | exact HB.out | apply below_alloc | apply pw_below_drewN | apply below_drew1 | refine below_set ?_ GE301.out) | exact HB.out)))); have n1_ := Aside0.mk (blk_below (g := gb301) (o := .cells #[.int .i64 a1_0, .slice A1_1 l1_1.length c1_1] 26 (0, 0)) (bup BK301.out) hb); have n2_ := Aside0.mk (below_step (by repeat (first | (with_reducible first | exact HB.out | apply below_alloc | apply pw_below_drewN | apply below_drew1 | refine below_set ?_ GE301.out) | exact HB.out)) hb); clear BK301; clear HB; have HO308 := n0_; have BK301 := n1_; have HB := n2_; clear n0_ n1_ n2_; (try clear hb); (try clear hb2); (try clear hk); (try clear hi); (try clear ho0); have hcz15_0 : w14.cell? ⟨gb301, 0, none⟩ = some (.int .i64 a1_0) := (blk_cell BK301.out 0).trans rfl; have hcz15_1 : w14.cell? ⟨gb301, 1, none⟩ = some (.slice A1_1 l1_1.length c1_1) := (blk_cell BK301.out 1).trans rfl; have hfz15_0 := blk_frozen BK301.out 0; have hfz15_1 := blk_frozen BK301.out 1))
          repeat (go_quiet (first | (go_at_call 37; (with_reducible refine (spec_l32Use.calls k1 _ _ l0 _ _ l2 x8_1 t305 t306 _ ?side1 ?side2 ?side3 ?side4 A12.out).mono ?_); (case side1 => exact cup (Kd.C_below HR0.out HB.out)); (case side2 => exact HC0.out); (case side3 => exact cup (Kd.C_below HR2.out HB.out)); (case side4 => exact HC2.out); rintro e w14 ⟨v307, rfl, ho0, hb⟩; have n0_ := Aside0.mk (Kd.R_lower ho0 (below_size (by repeat (first | (with_reducible first | exact HB.out | apply below_alloc | apply pw_below_drewN | apply below_drew1 | refine below_set ?_ GE301.out) | exact HB.out)))); have n1_ := Aside0.mk (blk_below (g := gb301) (o := .cells #[.int .i64 a1_0, .slice A1_1 l1_1.length c1_1] 26 (0, 0)) (bup BK301.out) hb); have n2_ := Aside0.mk (below_step (by repeat (first | (with_reducible first | exact HB.out | apply below_alloc | apply pw_below_drewN | apply below_drew1 | refine below_set ?_ GE301.out) | exact HB.out)) hb); clear BK301; clear HB; have HO308 := n0_; have BK301 := n1_; have HB := n2_; clear n0_ n1_ n2_; (try clear hb); (try clear hb2); (try clear hk); (try clear hi); (try clear ho0); have hcz15_0 : w14.cell? ⟨gb301, 0, none⟩ = some (.int .i64 a1_0) := (blk_cell BK301.out 0).trans rfl; have hcz15_1 : w14.cell? ⟨gb301, 1, none⟩ = some (.slice A1_1 l1_1.length c1_1) := (blk_cell BK301.out 1).trans rfl; have hfz15_0 := blk_frozen BK301.out 0; have hfz15_1 := blk_frozen BK301.out 1)); try go_wp2_with (first | (go_at_call 37; (with_reducible refine (spec_l32Use.calls k1 _ _ l0 _ _ l2 x8_1 t305 t306 _ ?side1 ?side2 ?side3 ?side4 A12.out).mono ?_); (case side1 => exact cup (Kd.C_below HR0.out HB.out)); (case side2 => exact HC0.out); (case side3 => exact cup (Kd.C_below HR2.out HB.out)); (case side4 => exact HC2.out); rintro e w14 ⟨v307, rfl, ho0, hb⟩; have n0_ := Aside0.mk (Kd.R_lower ho0 (below_size (by repeat (first | (with_reducible first | exact HB.out | apply below_alloc | apply pw_below_drewN | apply below_drew1 | refine below_set ?_ GE301.out) | exact HB.out)))); have n1_ := Aside0.mk (blk_below (g := gb301) (o := .cells #[.int .i64 a1_0, .slice A1_1 l1_1.length c1_1] 26 (0, 0)) (bup BK301.out) hb); have n2_ := Aside0.mk (below_step (by repeat (first | (with_reducible first | exact HB.out | apply below_alloc | apply pw_below_drewN | apply below_drew1 | refine below_set ?_ GE301.out) | exact HB.out)) hb); clear BK301; clear HB; have HO308 := n0_; have BK301 := n1_; have HB := n2_; clear n0_ n1_ n2_; (try clear hb); (try clear hb2); (try clear hk); (try clear hi); (try clear ho0); have hcz15_0 : w14.cell? ⟨gb301, 0, none⟩ = some (.int .i64 a1_0) := (blk_cell BK301.out 0).trans rfl; have hcz15_1 : w14.cell? ⟨gb301, 1, none⟩ = some (.slice A1_1 l1_1.length c1_1) := (blk_cell BK301.out 1).trans rfl; have hfz15_0 := blk_frozen BK301.out 0; have hfz15_1 := blk_frozen BK301.out 1)))
          go_ret
          exact ⟨by first | rfl | (simp [errW_none, errW_some] <;> rfl) | (simp only [← hji4]; first | rfl | (simp [errW_none, errW_some] <;> rfl)) | (simp [*, errW_none, errW_some] <;> rfl), by repeat (first | (with_reducible first | exact HB.out | apply below_alloc | apply pw_below_drewN | apply below_drew1 | refine below_set ?_ GE301.out) | exact HB.out)⟩
         rw [if_neg c13] at H
         have c13b0 : decide (a1_0 < t305) = false := decide_eq_false c13
         clear c13
         have H' := Aside0.mk H
         clear H
         have p303 : 0 ≤ (ji4 : Int) := of_decide_eq_true (by assumption)
         have q303 : ji4 < (l2.length : Int) := of_decide_eq_true (by assumption)
         obtain ⟨ad303, e303, hx303_0⟩ := Kd.at_int HR2.out ji4 p303 q303
         obtain rfl : ad302 = ad303 := (by injection e303)
         replace hx303_0 := cel HB.out hx303_0
         replace p303 := eq_true p303
         replace q303 := eq_true q303
         have p304 : 0 ≤ (ji4 : Int) := of_decide_eq_true (by assumption)
         have q304 : ji4 < (l0.length : Int) := of_decide_eq_true (by assumption)
         obtain ⟨ad304, A304_3, c304_3, e304, hx304_0, hx304_1, hx304_2, hx304_3, hl304_3, hi304_3⟩ := at_T39 HR0.out ji4 p304 q304
         cases e304
         replace hx304_0 := cel HB.out hx304_0
         replace hx304_1 := cel HB.out hx304_1
         replace hx304_2 := cel HB.out hx304_2
         replace hx304_3 := cel HB.out hx304_3
         have HR304_3 := Aside0.mk hi304_3
         have HC304_3 := Aside0.mk hl304_3
         clear hi304_3 hl304_3
         replace p304 := eq_true p304
         replace q304 := eq_true q304
         go_wp2_with (first | (go_at_call 37; (with_reducible refine (spec_l32Use.calls k1 _ _ l0 _ _ l2 x8_1 t305 t306 _ ?side1 ?side2 ?side3 ?side4 A12.out).mono ?_); (case side1 => exact cup (Kd.C_below HR0.out HB.out)); (case side2 => exact HC0.out); (case side3 => exact cup (Kd.C_below HR2.out HB.out)); (case side4 => exact HC2.out); rintro e w16 ⟨v307, rfl, ho0, hb⟩; have n0_ := Aside0.mk (Kd.R_lower ho0 (below_size (by repeat (first | (with_reducible first | exact HB.out | apply below_alloc | apply pw_below_drewN | apply below_drew1 | refine below_set ?_ GE301.out) | exact HB.out)))); have n1_ := Aside0.mk (blk_below (g := gb301) (o := .cells #[.int .i64 a1_0, .slice A1_1 l1_1.length c1_1] 26 (0, 0)) (bup BK301.out) hb); have n2_ := Aside0.mk (below_step (by repeat (first | (with_reducible first | exact HB.out | apply below_alloc | apply pw_below_drewN | apply below_drew1 | refine below_set ?_ GE301.out) | exact HB.out)) hb); clear BK301; clear HB; have HO308 := n0_; have BK301 := n1_; have HB := n2_; clear n0_ n1_ n2_; (try clear hb); (try clear hb2); (try clear hk); (try clear hi); (try clear ho0); have hcz17_0 : w16.cell? ⟨gb301, 0, none⟩ = some (.int .i64 a1_0) := (blk_cell BK301.out 0).trans rfl; have hcz17_1 : w16.cell? ⟨gb301, 1, none⟩ = some (.slice A1_1 l1_1.length c1_1) := (blk_cell BK301.out 1).trans rfl; have hfz17_0 := blk_frozen BK301.out 0; have hfz17_1 := blk_frozen BK301.out 1))
         repeat (go_quiet (first | (go_at_call 37; (with_reducible refine (spec_l32Use.calls k1 _ _ l0 _ _ l2 x8_1 t305 t306 _ ?side1 ?side2 ?side3 ?side4 A12.out).mono ?_); (case side1 => exact cup (Kd.C_below HR0.out HB.out)); (case side2 => exact HC0.out); (case side3 => exact cup (Kd.C_below HR2.out HB.out)); (case side4 => exact HC2.out); rintro e w16 ⟨v307, rfl, ho0, hb⟩; have n0_ := Aside0.mk (Kd.R_lower ho0 (below_size (by repeat (first | (with_reducible first | exact HB.out | apply below_alloc | apply pw_below_drewN | apply below_drew1 | refine below_set ?_ GE301.out) | exact HB.out)))); have n1_ := Aside0.mk (blk_below (g := gb301) (o := .cells #[.int .i64 a1_0, .slice A1_1 l1_1.length c1_1] 26 (0, 0)) (bup BK301.out) hb); have n2_ := Aside0.mk (below_step (by repeat (first | (with_reducible first | exact HB.out | apply below_alloc | apply pw_below_drewN | apply below_drew1 | refine below_set ?_ GE301.out) | exact HB.out)) hb); clear BK301; clear HB; have HO308 := n0_; have BK301 := n1_; have HB := n2_; clear n0_ n1_ n2_; (try clear hb); (try clear hb2); (try clear hk); (try clear hi); (try clear ho0); have hcz17_0 : w16.cell? ⟨gb301, 0, none⟩ = some (.int .i64 a1_0) := (blk_cell BK301.out 0).trans rfl; have hcz17_1 : w16.cell? ⟨gb301, 1, none⟩ = some (.slice A1_1 l1_1.length c1_1) := (blk_cell BK301.out 1).trans rfl; have hfz17_0 := blk_frozen BK301.out 0; have hfz17_1 := blk_frozen BK301.out 1)); try go_wp2_with (first | (go_at_call 37; (with_reducible refine (spec_l32Use.calls k1 _ _ l0 _ _ l2 x8_1 t305 t306 _ ?side1 ?side2 ?side3 ?side4 A12.out).mono ?_); (case side1 => exact cup (Kd.C_below HR0.out HB.out)); (case side2 => exact HC0.out); (case side3 => exact cup (Kd.C_below HR2.out HB.out)); (case side4 => exact HC2.out); rintro e w16 ⟨v307, rfl, ho0, hb⟩; have n0_ := Aside0.mk (Kd.R_lower ho0 (below_size (by repeat (first | (with_reducible first | exact HB.out | apply below_alloc | apply pw_below_drewN | apply below_drew1 | refine below_set ?_ GE301.out) | exact HB.out)))); have n1_ := Aside0.mk (blk_below (g := gb301) (o := .cells #[.int .i64 a1_0, .slice A1_1 l1_1.length c1_1] 26 (0, 0)) (bup BK301.out) hb); have n2_ := Aside0.mk (below_step (by repeat (first | (with_reducible first | exact HB.out | apply below_alloc | apply pw_below_drewN | apply below_drew1 | refine below_set ?_ GE301.out) | exact HB.out)) hb); clear BK301; clear HB; have HO308 := n0_; have BK301 := n1_; have HB := n2_; clear n0_ n1_ n2_; (try clear hb); (try clear hb2); (try clear hk); (try clear hi); (try clear ho0); have hcz17_0 : w16.cell? ⟨gb301, 0, none⟩ = some (.int .i64 a1_0) := (blk_cell BK301.out 0).trans rfl; have hcz17_1 : w16.cell? ⟨gb301, 1, none⟩ = some (.slice A1_1 l1_1.length c1_1) := (blk_cell BK301.out 1).trans rfl; have hfz17_0 := blk_frozen BK301.out 0; have hfz17_1 := blk_frozen BK301.out 1)))
         go_loopg [11] k1 (fun kq v11 w' => ∃ (x11_2 : Int), v11 = .int .i64 x11_2 ∧ Aside0 (spec_l32Room.l1 kq l0 l2 ji4 x8_1 t306 x11_2 a1_0 l1_1 = some r) ∧ Aside0 (kq ≤ k1) ∧ Aside0 (Kd.R (Kd.int .i64) 3 w' w.heap.size (fun _ => True) v307 t306) ∧ Aside0 (w'.heap[gb301]? = some (.cells #[.int .i64 a1_0, (.slice A1_1 l1_1.length c1_1)] 26 (0, 0))) ∧ Aside0 (Below w.heap.size w w'))
         case atStart => exact ⟨(0), (by first | rfl | (simp; done) | (simp [*]; done)), H', ⟨Nat.le_refl _⟩, ⟨by (with_reducible repeat (first | apply Kd.R_alloc | apply Kd.R_drewN | apply Kd.R_drew)); exact HO308.out⟩, ⟨by (with_reducible repeat (first | refine blk_drewN ?_ _ | refine blk_drew ?_ | refine blk_alloc ?_ _)); exact BK301.out⟩, ⟨by repeat (first | (with_reducible first | exact HB.out | apply below_alloc | apply pw_below_drewN | apply below_drew1 | refine below_set ?_ GE301.out) | exact HB.out)⟩⟩
         case round =>
          clear H'
          try clear c1
          try clear c2
          try clear p2
          try clear c3
          try clear p3
          try clear q3
          try clear hx3
          try clear c5
          try clear c5b0
          try clear c6
          try clear c6b0
          try clear p6
          try clear c8
          try clear c8b0
          try clear c9
          try clear c9b0
          try clear c10
          try clear c10b0
          try clear c11
          try clear c11b0
          try clear c13
          try clear c13b0
          try clear hcz15_0
          try clear hcz15_1
          try clear hcz17_0
          try clear hcz17_1
          try clear hfz15_0
          try clear hfz15_1
          try clear hfz17_0
          try clear hfz17_1
          try clear hx302_0
          try clear hx303_0
          try clear hx304_0
          try clear hx304_1
          try clear hx304_2
          try clear hx304_3
          try clear p2
          try clear p3
          try clear p302
          try clear p303
          try clear p304
          try clear p6
          try clear q3
          try clear q302
          try clear q303
          try clear q304
          obtain ⟨x11_2, rfl, HA, HK2, HO_10, BK301, HB⟩ := hrel
          cases gk with
          | zero => exact absurd HA.out (by simp [spec_l32Room.l1])
          | succ k2 =>
           have H := HA.out
           clear HA
           simp only [spec_l32Room.l1] at H
           by_cases c18 : x11_2 < (t306.length : Int)
           ·rw [if_pos c18] at H
            have c18b0 : decide (x11_2 < (t306.length : Int)) = true := decide_eq_true c18
            clear c18
            by_cases c19 : 0 ≤ x11_2
            ·rw [if_pos c19] at H
             have c19b0 : decide (0 ≤ x11_2) = true := decide_eq_true c19
             clear c19
             by_cases c20 : x11_2 < (l1_1.length : Int)
             ·rw [if_pos c20] at H
              have c20b0 : decide (x11_2 < (l1_1.length : Int)) = true := decide_eq_true c20
              clear c20
              by_cases c21 : (rd t306 x11_2) > (rd l1_1 x11_2)
              ·rw [if_pos c21] at H
               have c21b0 : decide ((rd l1_1 x11_2) < (rd t306 x11_2)) = true := decide_eq_true c21
               clear c21
               obtain rfl := Option.some.inj H
               obtain ⟨Ao22, co22, eo22⟩ := Kd.R_slice HO_10.out
               subst eo22
               have p309 : 0 ≤ (x11_2 : Int) := of_decide_eq_true (by assumption)
               have q309 : x11_2 < (t306.length : Int) := of_decide_eq_true (by assumption)
               obtain ⟨ad309, e309, hx309_0⟩ := Kd.at_int (Kd.R_reads' HO_10.out).2.2 x11_2 p309 q309
               cases e309
               replace p309 := eq_true p309
               replace q309 := eq_true q309
               have hcz23_0 : wr.cell? ⟨gb301, 0, none⟩ = some (.int .i64 a1_0) := (blk_cell BK301.out 0).trans rfl
               have hcz23_1 : wr.cell? ⟨gb301, 1, none⟩ = some (.slice A1_1 l1_1.length c1_1) := (blk_cell BK301.out 1).trans rfl
               have hfz23_0 := blk_frozen BK301.out 0
               have hfz23_1 := blk_frozen BK301.out 1
               have p310 : 0 ≤ (x11_2 : Int) := of_decide_eq_true (by assumption)
               have q310 : x11_2 < (l1_1.length : Int) := of_decide_eq_true (by assumption)
               obtain ⟨ad310, e310, hx310_0⟩ := Kd.at_int HR1_1.out x11_2 p310 q310
               cases e310
               replace hx310_0 := cel HB.out hx310_0
               replace p310 := eq_true p310
               replace q310 := eq_true q310
               go_wp2
               repeat (go_quiet (fail); try go_wp2)
               go_ret
               exact ⟨by first | rfl | (simp [errW_none, errW_some] <;> rfl) | (simp only [← hji4]; first | rfl | (simp [errW_none, errW_some] <;> rfl)) | (simp [*, errW_none, errW_some] <;> rfl), by repeat (first | (with_reducible first | exact HB.out | apply below_alloc | apply pw_below_drewN | apply below_drew1 | refine below_set ?_ GE301.out) | exact HB.out)⟩
              rw [if_neg c21] at H
              have c21b0 : decide ((rd l1_1 x11_2) < (rd t306 x11_2)) = false := decide_eq_false c21
              clear c21
              have H' := Aside0.mk H
              clear H
              obtain ⟨Ao24, co24, eo24⟩ := Kd.R_slice HO_10.out
              subst eo24
              have p309 : 0 ≤ (x11_2 : Int) := of_decide_eq_true (by assumption)
              have q309 : x11_2 < (t306.length : Int) := of_decide_eq_true (by assumption)
              obtain ⟨ad309, e309, hx309_0⟩ := Kd.at_int (Kd.R_reads' HO_10.out).2.2 x11_2 p309 q309
              cases e309
              replace p309 := eq_true p309
              replace q309 := eq_true q309
              have hcz25_0 : wr.cell? ⟨gb301, 0, none⟩ = some (.int .i64 a1_0) := (blk_cell BK301.out 0).trans rfl
              have hcz25_1 : wr.cell? ⟨gb301, 1, none⟩ = some (.slice A1_1 l1_1.length c1_1) := (blk_cell BK301.out 1).trans rfl
              have hfz25_0 := blk_frozen BK301.out 0
              have hfz25_1 := blk_frozen BK301.out 1
              have p310 : 0 ≤ (x11_2 : Int) := of_decide_eq_true (by assumption)
              have q310 : x11_2 < (l1_1.length : Int) := of_decide_eq_true (by assumption)
              obtain ⟨ad310, e310, hx310_0⟩ := Kd.at_int HR1_1.out x11_2 p310 q310
              cases e310
              replace hx310_0 := cel HB.out hx310_0
              replace p310 := eq_true p310
              replace q310 := eq_true q310
              go_wp2
              repeat (go_quiet (fail); try go_wp2)
              go_roundg k2
              case measure => have := HK1.out; have := HK2.out; omega
              case rel => exact ⟨(wrap64 (x11_2 + 1)), (by first | rfl | (simp; done) | (simp [*]; done)), H', ⟨by have := HK1.out; have := HK2.out; omega⟩, ⟨by (with_reducible repeat (first | apply Kd.R_alloc | apply Kd.R_drewN | apply Kd.R_drew)); exact HO_10.out⟩, ⟨by (with_reducible repeat (first | refine blk_drewN ?_ _ | refine blk_drew ?_ | refine blk_alloc ?_ _)); exact BK301.out⟩, ⟨by repeat (first | (with_reducible first | exact HB.out | apply below_alloc | apply pw_below_drewN | apply below_drew1 | refine below_set ?_ GE301.out) | exact HB.out)⟩⟩
             rw [if_neg c20] at H
             exact absurd H (by simp)
            rw [if_neg c19] at H
            exact absurd H (by simp)
           rw [if_neg c18] at H
           have c18b0 : decide (x11_2 < (t306.length : Int)) = false := decide_eq_false c18
           clear c18
           have H' := Aside0.mk H
           clear H
           obtain ⟨Ao26, co26, eo26⟩ := Kd.R_slice HO_10.out
           subst eo26
           go_wp2
           repeat (go_quiet (fail); try go_wp2)
           go_roundg k2
           case measure => have := HK1.out; have := HK2.out; omega
           case rel => exact ⟨(wrap64 (x8_1 + 1)), (by first | rfl | (simp; done) | (simp [*]; done)), H', ⟨by have := HK1.out; have := HK2.out; omega⟩, ⟨by (with_reducible repeat (first | refine blk_drewN ?_ _ | refine blk_drew ?_ | refine blk_alloc ?_ _)); exact BK301.out⟩, ⟨by repeat (first | (with_reducible first | exact HB.out | apply below_alloc | apply pw_below_drewN | apply below_drew1 | refine below_set ?_ GE301.out) | exact HB.out)⟩⟩
        rw [if_neg c11] at H
        have c11b0 : decide (x8_1 < (wrap64 ((rd l2 ji4) + ((rd_T39 l0 ji4).f0)))) = false := decide_eq_false c11
        clear c11
        obtain rfl := Option.some.inj H
        have p303 : 0 ≤ (ji4 : Int) := of_decide_eq_true (by assumption)
        have q303 : ji4 < (l2.length : Int) := of_decide_eq_true (by assumption)
        obtain ⟨ad303, e303, hx303_0⟩ := Kd.at_int HR2.out ji4 p303 q303
        obtain rfl : ad302 = ad303 := (by injection e303)
        replace hx303_0 := cel HB.out hx303_0
        replace p303 := eq_true p303
        replace q303 := eq_true q303
        have p304 : 0 ≤ (ji4 : Int) := of_decide_eq_true (by assumption)
        have q304 : ji4 < (l0.length : Int) := of_decide_eq_true (by assumption)
        obtain ⟨ad304, A304_3, c304_3, e304, hx304_0, hx304_1, hx304_2, hx304_3, hl304_3, hi304_3⟩ := at_T39 HR0.out ji4 p304 q304
        cases e304
        replace hx304_0 := cel HB.out hx304_0
        replace hx304_1 := cel HB.out hx304_1
        replace hx304_2 := cel HB.out hx304_2
        replace hx304_3 := cel HB.out hx304_3
        have HR304_3 := Aside0.mk hi304_3
        have HC304_3 := Aside0.mk hl304_3
        clear hi304_3 hl304_3
        replace p304 := eq_true p304
        replace q304 := eq_true q304
        go_wp2
        repeat (go_quiet (fail); try go_wp2)
        go_ret
        exact ⟨by first | rfl | (simp [errW_none, errW_some] <;> rfl) | (simp only [← hji4]; first | rfl | (simp [errW_none, errW_some] <;> rfl)) | (simp [*, errW_none, errW_some] <;> rfl), by repeat (first | (with_reducible first | exact HB.out | apply below_alloc | apply pw_below_drewN | apply below_drew1 | refine below_set ?_ GE301.out) | exact HB.out)⟩
       rw [if_neg c10] at H
       exact absurd H (by simp)
      rw [if_neg c9] at H
      exact absurd H (by simp)
     rw [if_neg c8] at H
     exact absurd H (by simp)
  rw [if_neg c6] at H
  exact absurd H (by simp)
 rw [if_neg c5] at H
 exact absurd H (by simp)

end Go.Proofs.Ytcglfapodhcfeaa.PPm
