/- Written by the session's own driver (wip/tools/gprint.sh) over the kit's printing program: the machine side of a group of laws. Not trusted: the kernel checks it. -/
import Derived.Test.YtcglfapodhcfeaaVdPPmx0
import Derived.Test.YtcglfapodhcfeaaVdPPmx5
namespace Go.Proofs.Ytcglfapodhcfeaa.PPm
open Go.RowKit Go.Proofs.YtcglfapodhcfeaaW.PrintWords Go.Proofs.YtcglfapodhcfeaaW.PrintLast Go.Proofs.YtcglfapodhcfeaaW.PrintMore
attribute [local go_sem] max2_int min2_int max_two min_two max_three min_three max_four min_four   -- for this text's walks alone
set_option linter.unusedVariables false
set_option linter.unusedSimpArgs false

/-! ### impl_planFits: function 28 -/
mutual
def impl_planFits.l0 : Nat → List (S39) → List Int → List (S39) → Int → Int → Int → List Int → Option (Bool)
 | 0, _, _, _, _, _, _, _ => none
 | k + 1, x0, x2, x15, x16, x17, x228000, x228001 => if x17 < x16 then (if 0 ≤ x17 then (if x17 < (x15.length : Int) then (impl_planFits.l1 k x0 x2 x17 x15 x16 x17 ((rd_T39 x15 x17).f3) (((rd_T39 x15 x17).f3).length : Int) 0 x228000 x228001) else (none)) else (none)) else (some true)
def impl_planFits.l1 : Nat → List (S39) → List Int → Int → List (S39) → Int → Int → List Int → Int → Int → Int → List Int → Option (Bool)
 | 0, _, _, _, _, _, _, _, _, _, _, _ => none
 | k + 1, x0, x2, x7, x15, x16, x17, x23, x24, x25, x228000, x228001 => if x25 < x24 then (if 0 ≤ x25 then (if x25 < (x23.length : Int) then (if 0 ≤ x7 then (if x7 < (x2.length : Int) then (if 0 ≤ (rd x23 x25) then (if (rd x23 x25) < (x2.length : Int) then (if (rd x23 x25) < (x0.length : Int) then (if (rd x2 x7) < (wrap64 ((rd x2 (rd x23 x25)) + ((rd_T39 x0 (rd x23 x25)).f0))) then (some false) else (impl_planFits.l1 k x0 x2 x7 x15 x16 x17 x23 x24 (wrap64 (x25 + 1)) x228000 x228001)) else (none)) else (none)) else (none)) else (none)) else (none)) else (none)) else (none)) else (if 0 ≤ x7 then (if x7 < (x2.length : Int) then ((impl_useAt.f k x0 x2 (rd x2 x7)).bind fun bt235 => (if bt235.1 > x228000 then (some false) else (impl_planFits.l2 k x0 x2 x15 x16 x17 bt235.2 (bt235.2.length : Int) 0 x228000 x228001))) else (none)) else (none))
def impl_planFits.l2 : Nat → List (S39) → List Int → List (S39) → Int → Int → List Int → Int → Int → Int → List Int → Option (Bool)
 | 0, _, _, _, _, _, _, _, _, _, _ => none
 | k + 1, x0, x2, x15, x16, x17, x59, x60, x61, x228000, x228001 => if x61 < x60 then (if 0 ≤ x61 then (if x61 < (x59.length : Int) then (if x61 < (x228001.length : Int) then (if (rd x59 x61) > (rd x228001 x61) then (some false) else (impl_planFits.l2 k x0 x2 x15 x16 x17 x59 x60 (wrap64 (x61 + 1)) x228000 x228001)) else (none)) else (none)) else (none)) else (impl_planFits.l0 k x0 x2 x15 x16 (wrap64 (x17 + 1)) x228000 x228001)
end
def impl_planFits.f (k : Nat) (l0 : List (S39)) (a1_0 : Int) (l1_1 : List Int) (l2 : List Int) : Option (Bool) := impl_planFits.l0 k l0 l2 l0 (l0.length : Int) 0 a1_0 l1_1
theorem impl_planFits.mono_l : ∀ k, (∀ y0 y1 y2 y3 y4 y5 y6, LeO (impl_planFits.l0 k y0 y1 y2 y3 y4 y5 y6) (impl_planFits.l0 (k + 1) y0 y1 y2 y3 y4 y5 y6)) ∧ (∀ y0 y1 y2 y3 y4 y5 y6 y7 y8 y9 y10, LeO (impl_planFits.l1 k y0 y1 y2 y3 y4 y5 y6 y7 y8 y9 y10) (impl_planFits.l1 (k + 1) y0 y1 y2 y3 y4 y5 y6 y7 y8 y9 y10)) ∧ (∀ y0 y1 y2 y3 y4 y5 y6 y7 y8 y9, LeO (impl_planFits.l2 k y0 y1 y2 y3 y4 y5 y6 y7 y8 y9) (impl_planFits.l2 (k + 1) y0 y1 y2 y3 y4 y5 y6 y7 y8 y9))
 | 0 => ⟨fun _ _ _ _ _ _ _ r h => by simp [impl_planFits.l0] at h, fun _ _ _ _ _ _ _ _ _ _ _ r h => by simp [impl_planFits.l1] at h, fun _ _ _ _ _ _ _ _ _ _ r h => by simp [impl_planFits.l2] at h⟩
 | k + 1 => by
  obtain ⟨ih0, ih1, ih2⟩ := impl_planFits.mono_l k
  refine ⟨?_, ?_, ?_⟩
  ·intro y0 y1 y2 y3 y4 y5 y6
   unfold impl_planFits.l0
   repeat' first
   | (with_reducible exact ih0 _ _ _ _ _ _ _)
   | (with_reducible exact ih1 _ _ _ _ _ _ _ _ _ _ _)
   | (with_reducible exact ih2 _ _ _ _ _ _ _ _ _ _)
   | (with_reducible exact impl_useAt.mono _ _ _ _)
   | (with_reducible exact LeO.refl _)
   | (with_reducible exact LeO.none _)
   | (with_reducible refine LeO.ite ?_ ?_)
   | (with_reducible refine LeO.bind ?_ (fun _ => ?_))
   | exact ih0 _ _ _ _ _ _ _
   | exact ih1 _ _ _ _ _ _ _ _ _ _ _
   | exact ih2 _ _ _ _ _ _ _ _ _ _
   | exact impl_useAt.mono _ _ _ _
   | exact LeO.none _
   | refine LeO.ite ?_ ?_
   | refine LeO.bind ?_ (fun _ => ?_)
  ·intro y0 y1 y2 y3 y4 y5 y6 y7 y8 y9 y10
   unfold impl_planFits.l1
   repeat' first
   | (with_reducible exact ih0 _ _ _ _ _ _ _)
   | (with_reducible exact ih1 _ _ _ _ _ _ _ _ _ _ _)
   | (with_reducible exact ih2 _ _ _ _ _ _ _ _ _ _)
   | (with_reducible exact impl_useAt.mono _ _ _ _)
   | (with_reducible exact LeO.refl _)
   | (with_reducible exact LeO.none _)
   | (with_reducible refine LeO.ite ?_ ?_)
   | (with_reducible refine LeO.bind ?_ (fun _ => ?_))
   | exact ih0 _ _ _ _ _ _ _
   | exact ih1 _ _ _ _ _ _ _ _ _ _ _
   | exact ih2 _ _ _ _ _ _ _ _ _ _
   | exact impl_useAt.mono _ _ _ _
   | exact LeO.none _
   | refine LeO.ite ?_ ?_
   | refine LeO.bind ?_ (fun _ => ?_)
  intro y0 y1 y2 y3 y4 y5 y6 y7 y8 y9
  unfold impl_planFits.l2
  repeat' first
  | (with_reducible exact ih0 _ _ _ _ _ _ _)
  | (with_reducible exact ih1 _ _ _ _ _ _ _ _ _ _ _)
  | (with_reducible exact ih2 _ _ _ _ _ _ _ _ _ _)
  | (with_reducible exact impl_useAt.mono _ _ _ _)
  | (with_reducible exact LeO.refl _)
  | (with_reducible exact LeO.none _)
  | (with_reducible refine LeO.ite ?_ ?_)
  | (with_reducible refine LeO.bind ?_ (fun _ => ?_))
  | exact ih0 _ _ _ _ _ _ _
  | exact ih1 _ _ _ _ _ _ _ _ _ _ _
  | exact ih2 _ _ _ _ _ _ _ _ _ _
  | exact impl_useAt.mono _ _ _ _
  | exact LeO.none _
  | refine LeO.ite ?_ ?_
  | refine LeO.bind ?_ (fun _ => ?_)
theorem impl_planFits.mono : ∀ a0 a1 a2 a3 k, LeO (impl_planFits.f k a0 a1 a2 a3) (impl_planFits.f (k + 1) a0 a1 a2 a3) := by
 intro a0 a1 a2 a3 k
 obtain ⟨ih0, ih1, ih2⟩ := impl_planFits.mono_l k
 unfold impl_planFits.f
 repeat' first
  | (with_reducible exact ih0 _ _ _ _ _ _ _)
  | (with_reducible exact ih1 _ _ _ _ _ _ _ _ _ _ _)
  | (with_reducible exact ih2 _ _ _ _ _ _ _ _ _ _)
  | (with_reducible exact impl_useAt.mono _ _ _ _)
  | (with_reducible exact LeO.refl _)
  | (with_reducible exact LeO.none _)
  | (with_reducible refine LeO.ite ?_ ?_)
  | (with_reducible refine LeO.bind ?_ (fun _ => ?_))
  | exact ih0 _ _ _ _ _ _ _
  | exact ih1 _ _ _ _ _ _ _ _ _ _ _
  | exact ih2 _ _ _ _ _ _ _ _ _ _
  | exact impl_useAt.mono _ _ _ _
  | exact LeO.none _
  | refine LeO.ite ?_ ?_
  | refine LeO.bind ?_ (fun _ => ?_)
set_option maxHeartbeats 8000000 in
set_option maxRecDepth 100000 in
theorem impl_planFits.calls (k : Nat) (A0 : Option Addr) (c0 : Nat) (l0 : List (S39)) (a1_0 : Int) (A1_1 : Option Addr) (c1_1 : Nat) (l1_1 : List Int) (A2 : Option Addr) (c2 : Nat) (l2 : List Int) (r : Bool) (w : World) (hr0 : Kd.C k39 w A0 l0.length l0) (hc0 : l0.length ≤ c0) (hr1_1 : Kd.C (Kd.int .i64) w A1_1 l1_1.length l1_1) (hc1_1 : l1_1.length ≤ c1_1) (hr2 : Kd.C (Kd.int .i64) w A2 l2.length l2) (hc2 : l2.length ≤ c2) (h : impl_planFits.f k l0 a1_0 l1_1 l2 = some r) :
    Calls Try.prog 28 #[.slice A0 l0.length c0, .agg #[.int .i64 a1_0, .slice A1_1 l1_1.length c1_1], .slice A2 l2.length c2] w fun e w' => e = .returned (.bool r) ∧ Below w.heap.size w w' := by
 have hu26 := Try.underlying26
 have hu39 := Try.underlying39
 have HR0 := Aside0.mk hr0
 have HC0 := Aside0.mk hc0
 clear hr0 hc0
 have HR1_1 := Aside0.mk hr1_1
 have HC1_1 := Aside0.mk hc1_1
 clear hr1_1 hc1_1
 have HR2 := Aside0.mk hr2
 have HC2 := Aside0.mk hc2
 clear hr2 hc2
 have HB := Aside0.mk (Below.refl w.heap.size w)
 have H : (impl_planFits.l0 k l0 l2 l0 (l0.length : Int) 0 a1_0 l1_1) = some r := h
 clear h
 have H' := Aside0.mk H
 clear H
 go_enter Try.func28, Try.ntmps28
 go_wp2_with (first | ((with_reducible refine gate_dst (N := 4) rfl ?_); refine box_event ?hg (N := 4) ?hd (cs := #[.int .i64 a1_0, .slice A1_1 l1_1.length c1_1]) (t := 26) ?hr ?_; (case hd => rfl); (case hg => rfl); (case hr => first | (go_simp; done) | (go_simp; rfl)); intro gb227 hg w4 hbox hb; have n0_ := Aside0.mk (below_step (bel HB.out) hb); have n1_ := Aside0.mk (hbox); have n2_ := Aside0.mk ((by rw [hg]; exact (below_size (bel HB.out)) : w.heap.size ≤ gb227)); have n3_ := Aside0.mk ((by rw [hg]; exact (below_size (bel HB.out)) : w.heap.size ≤ gb227)); clear HB; have HB := n0_; have BK227 := n1_; have GW227 := n2_; have GE227 := n3_; clear n0_ n1_ n2_ n3_; clear hb hbox hg))
 repeat (go_quiet (first | ((with_reducible refine gate_dst (N := 4) rfl ?_); refine box_event ?hg (N := 4) ?hd (cs := #[.int .i64 a1_0, .slice A1_1 l1_1.length c1_1]) (t := 26) ?hr ?_; (case hd => rfl); (case hg => rfl); (case hr => first | (go_simp; done) | (go_simp; rfl)); intro gb227 hg w4 hbox hb; have n0_ := Aside0.mk (below_step (bel HB.out) hb); have n1_ := Aside0.mk (hbox); have n2_ := Aside0.mk ((by rw [hg]; exact (below_size (bel HB.out)) : w.heap.size ≤ gb227)); have n3_ := Aside0.mk ((by rw [hg]; exact (below_size (bel HB.out)) : w.heap.size ≤ gb227)); clear HB; have HB := n0_; have BK227 := n1_; have GW227 := n2_; have GE227 := n3_; clear n0_ n1_ n2_ n3_; clear hb hbox hg)); try go_wp2_with (first | ((with_reducible refine gate_dst (N := 4) rfl ?_); refine box_event ?hg (N := 4) ?hd (cs := #[.int .i64 a1_0, .slice A1_1 l1_1.length c1_1]) (t := 26) ?hr ?_; (case hd => rfl); (case hg => rfl); (case hr => first | (go_simp; done) | (go_simp; rfl)); intro gb227 hg w4 hbox hb; have n0_ := Aside0.mk (below_step (bel HB.out) hb); have n1_ := Aside0.mk (hbox); have n2_ := Aside0.mk ((by rw [hg]; exact (below_size (bel HB.out)) : w.heap.size ≤ gb227)); have n3_ := Aside0.mk ((by rw [hg]; exact (below_size (bel HB.out)) : w.heap.size ≤ gb227)); clear HB; have HB := n0_; have BK227 := n1_; have GW227 := n2_; have GE227 := n3_; clear n0_ n1_ n2_ n3_; clear hb hbox hg)))
 go_loopg [17] k (fun kq v17 w' => ∃ (x17_1 : Int), v17 = .int .i64 x17_1 ∧ Aside0 (impl_planFits.l0 kq l0 l2 l0 (l0.length : Int) x17_1 a1_0 l1_1 = some r) ∧ Aside0 (kq ≤ k) ∧ Aside0 (w'.heap[gb227]? = some (.cells #[.int .i64 a1_0, (.slice A1_1 l1_1.length c1_1)] 26 (0, 0))) ∧ Aside0 (Below w.heap.size w w'))
 case atStart => exact ⟨(0), (by first | rfl | (simp; done) | (simp [*]; done)), H', ⟨Nat.le_refl _⟩, ⟨by (with_reducible repeat (first | refine blk_drewN ?_ _ | refine blk_drew ?_ | refine blk_alloc ?_ _)); exact BK227.out⟩, ⟨by repeat (first | (with_reducible first | exact HB.out | apply below_alloc | apply pw_below_drewN | apply below_drew1 | refine below_set ?_ GE227.out) | exact HB.out)⟩⟩
 case round =>
  clear H'
  try clear c1
  try clear c2
  try clear p2
  obtain ⟨x17_1, rfl, HA, HK1, BK227, HB⟩ := hrel
  cases gk with
  | zero => exact absurd HA.out (by simp [impl_planFits.l0])
  | succ k1 =>
   have H := HA.out
   clear HA
   simp only [impl_planFits.l0] at H
   by_cases c5 : x17_1 < (l0.length : Int)
   ·rw [if_pos c5] at H
    have c5b0 : decide (x17_1 < (l0.length : Int)) = true := decide_eq_true c5
    clear c5
    by_cases c6 : 0 ≤ x17_1
    ·rw [if_pos c6] at H
     have c6b0 : decide (0 ≤ x17_1) = true := decide_eq_true c6
     clear c6
     by_cases c7 : x17_1 < (l0.length : Int)
     ·rw [if_pos c7] at H
      have c7b0 : decide (x17_1 < (l0.length : Int)) = true := decide_eq_true c7
      clear c7
      have H' := Aside0.mk H
      clear H
      have p228 : 0 ≤ (x17_1 : Int) := of_decide_eq_true (by assumption)
      have q228 : x17_1 < (l0.length : Int) := of_decide_eq_true (by assumption)
      obtain ⟨ad228, A228_3, c228_3, e228, hx228_0, hx228_1, hx228_2, hx228_3, hl228_3, hi228_3⟩ := at_T39 HR0.out x17_1 p228 q228
      cases e228
      replace hx228_0 := cel HB.out hx228_0
      replace hx228_1 := cel HB.out hx228_1
      replace hx228_2 := cel HB.out hx228_2
      replace hx228_3 := cel HB.out hx228_3
      have HR228_3 := Aside0.mk hi228_3
      have HC228_3 := Aside0.mk hl228_3
      clear hi228_3 hl228_3
      replace p228 := eq_true p228
      replace q228 := eq_true q228
      go_wp2_with (first | ((with_reducible refine gate_dst (N := 8) rfl ?_); refine box_event ?hg (N := 8) ?hd (cs := #[.int .i64 0, .int .i64 0, .int .i64 0, .slice none 0 0]) (t := 39) ?hr ?_; (case hd => rfl); (case hg => rfl); (case hr => first | (go_simp; done) | (go_simp; rfl)); intro gb229 hg w8 hbox hb; have n0_ := Aside0.mk (blk_below (g := gb227) (o := .cells #[.int .i64 a1_0, .slice A1_1 l1_1.length c1_1] 26 (0, 0)) (bup BK227.out) hb); have n1_ := Aside0.mk (below_step (by repeat (first | (with_reducible first | exact HB.out | apply below_alloc | apply pw_below_drewN | apply below_drew1 | refine below_set ?_ GE227.out) | exact HB.out)) hb); have n2_ := Aside0.mk (hbox); have n3_ := Aside0.mk ((by rw [hg]; exact (below_size (by repeat (first | (with_reducible first | exact HB.out | apply below_alloc | apply pw_below_drewN | apply below_drew1 | refine below_set ?_ GE227.out) | exact HB.out))) : w.heap.size ≤ gb229)); have n4_ := Aside0.mk ((by rw [hg]; exact (below_size (by repeat (first | (with_reducible first | exact HB.out | apply below_alloc | apply pw_below_drewN | apply below_drew1 | refine below_set ?_ GE227.out) | exact HB.out))) : w.heap.size ≤ gb229)); have n5_ := Aside0.mk ((by rw [hg]; exact Nat.ne_of_lt (blk_lt (g := gb227) (o := .cells #[.int .i64 a1_0, .slice A1_1 l1_1.length c1_1] 26 (0, 0)) (bup BK227.out)) : gb227 ≠ gb229)); have n6_ := Aside0.mk ((by rw [hg]; exact Nat.ne_of_gt (blk_lt (g := gb227) (o := .cells #[.int .i64 a1_0, .slice A1_1 l1_1.length c1_1] 26 (0, 0)) (bup BK227.out)) : gb229 ≠ gb227)); clear BK227; clear HB; have BK227 := n0_; have HB := n1_; have BK229 := n2_; have GW229 := n3_; have GE229 := n4_; have NB227_229 := n5_; have NB229_227 := n6_; clear n0_ n1_ n2_ n3_ n4_ n5_ n6_; clear hb hbox hg; have hnb9 := NB229_227.out; have hnc9 := NB227_229.out; have hcz10_0 : w8.cell? ⟨gb229, 0, none⟩ = some (.int .i64 0) := (blk_cell BK229.out 0).trans rfl; have hcz10_1 : w8.cell? ⟨gb229, 1, none⟩ = some (.int .i64 0) := (blk_cell BK229.out 1).trans rfl; have hcz10_2 : w8.cell? ⟨gb229, 2, none⟩ = some (.int .i64 0) := (blk_cell BK229.out 2).trans rfl; have hcz10_3 : w8.cell? ⟨gb229, 3, none⟩ = some (.slice none 0 0) := (blk_cell BK229.out 3).trans rfl; have hfz10_0 := blk_frozen BK229.out 0; have hfz10_1 := blk_frozen BK229.out 1; have hfz10_2 := blk_frozen BK229.out 2; have hfz10_3 := blk_frozen BK229.out 3))
      repeat (go_quiet (first | ((with_reducible refine gate_dst (N := 8) rfl ?_); refine box_event ?hg (N := 8) ?hd (cs := #[.int .i64 0, .int .i64 0, .int .i64 0, .slice none 0 0]) (t := 39) ?hr ?_; (case hd => rfl); (case hg => rfl); (case hr => first | (go_simp; done) | (go_simp; rfl)); intro gb229 hg w8 hbox hb; have n0_ := Aside0.mk (blk_below (g := gb227) (o := .cells #[.int .i64 a1_0, .slice A1_1 l1_1.length c1_1] 26 (0, 0)) (bup BK227.out) hb); have n1_ := Aside0.mk (below_step (by repeat (first | (with_reducible first | exact HB.out | apply below_alloc | apply pw_below_drewN | apply below_drew1 | refine below_set ?_ GE227.out) | exact HB.out)) hb); have n2_ := Aside0.mk (hbox); have n3_ := Aside0.mk ((by rw [hg]; exact (below_size (by repeat (first | (with_reducible first | exact HB.out | apply below_alloc | apply pw_below_drewN | apply below_drew1 | refine below_set ?_ GE227.out) | exact HB.out))) : w.heap.size ≤ gb229)); have n4_ := Aside0.mk ((by rw [hg]; exact (below_size (by repeat (first | (with_reducible first | exact HB.out | apply below_alloc | apply pw_below_drewN | apply below_drew1 | refine below_set ?_ GE227.out) | exact HB.out))) : w.heap.size ≤ gb229)); have n5_ := Aside0.mk ((by rw [hg]; exact Nat.ne_of_lt (blk_lt (g := gb227) (o := .cells #[.int .i64 a1_0, .slice A1_1 l1_1.length c1_1] 26 (0, 0)) (bup BK227.out)) : gb227 ≠ gb229)); have n6_ := Aside0.mk ((by rw [hg]; exact Nat.ne_of_gt (blk_lt (g := gb227) (o := .cells #[.int .i64 a1_0, .slice A1_1 l1_1.length c1_1] 26 (0, 0)) (bup BK227.out)) : gb229 ≠ gb227)); clear BK227; clear HB; have BK227 := n0_; have HB := n1_; have BK229 := n2_; have GW229 := n3_; have GE229 := n4_; have NB227_229 := n5_; have NB229_227 := n6_; clear n0_ n1_ n2_ n3_ n4_ n5_ n6_; clear hb hbox hg; have hnb9 := NB229_227.out; have hnc9 := NB227_229.out; have hcz10_0 : w8.cell? ⟨gb229, 0, none⟩ = some (.int .i64 0) := (blk_cell BK229.out 0).trans rfl; have hcz10_1 : w8.cell? ⟨gb229, 1, none⟩ = some (.int .i64 0) := (blk_cell BK229.out 1).trans rfl; have hcz10_2 : w8.cell? ⟨gb229, 2, none⟩ = some (.int .i64 0) := (blk_cell BK229.out 2).trans rfl; have hcz10_3 : w8.cell? ⟨gb229, 3, none⟩ = some (.slice none 0 0) := (blk_cell BK229.out 3).trans rfl; have hfz10_0 := blk_frozen BK229.out 0; have hfz10_1 := blk_frozen BK229.out 1; have hfz10_2 := blk_frozen BK229.out 2; have hfz10_3 := blk_frozen BK229.out 3)); try go_wp2_with (first | ((with_reducible refine gate_dst (N := 8) rfl ?_); refine box_event ?hg (N := 8) ?hd (cs := #[.int .i64 0, .int .i64 0, .int .i64 0, .slice none 0 0]) (t := 39) ?hr ?_; (case hd => rfl); (case hg => rfl); (case hr => first | (go_simp; done) | (go_simp; rfl)); intro gb229 hg w8 hbox hb; have n0_ := Aside0.mk (blk_below (g := gb227) (o := .cells #[.int .i64 a1_0, .slice A1_1 l1_1.length c1_1] 26 (0, 0)) (bup BK227.out) hb); have n1_ := Aside0.mk (below_step (by repeat (first | (with_reducible first | exact HB.out | apply below_alloc | apply pw_below_drewN | apply below_drew1 | refine below_set ?_ GE227.out) | exact HB.out)) hb); have n2_ := Aside0.mk (hbox); have n3_ := Aside0.mk ((by rw [hg]; exact (below_size (by repeat (first | (with_reducible first | exact HB.out | apply below_alloc | apply pw_below_drewN | apply below_drew1 | refine below_set ?_ GE227.out) | exact HB.out))) : w.heap.size ≤ gb229)); have n4_ := Aside0.mk ((by rw [hg]; exact (below_size (by repeat (first | (with_reducible first | exact HB.out | apply below_alloc | apply pw_below_drewN | apply below_drew1 | refine below_set ?_ GE227.out) | exact HB.out))) : w.heap.size ≤ gb229)); have n5_ := Aside0.mk ((by rw [hg]; exact Nat.ne_of_lt (blk_lt (g := gb227) (o := .cells #[.int .i64 a1_0, .slice A1_1 l1_1.length c1_1] 26 (0, 0)) (bup BK227.out)) : gb227 ≠ gb229)); have n6_ := Aside0.mk ((by rw [hg]; exact Nat.ne_of_gt (blk_lt (g := gb227) (o := .cells #[.int .i64 a1_0, .slice A1_1 l1_1.length c1_1] 26 (0, 0)) (bup BK227.out)) : gb229 ≠ gb227)); clear BK227; clear HB; have BK227 := n0_; have HB := n1_; have BK229 := n2_; have GW229 := n3_; have GE229 := n4_; have NB227_229 := n5_; have NB229_227 := n6_; clear n0_ n1_ n2_ n3_ n4_ n5_ n6_; clear hb hbox hg; have hnb9 := NB229_227.out; have hnc9 := NB227_229.out; have hcz10_0 : w8.cell? ⟨gb229, 0, none⟩ = some (.int .i64 0) := (blk_cell BK229.out 0).trans rfl; have hcz10_1 : w8.cell? ⟨gb229, 1, none⟩ = some (.int .i64 0) := (blk_cell BK229.out 1).trans rfl; have hcz10_2 : w8.cell? ⟨gb229, 2, none⟩ = some (.int .i64 0) := (blk_cell BK229.out 2).trans rfl; have hcz10_3 : w8.cell? ⟨gb229, 3, none⟩ = some (.slice none 0 0) := (blk_cell BK229.out 3).trans rfl; have hfz10_0 := blk_frozen BK229.out 0; have hfz10_1 := blk_frozen BK229.out 1; have hfz10_2 := blk_frozen BK229.out 2; have hfz10_3 := blk_frozen BK229.out 3)))
      go_loopg [25] k1 (fun kq v25 w' => ∃ (x25_2 : Int), v25 = .int .i64 x25_2 ∧ Aside0 (impl_planFits.l1 kq l0 l2 x17_1 l0 (l0.length : Int) x17_1 ((rd_T39 l0 x17_1).f3) (((rd_T39 l0 x17_1).f3).length : Int) x25_2 a1_0 l1_1 = some r) ∧ Aside0 (kq ≤ k1) ∧ Aside0 (w'.heap[gb227]? = some (.cells #[.int .i64 a1_0, (.slice A1_1 l1_1.length c1_1)] 26 (0, 0))) ∧ Aside0 (w'.heap[gb229]? = some (.cells #[.int .i64 ((rd_T39 l0 x17_1).f0), .int .i64 ((rd_T39 l0 x17_1).f1), .int .i64 ((rd_T39 l0 x17_1).f2), (.slice A228_3 ((rd_T39 l0 x17_1).f3).length c228_3)] 39 (0, 0))) ∧ Aside0 (Below w.heap.size w w'))
      case atStart => exact ⟨(0), (by first | rfl | (simp; done) | (simp [*]; done)), H', ⟨Nat.le_refl _⟩, ⟨by (with_reducible repeat (first | refine blk_drewN ?_ _ | refine blk_drew ?_ | refine blk_alloc ?_ _)); refine blk_far ?_ NB227_229.out _; (with_reducible repeat (first | refine blk_drewN ?_ _ | refine blk_drew ?_ | refine blk_alloc ?_ _)); refine blk_far ?_ NB227_229.out _; (with_reducible repeat (first | refine blk_drewN ?_ _ | refine blk_drew ?_ | refine blk_alloc ?_ _)); refine blk_far ?_ NB227_229.out _; (with_reducible repeat (first | refine blk_drewN ?_ _ | refine blk_drew ?_ | refine blk_alloc ?_ _)); refine blk_far ?_ NB227_229.out _; (with_reducible repeat (first | refine blk_drewN ?_ _ | refine blk_drew ?_ | refine blk_alloc ?_ _)); exact BK227.out⟩, ⟨by (with_reducible repeat (first | refine blk_drewN ?_ _ | refine blk_drew ?_ | refine blk_alloc ?_ _)); refine blk_put (cs := #[.int .i64 ((rd_T39 l0 x17_1).f0), .int .i64 ((rd_T39 l0 x17_1).f1), .int .i64 ((rd_T39 l0 x17_1).f2), .slice none 0 0]) ?_ 3 _ rfl; (with_reducible repeat (first | refine blk_drewN ?_ _ | refine blk_drew ?_ | refine blk_alloc ?_ _)); refine blk_put (cs := #[.int .i64 ((rd_T39 l0 x17_1).f0), .int .i64 ((rd_T39 l0 x17_1).f1), .int .i64 0, .slice none 0 0]) ?_ 2 _ rfl; (with_reducible repeat (first | refine blk_drewN ?_ _ | refine blk_drew ?_ | refine blk_alloc ?_ _)); refine blk_put (cs := #[.int .i64 ((rd_T39 l0 x17_1).f0), .int .i64 0, .int .i64 0, .slice none 0 0]) ?_ 1 _ rfl; (with_reducible repeat (first | refine blk_drewN ?_ _ | refine blk_drew ?_ | refine blk_alloc ?_ _)); refine blk_put (cs := #[.int .i64 0, .int .i64 0, .int .i64 0, .slice none 0 0]) ?_ 0 _ rfl; (with_reducible repeat (first | refine blk_drewN ?_ _ | refine blk_drew ?_ | refine blk_alloc ?_ _)); exact BK229.out⟩, ⟨by repeat (first | (with_reducible first | exact HB.out | apply below_alloc | apply pw_below_drewN | apply below_drew1 | refine below_set ?_ GE227.out | refine below_set ?_ GE229.out) | exact HB.out)⟩⟩
      case round =>
       clear H'
       try clear c1
       try clear c2
       try clear p2
       try clear q2
       try clear hx2
       try clear c5
       try clear c5b0
       try clear c6
       try clear c6b0
       try clear c7
       try clear c7b0
       try clear c9
       try clear hcz10_0
       try clear hcz10_1
       try clear hcz10_2
       try clear hcz10_3
       try clear hfz10_0
       try clear hfz10_1
       try clear hfz10_2
       try clear hfz10_3
       try clear hx228_0
       try clear hx228_1
       try clear hx228_2
       try clear hx228_3
       try clear p2
       try clear p228
       try clear q228
       obtain ⟨x25_2, rfl, HA, HK2, BK227, BK229, HB⟩ := hrel
       cases gk with
       | zero => exact absurd HA.out (by simp [impl_planFits.l1])
       | succ k2 =>
        have H := HA.out
        clear HA
        simp only [impl_planFits.l1] at H
        by_cases c11 : x25_2 < (((rd_T39 l0 x17_1).f3).length : Int)
        ·rw [if_pos c11] at H
         have c11b0 : decide (x25_2 < (((rd_T39 l0 x17_1).f3).length : Int)) = true := decide_eq_true c11
         clear c11
         by_cases c12 : 0 ≤ x25_2
         ·rw [if_pos c12] at H
          have c12b0 : decide (0 ≤ x25_2) = true := decide_eq_true c12
          clear c12
          by_cases c13 : x25_2 < (((rd_T39 l0 x17_1).f3).length : Int)
          ·rw [if_pos c13] at H
           have c13b0 : decide (x25_2 < (((rd_T39 l0 x17_1).f3).length : Int)) = true := decide_eq_true c13
           clear c13
           by_cases c14 : 0 ≤ x17_1
           ·rw [if_pos c14] at H
            have c14b0 : decide (0 ≤ x17_1) = true := decide_eq_true c14
            clear c14
            by_cases c15 : x17_1 < (l2.length : Int)
            ·rw [if_pos c15] at H
             have c15b0 : decide (x17_1 < (l2.length : Int)) = true := decide_eq_true c15
             clear c15
             by_cases c16 : 0 ≤ (rd ((rd_T39 l0 x17_1).f3) x25_2)
             ·rw [if_pos c16] at H
              have c16b0 : decide (0 ≤ (rd ((rd_T39 l0 x17_1).f3) x25_2)) = true := decide_eq_true c16
              clear c16
              by_cases c17 : (rd ((rd_T39 l0 x17_1).f3) x25_2) < (l2.length : Int)
              ·rw [if_pos c17] at H
               have c17b0 : decide ((rd ((rd_T39 l0 x17_1).f3) x25_2) < (l2.length : Int)) = true := decide_eq_true c17
               clear c17
               by_cases c18 : (rd ((rd_T39 l0 x17_1).f3) x25_2) < (l0.length : Int)
               ·rw [if_pos c18] at H
                have c18b0 : decide ((rd ((rd_T39 l0 x17_1).f3) x25_2) < (l0.length : Int)) = true := decide_eq_true c18
                clear c18
                by_cases c19 : (rd l2 x17_1) < (wrap64 ((rd l2 (rd ((rd_T39 l0 x17_1).f3) x25_2)) + ((rd_T39 l0 (rd ((rd_T39 l0 x17_1).f3) x25_2)).f0)))
                ·rw [if_pos c19] at H
                 have c19b0 : decide ((rd l2 x17_1) < (wrap64 ((rd l2 (rd ((rd_T39 l0 x17_1).f3) x25_2)) + ((rd_T39 l0 (rd ((rd_T39 l0 x17_1).f3) x25_2)).f0)))) = true := decide_eq_true c19
                 clear c19
                 obtain rfl := Option.some.inj H
                 have p230 : 0 ≤ (x25_2 : Int) := of_decide_eq_true (by assumption)
                 have q230 : x25_2 < (((rd_T39 l0 x17_1).f3).length : Int) := of_decide_eq_true (by assumption)
                 obtain ⟨ad230, e230, hx230_0⟩ := Kd.at_int HR228_3.out x25_2 p230 q230
                 cases e230
                 replace hx230_0 := cel HB.out hx230_0
                 replace p230 := eq_true p230
                 replace q230 := eq_true q230
                 have p231 : 0 ≤ (x17_1 : Int) := of_decide_eq_true (by assumption)
                 have q231 : x17_1 < (l2.length : Int) := of_decide_eq_true (by assumption)
                 obtain ⟨ad231, e231, hx231_0⟩ := Kd.at_int HR2.out x17_1 p231 q231
                 cases e231
                 replace hx231_0 := cel HB.out hx231_0
                 replace p231 := eq_true p231
                 replace q231 := eq_true q231
                 have p232 : 0 ≤ ((rd ((rd_T39 l0 x17_1).f3) x25_2) : Int) := of_decide_eq_true (by assumption)
                 have q232 : (rd ((rd_T39 l0 x17_1).f3) x25_2) < (l2.length : Int) := of_decide_eq_true (by assumption)
                 obtain ⟨ad232, e232, hx232_0⟩ := Kd.at_int HR2.out (rd ((rd_T39 l0 x17_1).f3) x25_2) p232 q232
                 obtain rfl : ad231 = ad232 := (by injection e232)
                 replace hx232_0 := cel HB.out hx232_0
                 replace p232 := eq_true p232
                 replace q232 := eq_true q232
                 have p233 : 0 ≤ ((rd ((rd_T39 l0 x17_1).f3) x25_2) : Int) := of_decide_eq_true (by assumption)
                 have q233 : (rd ((rd_T39 l0 x17_1).f3) x25_2) < (l0.length : Int) := of_decide_eq_true (by assumption)
                 obtain ⟨ad233, A233_3, c233_3, e233, hx233_0, hx233_1, hx233_2, hx233_3, hl233_3, hi233_3⟩ := at_T39 HR0.out (rd ((rd_T39 l0 x17_1).f3) x25_2) p233 q233
                 obtain rfl : ad228 = ad233 := (by injection e233)
                 replace hx233_0 := cel HB.out hx233_0
                 replace hx233_1 := cel HB.out hx233_1
                 replace hx233_2 := cel HB.out hx233_2
                 replace hx233_3 := cel HB.out hx233_3
                 have HR233_3 := Aside0.mk hi233_3
                 have HC233_3 := Aside0.mk hl233_3
                 clear hi233_3 hl233_3
                 replace p233 := eq_true p233
                 replace q233 := eq_true q233
                 go_wp2
                 repeat (go_quiet (fail); try go_wp2)
                 go_ret
                 exact ⟨by first | rfl | (simp [errW_none, errW_some] <;> rfl) | (simp [*, errW_none, errW_some] <;> rfl), by repeat (first | (with_reducible first | exact HB.out | apply below_alloc | apply pw_below_drewN | apply below_drew1 | refine below_set ?_ GE227.out | refine below_set ?_ GE229.out) | exact HB.out)⟩
                rw [if_neg c19] at H
                have c19b0 : decide ((rd l2 x17_1) < (wrap64 ((rd l2 (rd ((rd_T39 l0 x17_1).f3) x25_2)) + ((rd_T39 l0 (rd ((rd_T39 l0 x17_1).f3) x25_2)).f0)))) = false := decide_eq_false c19
                clear c19
                have H' := Aside0.mk H
                clear H
                have p230 : 0 ≤ (x25_2 : Int) := of_decide_eq_true (by assumption)
                have q230 : x25_2 < (((rd_T39 l0 x17_1).f3).length : Int) := of_decide_eq_true (by assumption)
                obtain ⟨ad230, e230, hx230_0⟩ := Kd.at_int HR228_3.out x25_2 p230 q230
                cases e230
                replace hx230_0 := cel HB.out hx230_0
                replace p230 := eq_true p230
                replace q230 := eq_true q230
                have p231 : 0 ≤ (x17_1 : Int) := of_decide_eq_true (by assumption)
                have q231 : x17_1 < (l2.length : Int) := of_decide_eq_true (by assumption)
                obtain ⟨ad231, e231, hx231_0⟩ := Kd.at_int HR2.out x17_1 p231 q231
                cases e231
                replace hx231_0 := cel HB.out hx231_0
                replace p231 := eq_true p231
                replace q231 := eq_true q231
                have p232 : 0 ≤ ((rd ((rd_T39 l0 x17_1).f3) x25_2) : Int) := of_decide_eq_true (by assumption)
                have q232 : (rd ((rd_T39 l0 x17_1).f3) x25_2) < (l2.length : Int) := of_decide_eq_true (by assumption)
                obtain ⟨ad232, e232, hx232_0⟩ := Kd.at_int HR2.out (rd ((rd_T39 l0 x17_1).f3) x25_2) p232 q232
                obtain rfl : ad231 = ad232 := (by injection e232)
                replace hx232_0 := cel HB.out hx232_0
                replace p232 := eq_true p232
                replace q232 := eq_true q232
                have p233 : 0 ≤ ((rd ((rd_T39 l0 x17_1).f3) x25_2) : Int) := of_decide_eq_true (by assumption)
                have q233 : (rd ((rd_T39 l0 x17_1).f3) x25_2) < (l0.length : Int) := of_decide_eq_true (by assumption)
                obtain ⟨ad233, A233_3, c233_3, e233, hx233_0, hx233_1, hx233_2, hx233_3, hl233_3, hi233_3⟩ := at_T39 HR0.out (rd ((rd_T39 l0 x17_1).f3) x25_2) p233 q233
                obtain rfl : ad228 = ad233 := (by injection e233)
                replace hx233_0 := cel HB.out hx233_0
                replace hx233_1 := cel HB.out hx233_1
                replace hx233_2 := cel HB.out hx233_2
                replace hx233_3 := cel HB.out hx233_3
                have HR233_3 := Aside0.mk hi233_3
                have HC233_3 := Aside0.mk hl233_3
                clear hi233_3 hl233_3
                replace p233 := eq_true p233
                replace q233 := eq_true q233
                go_wp2
                repeat (go_quiet (fail); try go_wp2)
                go_roundg k2
                case measure => have := HK1.out; have := HK2.out; omega
                case rel => exact ⟨(wrap64 (x25_2 + 1)), (by first | rfl | (simp; done) | (simp [*]; done)), H', ⟨by have := HK1.out; have := HK2.out; omega⟩, ⟨by (with_reducible repeat (first | refine blk_drewN ?_ _ | refine blk_drew ?_ | refine blk_alloc ?_ _)); exact BK227.out⟩, ⟨by (with_reducible repeat (first | refine blk_drewN ?_ _ | refine blk_drew ?_ | refine blk_alloc ?_ _)); exact BK229.out⟩, ⟨by repeat (first | (with_reducible first | exact HB.out | apply below_alloc | apply pw_below_drewN | apply below_drew1 | refine below_set ?_ GE227.out | refine below_set ?_ GE229.out) | exact HB.out)⟩⟩
               rw [if_neg c18] at H
               exact absurd H (by simp)
              rw [if_neg c17] at H
              exact absurd H (by simp)
             rw [if_neg c16] at H
             exact absurd H (by simp)
            rw [if_neg c15] at H
            exact absurd H (by simp)
           rw [if_neg c14] at H
           exact absurd H (by simp)
          rw [if_neg c13] at H
          exact absurd H (by simp)
         rw [if_neg c12] at H
         exact absurd H (by simp)
        rw [if_neg c11] at H
        have c11b0 : decide (x25_2 < (((rd_T39 l0 x17_1).f3).length : Int)) = false := decide_eq_false c11
        clear c11
        by_cases c20 : 0 ≤ x17_1
        ·rw [if_pos c20] at H
         have c20b0 : decide (0 ≤ x17_1) = true := decide_eq_true c20
         clear c20
         by_cases c21 : x17_1 < (l2.length : Int)
         ·rw [if_pos c21] at H
          have c21b0 : decide (x17_1 < (l2.length : Int)) = true := decide_eq_true c21
          clear c21
          replace H := Option.bind_eq_some_iff.mp H
          obtain ⟨⟨t235, t236⟩, A220, H⟩ := H
          replace H : (if t235 > a1_0 then (some false) else (impl_planFits.l2 k2 l0 l2 l0 (l0.length : Int) x17_1 t236 (t236.length : Int) 0 a1_0 l1_1)) = some r := H
          have A22 := Aside0.mk A220
          clear A220
          by_cases c23 : t235 > a1_0
          ·rw [if_pos c23] at H
           have c23b0 : decide (a1_0 < t235) = true := decide_eq_true c23
           clear c23
           obtain rfl := Option.some.inj H
           have p234 : 0 ≤ (x17_1 : Int) := of_decide_eq_true (by assumption)
           have q234 : x17_1 < (l2.length : Int) := of_decide_eq_true (by assumption)
           obtain ⟨ad234, e234, hx234_0⟩ := Kd.at_int HR2.out x17_1 p234 q234
           cases e234
           replace hx234_0 := cel HB.out hx234_0
           replace p234 := eq_true p234
           replace q234 := eq_true q234
           go_wp2_with (first | (go_at_call 40; (with_reducible refine (impl_useAt.calls k2 _ _ l0 _ _ l2 (rd l2 x17_1) t235 t236 _ ?side1 ?side2 ?side3 ?side4 A22.out).mono ?_); (case side1 => exact cup (Kd.C_below HR0.out HB.out)); (case side2 => exact HC0.out); (case side3 => exact cup (Kd.C_below HR2.out HB.out)); (case side4 => exact HC2.out); rintro e w24 ⟨v237, rfl, ho0, hb⟩; have n0_ := Aside0.mk (Kd.R_lower ho0 (below_size (by repeat (first | (with_reducible first | exact HB.out | apply below_alloc | apply pw_below_drewN | apply below_drew1 | refine below_set ?_ GE227.out | refine below_set ?_ GE229.out) | exact HB.out)))); have n1_ := Aside0.mk (blk_below (g := gb227) (o := .cells #[.int .i64 a1_0, .slice A1_1 l1_1.length c1_1] 26 (0, 0)) (bup BK227.out) hb); have n2_ := Aside0.mk (blk_below (g := gb229) (o := .cells #[.int .i64 ((rd_T39 l0 x17_1).f0), .int .i64 ((rd_T39 l0 x17_1).f1), .int .i64 ((rd_T39 l0 x17_1).f2), .slice A228_3 ((rd_T39 l0 x17_1).f3).length c228_3] 39 (0, 0)) (bup BK229.out) hb); have n3_ := Aside0.mk (below_step (by repeat (first | (with_reducible first | exact HB.out | apply below_alloc | apply pw_below_drewN | apply below_drew1 | refine below_set ?_ GE227.out | refine below_set ?_ GE229.out) | exact HB.out)) hb); clear BK227; clear BK229; clear HB; have HO238 := n0_; have BK227 := n1_; have BK229 := n2_; have HB := n3_; clear n0_ n1_ n2_ n3_; (try clear hb); (try clear hb2); (try clear hk); (try clear hi); (try clear ho0); have hnb25 := NB227_229.out; have hnc25 := NB229_227.out; have hcz26_0 : w24.cell? ⟨gb227, 0, none⟩ = some (.int .i64 a1_0) := (blk_cell BK227.out 0).trans rfl; have hcz26_1 : w24.cell? ⟨gb227, 1, none⟩ = some (.slice A1_1 l1_1.length c1_1) := (blk_cell BK227.out 1).trans rfl; have hfz26_0 := blk_frozen BK227.out 0; have hfz26_1 := blk_frozen BK227.out 1))
           repeat (go_quiet (first | (go_at_call 40; (with_reducible refine (impl_useAt.calls k2 _ _ l0 _ _ l2 (rd l2 x17_1) t235 t236 _ ?side1 ?side2 ?side3 ?side4 A22.out).mono ?_); (case side1 => exact cup (Kd.C_below HR0.out HB.out)); (case side2 => exact HC0.out); (case side3 => exact cup (Kd.C_below HR2.out HB.out)); (case side4 => exact HC2.out); rintro e w24 ⟨v237, rfl, ho0, hb⟩; have n0_ := Aside0.mk (Kd.R_lower ho0 (below_size (by repeat (first | (with_reducible first | exact HB.out | apply below_alloc | apply pw_below_drewN | apply below_drew1 | refine below_set ?_ GE227.out | refine below_set ?_ GE229.out) | exact HB.out)))); have n1_ := Aside0.mk (blk_below (g := gb227) (o := .cells #[.int .i64 a1_0, .slice A1_1 l1_1.length c1_1] 26 (0, 0)) (bup BK227.out) hb); have n2_ := Aside0.mk (blk_below (g := gb229) (o := .cells #[.int .i64 ((rd_T39 l0 x17_1).f0), .int .i64 ((rd_T39 l0 x17_1).f1), .int .i64 ((rd_T39 l0 x17_1).f2), .slice A228_3 ((rd_T39 l0 x17_1).f3).length c228_3] 39 (0, 0)) (bup BK229.out) hb); have n3_ := Aside0.mk (below_step (by repeat (first | (with_reducible first | exact HB.out | apply below_alloc | apply pw_below_drewN | apply below_drew1 | refine below_set ?_ GE227.out | refine below_set ?_ GE229.out) | exact HB.out)) hb); clear BK227; clear BK229; clear HB; have HO238 := n0_; have BK227 := n1_; have BK229 := n2_; have HB := n3_; clear n0_ n1_ n2_ n3_; (try clear hb); (try clear hb2); (try clear hk); (try clear hi); (try clear ho0); have hnb25 := NB227_229.out; have hnc25 := NB229_227.out; have hcz26_0 : w24.cell? ⟨gb227, 0, none⟩ = some (.int .i64 a1_0) := (blk_cell BK227.out 0).trans rfl; have hcz26_1 : w24.cell? ⟨gb227, 1, none⟩ = some (.slice A1_1 l1_1.length c1_1) := (blk_cell BK227.out 1).trans rfl; have hfz26_0 := blk_frozen BK227.out 0; have hfz26_1 := blk_frozen BK227.out 1)); try go_wp2_with (first | (go_at_call 40; (with_reducible refine (impl_useAt.calls k2 _ _ l0 _ _ l2 (rd l2 x17_1) t235 t236 _ ?side1 ?side2 ?side3 ?side4 A22.out).mono ?_); (case side1 => exact cup (Kd.C_below HR0.out HB.out)); (case side2 => exact HC0.out); (case side3 => exact cup (Kd.C_below HR2.out HB.out)); (case side4 => exact HC2.out); rintro e w24 ⟨v237, rfl, ho0, hb⟩; have n0_ := Aside0.mk (Kd.R_lower ho0 (below_size (by repeat (first | (with_reducible first | exact HB.out | apply below_alloc | apply pw_below_drewN | apply below_drew1 | refine below_set ?_ GE227.out | refine below_set ?_ GE229.out) | exact HB.out)))); have n1_ := Aside0.mk (blk_below (g := gb227) (o := .cells #[.int .i64 a1_0, .slice A1_1 l1_1.length c1_1] 26 (0, 0)) (bup BK227.out) hb); have n2_ := Aside0.mk (blk_below (g := gb229) (o := .cells #[.int .i64 ((rd_T39 l0 x17_1).f0), .int .i64 ((rd_T39 l0 x17_1).f1), .int .i64 ((rd_T39 l0 x17_1).f2), .slice A228_3 ((rd_T39 l0 x17_1).f3).length c228_3] 39 (0, 0)) (bup BK229.out) hb); have n3_ := Aside0.mk (below_step (by repeat (first | (with_reducible first | exact HB.out | apply below_alloc | apply pw_below_drewN | apply below_drew1 | refine below_set ?_ GE227.out | refine below_set ?_ GE229.out) | exact HB.out)) hb); clear BK227; clear BK229; clear HB; have HO238 := n0_; have BK227 := n1_; have BK229 := n2_; have HB := n3_; clear n0_ n1_ n2_ n3_; (try clear hb); (try clear hb2); (try clear hk); (try clear hi); (try clear ho0); have hnb25 := NB227_229.out; have hnc25 := NB229_227.out; have hcz26_0 : w24.cell? ⟨gb227, 0, none⟩ = some (.int .i64 a1_0) := (blk_cell BK227.out 0).trans rfl; have hcz26_1 : w24.cell? ⟨gb227, 1, none⟩ = some (.slice A1_1 l1_1.length c1_1) := (blk_cell BK227.out 1).trans rfl; have hfz26_0 := blk_frozen BK227.out 0; have hfz26_1 := blk_frozen BK227.out 1)))
           go_ret
           exact ⟨by first | rfl | (simp [errW_none, errW_some] <;> rfl) | (simp [*, errW_none, errW_some] <;> rfl), by repeat (first | (with_reducible first | exact HB.out | apply below_alloc | apply pw_below_drewN | apply below_drew1 | refine below_set ?_ GE227.out | refine below_set ?_ GE229.out) | exact HB.out)⟩
          rw [if_neg c23] at H
          have c23b0 : decide (a1_0 < t235) = false := decide_eq_false c23
          clear c23
          have H' := Aside0.mk H
          clear H
          have p234 : 0 ≤ (x17_1 : Int) := of_decide_eq_true (by assumption)
          have q234 : x17_1 < (l2.length : Int) := of_decide_eq_true (by assumption)
          obtain ⟨ad234, e234, hx234_0⟩ := Kd.at_int HR2.out x17_1 p234 q234
          cases e234
          replace hx234_0 := cel HB.out hx234_0
          replace p234 := eq_true p234
          replace q234 := eq_true q234
          go_wp2_with (first | (go_at_call 40; (with_reducible refine (impl_useAt.calls k2 _ _ l0 _ _ l2 (rd l2 x17_1) t235 t236 _ ?side1 ?side2 ?side3 ?side4 A22.out).mono ?_); (case side1 => exact cup (Kd.C_below HR0.out HB.out)); (case side2 => exact HC0.out); (case side3 => exact cup (Kd.C_below HR2.out HB.out)); (case side4 => exact HC2.out); rintro e w27 ⟨v237, rfl, ho0, hb⟩; have n0_ := Aside0.mk (Kd.R_lower ho0 (below_size (by repeat (first | (with_reducible first | exact HB.out | apply below_alloc | apply pw_below_drewN | apply below_drew1 | refine below_set ?_ GE227.out | refine below_set ?_ GE229.out) | exact HB.out)))); have n1_ := Aside0.mk (blk_below (g := gb227) (o := .cells #[.int .i64 a1_0, .slice A1_1 l1_1.length c1_1] 26 (0, 0)) (bup BK227.out) hb); have n2_ := Aside0.mk (blk_below (g := gb229) (o := .cells #[.int .i64 ((rd_T39 l0 x17_1).f0), .int .i64 ((rd_T39 l0 x17_1).f1), .int .i64 ((rd_T39 l0 x17_1).f2), .slice A228_3 ((rd_T39 l0 x17_1).f3).length c228_3] 39 (0, 0)) (bup BK229.out) hb); have n3_ := Aside0.mk (below_step (by repeat (first | (with_reducible first | exact HB.out | apply below_alloc | apply pw_below_drewN | apply below_drew1 | refine below_set ?_ GE227.out | refine below_set ?_ GE229.out) | exact HB.out)) hb); clear BK227; clear BK229; clear HB; have HO238 := n0_; have BK227 := n1_; have BK229 := n2_; have HB := n3_; clear n0_ n1_ n2_ n3_; (try clear hb); (try clear hb2); (try clear hk); (try clear hi); (try clear ho0); have hnb28 := NB227_229.out; have hnc28 := NB229_227.out; have hcz29_0 : w27.cell? ⟨gb227, 0, none⟩ = some (.int .i64 a1_0) := (blk_cell BK227.out 0).trans rfl; have hcz29_1 : w27.cell? ⟨gb227, 1, none⟩ = some (.slice A1_1 l1_1.length c1_1) := (blk_cell BK227.out 1).trans rfl; have hfz29_0 := blk_frozen BK227.out 0; have hfz29_1 := blk_frozen BK227.out 1; obtain ⟨Ao30, co30, eo30⟩ := Kd.R_slice HO238.out; subst eo30))
          repeat (go_quiet (first | (go_at_call 40; (with_reducible refine (impl_useAt.calls k2 _ _ l0 _ _ l2 (rd l2 x17_1) t235 t236 _ ?side1 ?side2 ?side3 ?side4 A22.out).mono ?_); (case side1 => exact cup (Kd.C_below HR0.out HB.out)); (case side2 => exact HC0.out); (case side3 => exact cup (Kd.C_below HR2.out HB.out)); (case side4 => exact HC2.out); rintro e w27 ⟨v237, rfl, ho0, hb⟩; have n0_ := Aside0.mk (Kd.R_lower ho0 (below_size (by repeat (first | (with_reducible first | exact HB.out | apply below_alloc | apply pw_below_drewN | apply below_drew1 | refine below_set ?_ GE227.out | refine below_set ?_ GE229.out) | exact HB.out)))); have n1_ := Aside0.mk (blk_below (g := gb227) (o := .cells #[.int .i64 a1_0, .slice A1_1 l1_1.length c1_1] 26 (0, 0)) (bup BK227.out) hb); have n2_ := Aside0.mk (blk_below (g := gb229) (o := .cells #[.int .i64 ((rd_T39 l0 x17_1).f0), .int .i64 ((rd_T39 l0 x17_1).f1), .int .i64 ((rd_T39 l0 x17_1).f2), .slice A228_3 ((rd_T39 l0 x17_1).f3).length c228_3] 39 (0, 0)) (bup BK229.out) hb); have n3_ := Aside0.mk (below_step (by repeat (first | (with_reducible first | exact HB.out | apply below_alloc | apply pw_below_drewN | apply below_drew1 | refine below_set ?_ GE227.out | refine below_set ?_ GE229.out) | exact HB.out)) hb); clear BK227; clear BK229; clear HB; have HO238 := n0_; have BK227 := n1_; have BK229 := n2_; have HB := n3_; clear n0_ n1_ n2_ n3_; (try clear hb); (try clear hb2); (try clear hk); (try clear hi); (try clear ho0); have hnb28 := NB227_229.out; have hnc28 := NB229_227.out; have hcz29_0 : w27.cell? ⟨gb227, 0, none⟩ = some (.int .i64 a1_0) := (blk_cell BK227.out 0).trans rfl; have hcz29_1 : w27.cell? ⟨gb227, 1, none⟩ = some (.slice A1_1 l1_1.length c1_1) := (blk_cell BK227.out 1).trans rfl; have hfz29_0 := blk_frozen BK227.out 0; have hfz29_1 := blk_frozen BK227.out 1; obtain ⟨Ao30, co30, eo30⟩ := Kd.R_slice HO238.out; subst eo30)); try go_wp2_with (first | (go_at_call 40; (with_reducible refine (impl_useAt.calls k2 _ _ l0 _ _ l2 (rd l2 x17_1) t235 t236 _ ?side1 ?side2 ?side3 ?side4 A22.out).mono ?_); (case side1 => exact cup (Kd.C_below HR0.out HB.out)); (case side2 => exact HC0.out); (case side3 => exact cup (Kd.C_below HR2.out HB.out)); (case side4 => exact HC2.out); rintro e w27 ⟨v237, rfl, ho0, hb⟩; have n0_ := Aside0.mk (Kd.R_lower ho0 (below_size (by repeat (first | (with_reducible first | exact HB.out | apply below_alloc | apply pw_below_drewN | apply below_drew1 | refine below_set ?_ GE227.out | refine below_set ?_ GE229.out) | exact HB.out)))); have n1_ := Aside0.mk (blk_below (g := gb227) (o := .cells #[.int .i64 a1_0, .slice A1_1 l1_1.length c1_1] 26 (0, 0)) (bup BK227.out) hb); have n2_ := Aside0.mk (blk_below (g := gb229) (o := .cells #[.int .i64 ((rd_T39 l0 x17_1).f0), .int .i64 ((rd_T39 l0 x17_1).f1), .int .i64 ((rd_T39 l0 x17_1).f2), .slice A228_3 ((rd_T39 l0 x17_1).f3).length c228_3] 39 (0, 0)) (bup BK229.out) hb); have n3_ := Aside0.mk (below_step (by repeat (first | (with_reducible first | exact HB.out | apply below_alloc | apply pw_below_drewN | apply below_drew1 | refine below_set ?_ GE227.out | refine below_set ?_ GE229.out) | exact HB.out)) hb); clear BK227; clear BK229; clear HB; have HO238 := n0_; have BK227 := n1_; have BK229 := n2_; have HB := n3_; clear n0_ n1_ n2_ n3_; (try clear hb); (try clear hb2); (try clear hk); (try clear hi); (try clear ho0); have hnb28 := NB227_229.out; have hnc28 := NB229_227.out; have hcz29_0 : w27.cell? ⟨gb227, 0, none⟩ = some (.int .i64 a1_0) := (blk_cell BK227.out 0).trans rfl; have hcz29_1 : w27.cell? ⟨gb227, 1, none⟩ = some (.slice A1_1 l1_1.length c1_1) := (blk_cell BK227.out 1).trans rfl; have hfz29_0 := blk_frozen BK227.out 0; have hfz29_1 := blk_frozen BK227.out 1; obtain ⟨Ao30, co30, eo30⟩ := Kd.R_slice HO238.out; subst eo30)))
          go_loopg [61] k2 (fun kq v61 w' => ∃ (x61_3 : Int), v61 = .int .i64 x61_3 ∧ Aside0 (impl_planFits.l2 kq l0 l2 l0 (l0.length : Int) x17_1 t236 (t236.length : Int) x61_3 a1_0 l1_1 = some r) ∧ Aside0 (kq ≤ k2) ∧ Aside0 (Kd.R (Kd.int .i64) 3 w' w.heap.size (fun _ => True) (.slice Ao30 t236.length co30) t236) ∧ Aside0 (w'.heap[gb227]? = some (.cells #[.int .i64 a1_0, (.slice A1_1 l1_1.length c1_1)] 26 (0, 0))) ∧ Aside0 (w'.heap[gb229]? = some (.cells #[.int .i64 ((rd_T39 l0 x17_1).f0), .int .i64 ((rd_T39 l0 x17_1).f1), .int .i64 ((rd_T39 l0 x17_1).f2), (.slice A228_3 ((rd_T39 l0 x17_1).f3).length c228_3)] 39 (0, 0))) ∧ Aside0 (Below w.heap.size w w'))
          case atStart => exact ⟨(0), (by first | rfl | (simp; done) | (simp [*]; done)), H', ⟨Nat.le_refl _⟩, ⟨by (with_reducible repeat (first | apply Kd.R_alloc | apply Kd.R_drewN | apply Kd.R_drew)); exact HO238.out⟩, ⟨by (with_reducible repeat (first | refine blk_drewN ?_ _ | refine blk_drew ?_ | refine blk_alloc ?_ _)); exact BK227.out⟩, ⟨by (with_reducible repeat (first | refine blk_drewN ?_ _ | refine blk_drew ?_ | refine blk_alloc ?_ _)); exact BK229.out⟩, ⟨by repeat (first | (with_reducible first | exact HB.out | apply below_alloc | apply pw_below_drewN | apply below_drew1 | refine below_set ?_ GE227.out | refine below_set ?_ GE229.out) | exact HB.out)⟩⟩
          case round =>
           clear H'
           try clear c1
           try clear c2
           try clear p2
           try clear q2
           try clear hx2
           try clear c5
           try clear c5b0
           try clear c6
           try clear c6b0
           try clear p6
           try clear c7
           try clear c7b0
           try clear c9
           try clear c11
           try clear c11b0
           try clear c12
           try clear c12b0
           try clear c13
           try clear c13b0
           try clear c14
           try clear c14b0
           try clear c15
           try clear c15b0
           try clear c16
           try clear c16b0
           try clear c17
           try clear c17b0
           try clear c18
           try clear c18b0
           try clear c19
           try clear c19b0
           try clear c20
           try clear c20b0
           try clear c21
           try clear c21b0
           try clear c22
           try clear p22
           try clear q22
           try clear hx22
           try clear c23
           try clear c23b0
           try clear p23
           try clear q23
           try clear hx23
           try clear c25
           try clear c28
           try clear hcz10_0
           try clear hcz10_1
           try clear hcz10_2
           try clear hcz10_3
           try clear hcz26_0
           try clear hcz26_1
           try clear hcz29_0
           try clear hcz29_1
           try clear hfz10_0
           try clear hfz10_1
           try clear hfz10_2
           try clear hfz10_3
           try clear hfz26_0
           try clear hfz26_1
           try clear hfz29_0
           try clear hfz29_1
           try clear hx228_0
           try clear hx228_1
           try clear hx228_2
           try clear hx228_3
           try clear hx230_0
           try clear hx231_0
           try clear hx232_0
           try clear hx233_0
           try clear hx233_1
           try clear hx233_2
           try clear hx233_3
           try clear hx234_0
           try clear p2
           try clear p228
           try clear p230
           try clear p231
           try clear p232
           try clear p233
           try clear p234
           try clear q2
           try clear q228
           try clear q230
           try clear q231
           try clear q232
           try clear q233
           try clear q234
           obtain ⟨x61_3, rfl, HA, HK3, HO_59, BK227, BK229, HB⟩ := hrel
           cases gk with
           | zero => exact absurd HA.out (by simp [impl_planFits.l2])
           | succ k3 =>
            have H := HA.out
            clear HA
            simp only [impl_planFits.l2] at H
            by_cases c31 : x61_3 < (t236.length : Int)
            ·rw [if_pos c31] at H
             have c31b0 : decide (x61_3 < (t236.length : Int)) = true := decide_eq_true c31
             clear c31
             by_cases c32 : 0 ≤ x61_3
             ·rw [if_pos c32] at H
              have c32b0 : decide (0 ≤ x61_3) = true := decide_eq_true c32
              clear c32
              by_cases c33 : x61_3 < (t236.length : Int)
              ·rw [if_pos c33] at H
               have c33b0 : decide (x61_3 < (t236.length : Int)) = true := decide_eq_true c33
               clear c33
               by_cases c34 : x61_3 < (l1_1.length : Int)
               ·rw [if_pos c34] at H
                have c34b0 : decide (x61_3 < (l1_1.length : Int)) = true := decide_eq_true c34
                clear c34
                by_cases c35 : (rd t236 x61_3) > (rd l1_1 x61_3)
                ·rw [if_pos c35] at H
                 have c35b0 : decide ((rd l1_1 x61_3) < (rd t236 x61_3)) = true := decide_eq_true c35
                 clear c35
                 obtain rfl := Option.some.inj H
                 have p239 : 0 ≤ (x61_3 : Int) := of_decide_eq_true (by assumption)
                 have q239 : x61_3 < (t236.length : Int) := of_decide_eq_true (by assumption)
                 obtain ⟨ad239, e239, hx239_0⟩ := Kd.at_int (Kd.R_reads' HO_59.out).2.2 x61_3 p239 q239
                 cases e239
                 replace p239 := eq_true p239
                 replace q239 := eq_true q239
                 have hnb36 := NB227_229.out
                 have hnc36 := NB229_227.out
                 have hcz37_0 : wr.cell? ⟨gb227, 0, none⟩ = some (.int .i64 a1_0) := (blk_cell BK227.out 0).trans rfl
                 have hcz37_1 : wr.cell? ⟨gb227, 1, none⟩ = some (.slice A1_1 l1_1.length c1_1) := (blk_cell BK227.out 1).trans rfl
                 have hfz37_0 := blk_frozen BK227.out 0
                 have hfz37_1 := blk_frozen BK227.out 1
                 have p240 : 0 ≤ (x61_3 : Int) := of_decide_eq_true (by assumption)
                 have q240 : x61_3 < (l1_1.length : Int) := of_decide_eq_true (by assumption)
                 obtain ⟨ad240, e240, hx240_0⟩ := Kd.at_int HR1_1.out x61_3 p240 q240
                 cases e240
                 replace hx240_0 := cel HB.out hx240_0
                 replace p240 := eq_true p240
                 replace q240 := eq_true q240
                 go_wp2
                 repeat (go_quiet (fail); try go_wp2)
                 go_ret
                 exact ⟨by first | rfl | (simp [errW_none, errW_some] <;> rfl) | (simp [*, errW_none, errW_some] <;> rfl), by repeat (first | (with_reducible first | exact HB.out | apply below_alloc | apply pw_below_drewN | apply below_drew1 | refine below_set ?_ GE227.out | refine below_set ?_ GE229.out) | exact HB.out)⟩
                rw [if_neg c35] at H
                have c35b0 : decide ((rd l1_1 x61_3) < (rd t236 x61_3)) = false := decide_eq_false c35
                clear c35
                have H' := Aside0.mk H
                clear H
                have p239 : 0 ≤ (x61_3 : Int) := of_decide_eq_true (by assumption)
                have q239 : x61_3 < (t236.length : Int) := of_decide_eq_true (by assumption)
                obtain ⟨ad239, e239, hx239_0⟩ := Kd.at_int (Kd.R_reads' HO_59.out).2.2 x61_3 p239 q239
                cases e239
                replace p239 := eq_true p239
                replace q239 := eq_true q239
                have hnb38 := NB227_229.out
                have hnc38 := NB229_227.out
                have hcz39_0 : wr.cell? ⟨gb227, 0, none⟩ = some (.int .i64 a1_0) := (blk_cell BK227.out 0).trans rfl
                have hcz39_1 : wr.cell? ⟨gb227, 1, none⟩ = some (.slice A1_1 l1_1.length c1_1) := (blk_cell BK227.out 1).trans rfl
                have hfz39_0 := blk_frozen BK227.out 0
                have hfz39_1 := blk_frozen BK227.out 1
                have p240 : 0 ≤ (x61_3 : Int) := of_decide_eq_true (by assumption)
                have q240 : x61_3 < (l1_1.length : Int) := of_decide_eq_true (by assumption)
                obtain ⟨ad240, e240, hx240_0⟩ := Kd.at_int HR1_1.out x61_3 p240 q240
                cases e240
                replace hx240_0 := cel HB.out hx240_0
                replace p240 := eq_true p240
                replace q240 := eq_true q240
                go_wp2
                repeat (go_quiet (fail); try go_wp2)
                go_roundg k3
                case measure => have := HK1.out; have := HK2.out; have := HK3.out; omega
                case rel => exact ⟨(wrap64 (x61_3 + 1)), (by first | rfl | (simp; done) | (simp [*]; done)), H', ⟨by have := HK1.out; have := HK2.out; have := HK3.out; omega⟩, ⟨by (with_reducible repeat (first | apply Kd.R_alloc | apply Kd.R_drewN | apply Kd.R_drew)); exact HO_59.out⟩, ⟨by (with_reducible repeat (first | refine blk_drewN ?_ _ | refine blk_drew ?_ | refine blk_alloc ?_ _)); exact BK227.out⟩, ⟨by (with_reducible repeat (first | refine blk_drewN ?_ _ | refine blk_drew ?_ | refine blk_alloc ?_ _)); exact BK229.out⟩, ⟨by repeat (first | (with_reducible first | exact HB.out | apply below_alloc | apply pw_below_drewN | apply below_drew1 | refine below_set ?_ GE227.out | refine below_set ?_ GE229.out) | exact HB.out)⟩⟩
               rw [if_neg c34] at H
               exact absurd H (by simp)
              rw [if_neg c33] at H
              exact absurd H (by simp)
             rw [if_neg c32] at H
             exact absurd H (by simp)
            rw [if_neg c31] at H
            have c31b0 : decide (x61_3 < (t236.length : Int)) = false := decide_eq_false c31
            clear c31
            have H' := Aside0.mk H
            clear H
            go_wp2
            repeat (go_quiet (fail); try go_wp2)
            go_roundg k3
            case measure => have := HK1.out; have := HK2.out; have := HK3.out; omega
            case rel => exact ⟨(wrap64 (x17_1 + 1)), (by first | rfl | (simp; done) | (simp [*]; done)), H', ⟨by have := HK1.out; have := HK2.out; have := HK3.out; omega⟩, ⟨by (with_reducible repeat (first | refine blk_drewN ?_ _ | refine blk_drew ?_ | refine blk_alloc ?_ _)); exact BK227.out⟩, ⟨by repeat (first | (with_reducible first | exact HB.out | apply below_alloc | apply pw_below_drewN | apply below_drew1 | refine below_set ?_ GE227.out | refine below_set ?_ GE229.out) | exact HB.out)⟩⟩
         rw [if_neg c21] at H
         exact absurd H (by simp)
        rw [if_neg c20] at H
        exact absurd H (by simp)
     rw [if_neg c7] at H
     exact absurd H (by simp)
    rw [if_neg c6] at H
    exact absurd H (by simp)
   rw [if_neg c5] at H
   have c5b0 : decide (x17_1 < (l0.length : Int)) = false := decide_eq_false c5
   clear c5
   obtain rfl := Option.some.inj H
   go_wp2
   repeat (go_quiet (fail); try go_wp2)
   go_ret
   exact ⟨by first | rfl | (simp [errW_none, errW_some] <;> rfl) | (simp [*, errW_none, errW_some] <;> rfl), by repeat (first | (with_reducible first | exact HB.out | apply below_alloc | apply pw_below_drewN | apply below_drew1 | refine below_set ?_ GE227.out) | exact HB.out)⟩

end Go.Proofs.Ytcglfapodhcfeaa.PPm
