/- Written by the session's own driver (wip/tools/gprint.sh) over the kit's printing program: the machine side of a group of laws. Not trusted: the kernel checks it. -/
import Derived.Test.YtnhenfmegpjigaaPEvx0
import Derived.Test.YtnhenfmegpjigaaPEvx2
namespace Go.Proofs.Ytnhenfmegpjigaa.PEv
open Go.RowKit Go.Proofs.YtnhenfmegpjigaaW.PrintWords Go.Proofs.YtnhenfmegpjigaaW.PrintLast Go.Proofs.YtnhenfmegpjigaaW.PrintMore
attribute [local go_sem] max2_int min2_int max_two min_two max_three min_three max_four min_four   -- for this text's walks alone
set_option linter.unusedVariables false
set_option linter.unusedSimpArgs false

/-! ### spec_l3Set: function 46 -/
def spec_l3Set.f (a0 : Int) : Option (Bool) := (spec_l6In.f a0 0 255).bind fun t115 => (some t115)
set_option maxHeartbeats 8000000 in
set_option maxRecDepth 100000 in
theorem spec_l3Set.calls (a0 : Int) (r : Bool) (w : World) (h : spec_l3Set.f a0 = some r) :
    Calls Try.prog 46 #[.int .i64 a0] w fun e w' => e = .returned (.bool r) ∧ Drawn0 w w' := by
 have H : ((spec_l6In.f a0 0 255).bind fun t115 => (some t115)) = some r := h
 clear h
 replace H := Option.bind_eq_some_iff.mp H
 obtain ⟨t115, A20, H⟩ := H
 replace H : (some t115) = some r := H
 have A2 := Aside0.mk A20
 clear A20
 obtain rfl := Option.some.inj H
 go_enter Try.func46, Try.ntmps46
 go_wp2_with (first | ((with_reducible refine gate_callee (f := 45) rfl ?_); refine goesL_ (some 4) rfl rfl Try.func45 (by kernel_rfl) rfl #[.int .i64 a0, .int .i64 0, .int .i64 255] rfl (by (try simp only [List.map_toArray, List.map_cons, List.map_nil]); first | done | rfl | (simp only [List.length_drop, List.length_take]; rfl)) ?_; (with_reducible refine (spec_l6In.calls a0 0 255 t115 _ A2.out).mono ?_); rintro e w' ⟨rfl, ⟨nd, rfl⟩⟩; refine ⟨_, rfl, ?_⟩))
 go_ret
 exact ⟨by first | rfl | (simp; done) | (simp [*]; done), by repeat (first | exact Drawn0.refl _ | apply Drawn0.step)⟩

/-! ### spec_EventsValid: function 17 -/
mutual
def spec_EventsValid.l0 : Nat → List (S27) → Int → Option (Bool)
 | 0, _, _ => none
 | k + 1, x0, x3 => if x3 < (x0.length : Int) then (if 0 ≤ x3 then ((spec_l6In.f ((rd_T27 x0 x3).f1) 0 1439).bind fun t118 => (if t118 = true then ((spec_l6In.f ((rd_T27 x0 x3).f2) 1 20).bind fun t119 => (if t119 = true then (if x3 > 0 then (if 0 ≤ (wrap64 (x3 - 1)) then (if (wrap64 (x3 - 1)) < (x0.length : Int) then (spec_EventsValid.j1 k x0 x3 (decide (((rd_T27 x0 (wrap64 (x3 - 1))).f1) > ((rd_T27 x0 x3).f1))) ((rd_T27 x0 x3).f0) ((rd_T27 x0 x3).f1) ((rd_T27 x0 x3).f2) ((rd_T27 x0 x3).f3) ((rd_T27 x0 x3).f4) ((rd_T27 x0 x3).f5)) else (none)) else (none)) else (spec_EventsValid.j1 k x0 x3 false ((rd_T27 x0 x3).f0) ((rd_T27 x0 x3).f1) ((rd_T27 x0 x3).f2) ((rd_T27 x0 x3).f3) ((rd_T27 x0 x3).f4) ((rd_T27 x0 x3).f5))) else (spec_EventsValid.j1 k x0 x3 true ((rd_T27 x0 x3).f0) ((rd_T27 x0 x3).f1) ((rd_T27 x0 x3).f2) ((rd_T27 x0 x3).f3) ((rd_T27 x0 x3).f4) ((rd_T27 x0 x3).f5)))) else (spec_EventsValid.j1 k x0 x3 true ((rd_T27 x0 x3).f0) ((rd_T27 x0 x3).f1) ((rd_T27 x0 x3).f2) ((rd_T27 x0 x3).f3) ((rd_T27 x0 x3).f4) ((rd_T27 x0 x3).f5)))) else (none)) else (some (decide ((x0.length : Int) ≤ 24)))
def spec_EventsValid.j1 : Nat → List (S27) → Int → Bool → Int → Int → Int → Int → Int → Int → Option (Bool)
 | 0, _, _, _, _, _, _, _, _, _ => none
 | k + 1, x0, x3, x39, x118000, x118001, x118002, x118003, x118004, x118005 => if x39 = true then (some false) else (if x118000 = 1 then (if x118003 = 0 then ((spec_l3Set.f x118004).bind fun t121 => (if t121 = true then ((spec_l6In.f x118005 1 5).bind fun t122 => (if t122 = true then (spec_EventsValid.l0 k x0 (wrap64 (x3 + 1))) else (some false))) else (some false))) else (some false)) else (if x118000 = 2 then ((spec_l6In.f x118003 1 99).bind fun t123 => (if t123 = true then (if x118004 = 0 then (if x118005 = 0 then (spec_EventsValid.l0 k x0 (wrap64 (x3 + 1))) else (some false)) else (some false)) else (some false))) else (if x118000 = 3 then (if x118003 = 0 then (if x118004 = 0 then (if x118005 = 0 then (spec_EventsValid.l0 k x0 (wrap64 (x3 + 1))) else (some false)) else (some false)) else (some false)) else (some false))))
end
def spec_EventsValid.f (k : Nat) (l0 : List (S27)) : Option (Bool) := spec_EventsValid.l0 k l0 0
theorem spec_EventsValid.mono_l : ∀ k, (∀ y0 y1, LeO (spec_EventsValid.l0 k y0 y1) (spec_EventsValid.l0 (k + 1) y0 y1)) ∧ (∀ y0 y1 y2 y3 y4 y5 y6 y7 y8, LeO (spec_EventsValid.j1 k y0 y1 y2 y3 y4 y5 y6 y7 y8) (spec_EventsValid.j1 (k + 1) y0 y1 y2 y3 y4 y5 y6 y7 y8))
 | 0 => ⟨fun _ _ r h => by simp [spec_EventsValid.l0] at h, fun _ _ _ _ _ _ _ _ _ r h => by simp [spec_EventsValid.j1] at h⟩
 | k + 1 => by
  obtain ⟨ih0, ih1⟩ := spec_EventsValid.mono_l k
  refine ⟨?_, ?_⟩
  ·intro y0 y1
   unfold spec_EventsValid.l0
   repeat' first
   | (with_reducible exact ih0 _ _)
   | (with_reducible exact ih1 _ _ _ _ _ _ _ _ _)
   | (with_reducible exact LeO.refl _)
   | (with_reducible exact LeO.none _)
   | (with_reducible refine LeO.ite ?_ ?_)
   | (with_reducible refine LeO.bind ?_ (fun _ => ?_))
   | exact ih0 _ _
   | exact ih1 _ _ _ _ _ _ _ _ _
   | exact LeO.none _
   | refine LeO.ite ?_ ?_
   | refine LeO.bind ?_ (fun _ => ?_)
  intro y0 y1 y2 y3 y4 y5 y6 y7 y8
  unfold spec_EventsValid.j1
  repeat' first
  | (with_reducible exact ih0 _ _)
  | (with_reducible exact ih1 _ _ _ _ _ _ _ _ _)
  | (with_reducible exact LeO.refl _)
  | (with_reducible exact LeO.none _)
  | (with_reducible refine LeO.ite ?_ ?_)
  | (with_reducible refine LeO.bind ?_ (fun _ => ?_))
  | exact ih0 _ _
  | exact ih1 _ _ _ _ _ _ _ _ _
  | exact LeO.none _
  | refine LeO.ite ?_ ?_
  | refine LeO.bind ?_ (fun _ => ?_)
theorem spec_EventsValid.mono : ∀ a0 k, LeO (spec_EventsValid.f k a0) (spec_EventsValid.f (k + 1) a0) := by
 intro a0 k
 obtain ⟨ih0, ih1⟩ := spec_EventsValid.mono_l k
 unfold spec_EventsValid.f
 repeat' first
  | (with_reducible exact ih0 _ _)
  | (with_reducible exact ih1 _ _ _ _ _ _ _ _ _)
  | (with_reducible exact LeO.refl _)
  | (with_reducible exact LeO.none _)
  | (with_reducible refine LeO.ite ?_ ?_)
  | (with_reducible refine LeO.bind ?_ (fun _ => ?_))
  | exact ih0 _ _
  | exact ih1 _ _ _ _ _ _ _ _ _
  | exact LeO.none _
  | refine LeO.ite ?_ ?_
  | refine LeO.bind ?_ (fun _ => ?_)
set_option maxHeartbeats 8000000 in
set_option maxRecDepth 100000 in
theorem spec_EventsValid.calls (k : Nat) (A0 : Option Addr) (c0 : Nat) (l0 : List (S27)) (r : Bool) (w : World) (hr0 : Kd.C k27 w A0 l0.length l0) (hc0 : l0.length ≤ c0) (h : spec_EventsValid.f k l0 = some r) :
    Calls Try.prog 17 #[.slice A0 l0.length c0] w fun e w' => e = .returned (.bool r) ∧ Below w.heap.size w w' := by
 have hu27 := Try.underlying27
 have HR0 := Aside0.mk hr0
 have HC0 := Aside0.mk hc0
 clear hr0 hc0
 have HB := Aside0.mk (Below.refl w.heap.size w)
 have H : (spec_EventsValid.l0 k l0 0) = some r := h
 clear h
 have H' := Aside0.mk H
 clear H
 go_enter Try.func17, Try.ntmps17
 go_wp2
 repeat (go_quiet (fail); try go_wp2)
 go_loopg [3] k (fun kq v3 w' => ∃ (x3_1 : Int), v3 = .int .i64 x3_1 ∧ Aside0 (spec_EventsValid.l0 kq l0 x3_1 = some r) ∧ Aside0 (kq ≤ k) ∧ Aside0 (Below w.heap.size w w'))
 case atStart => exact ⟨(0), (by first | rfl | (simp; done) | (simp [*]; done)), H', ⟨Nat.le_refl _⟩, ⟨bel HB.out⟩⟩
 case round =>
  clear H'
  try clear c1
  obtain ⟨x3_1, rfl, HA, HK1, HB⟩ := hrel
  cases gk with
  | zero => exact absurd HA.out (by simp [spec_EventsValid.l0])
  | succ k1 =>
   have H := HA.out
   clear HA
   simp only [spec_EventsValid.l0] at H
   by_cases c2 : x3_1 < (l0.length : Int)
   ·rw [if_pos c2] at H
    have c2b0 : decide (x3_1 < (l0.length : Int)) = true := decide_eq_true c2
    clear c2
    by_cases c3 : 0 ≤ x3_1
    ·rw [if_pos c3] at H
     have c3b0 : decide (0 ≤ x3_1) = true := decide_eq_true c3
     clear c3
     have HC4 := Aside0.mk H
     clear H
     have p116 : 0 ≤ (x3_1 : Int) := of_decide_eq_true (by assumption)
     have q116 : x3_1 < (l0.length : Int) := of_decide_eq_true (by assumption)
     obtain ⟨ad116, e116, hx116_0, hx116_1, hx116_2, hx116_3, hx116_4, hx116_5⟩ := at_T27 HR0.out x3_1 p116 q116
     cases e116
     replace hx116_0 := cel HB.out hx116_0
     replace hx116_1 := cel HB.out hx116_1
     replace hx116_2 := cel HB.out hx116_2
     replace hx116_3 := cel HB.out hx116_3
     replace hx116_4 := cel HB.out hx116_4
     replace hx116_5 := cel HB.out hx116_5
     replace p116 := eq_true p116
     replace q116 := eq_true q116
     go_upto_region 5 with (first | ((with_reducible refine gate_dst (N := 4) rfl ?_); refine box_event ?hg (N := 4) ?hd (cs := #[.int .i64 0, .int .i64 0, .int .i64 0, .int .i64 0, .int .i64 0, .int .i64 0]) (t := 27) ?hr ?_; (case hd => rfl); (case hg => rfl); (case hr => first | (go_simp; done) | (go_simp; rfl)); intro gb117 hg w5 hbox hb; have n0_ := Aside0.mk (below_step (bel HB.out) hb); have n1_ := Aside0.mk (hbox); have n2_ := Aside0.mk ((by rw [hg]; exact (below_size (bel HB.out)) : w.heap.size ≤ gb117)); have n3_ := Aside0.mk ((by rw [hg]; exact (below_size (bel HB.out)) : w.heap.size ≤ gb117)); clear HB; have HB := n0_; have BK117 := n1_; have GW117 := n2_; have GE117 := n3_; clear n0_ n1_ n2_ n3_; clear hb hbox hg; have hcz6_0 : w5.cell? ⟨gb117, 0, none⟩ = some (.int .i64 0) := (blk_cell BK117.out 0).trans rfl; have hcz6_1 : w5.cell? ⟨gb117, 1, none⟩ = some (.int .i64 0) := (blk_cell BK117.out 1).trans rfl; have hcz6_2 : w5.cell? ⟨gb117, 2, none⟩ = some (.int .i64 0) := (blk_cell BK117.out 2).trans rfl; have hcz6_3 : w5.cell? ⟨gb117, 3, none⟩ = some (.int .i64 0) := (blk_cell BK117.out 3).trans rfl; have hcz6_4 : w5.cell? ⟨gb117, 4, none⟩ = some (.int .i64 0) := (blk_cell BK117.out 4).trans rfl; have hcz6_5 : w5.cell? ⟨gb117, 5, none⟩ = some (.int .i64 0) := (blk_cell BK117.out 5).trans rfl; have hfz6_0 := blk_frozen BK117.out 0; have hfz6_1 := blk_frozen BK117.out 1; have hfz6_2 := blk_frozen BK117.out 2; have hfz6_3 := blk_frozen BK117.out 3; have hfz6_4 := blk_frozen BK117.out 4; have hfz6_5 := blk_frozen BK117.out 5))
     repeat (go_quiet (first | ((with_reducible refine gate_dst (N := 4) rfl ?_); refine box_event ?hg (N := 4) ?hd (cs := #[.int .i64 0, .int .i64 0, .int .i64 0, .int .i64 0, .int .i64 0, .int .i64 0]) (t := 27) ?hr ?_; (case hd => rfl); (case hg => rfl); (case hr => first | (go_simp; done) | (go_simp; rfl)); intro gb117 hg w5 hbox hb; have n0_ := Aside0.mk (below_step (bel HB.out) hb); have n1_ := Aside0.mk (hbox); have n2_ := Aside0.mk ((by rw [hg]; exact (below_size (bel HB.out)) : w.heap.size ≤ gb117)); have n3_ := Aside0.mk ((by rw [hg]; exact (below_size (bel HB.out)) : w.heap.size ≤ gb117)); clear HB; have HB := n0_; have BK117 := n1_; have GW117 := n2_; have GE117 := n3_; clear n0_ n1_ n2_ n3_; clear hb hbox hg; have hcz6_0 : w5.cell? ⟨gb117, 0, none⟩ = some (.int .i64 0) := (blk_cell BK117.out 0).trans rfl; have hcz6_1 : w5.cell? ⟨gb117, 1, none⟩ = some (.int .i64 0) := (blk_cell BK117.out 1).trans rfl; have hcz6_2 : w5.cell? ⟨gb117, 2, none⟩ = some (.int .i64 0) := (blk_cell BK117.out 2).trans rfl; have hcz6_3 : w5.cell? ⟨gb117, 3, none⟩ = some (.int .i64 0) := (blk_cell BK117.out 3).trans rfl; have hcz6_4 : w5.cell? ⟨gb117, 4, none⟩ = some (.int .i64 0) := (blk_cell BK117.out 4).trans rfl; have hcz6_5 : w5.cell? ⟨gb117, 5, none⟩ = some (.int .i64 0) := (blk_cell BK117.out 5).trans rfl; have hfz6_0 := blk_frozen BK117.out 0; have hfz6_1 := blk_frozen BK117.out 1; have hfz6_2 := blk_frozen BK117.out 2; have hfz6_3 := blk_frozen BK117.out 3; have hfz6_4 := blk_frozen BK117.out 4; have hfz6_5 := blk_frozen BK117.out 5)); go_upto_region 5 with (first | ((with_reducible refine gate_dst (N := 4) rfl ?_); refine box_event ?hg (N := 4) ?hd (cs := #[.int .i64 0, .int .i64 0, .int .i64 0, .int .i64 0, .int .i64 0, .int .i64 0]) (t := 27) ?hr ?_; (case hd => rfl); (case hg => rfl); (case hr => first | (go_simp; done) | (go_simp; rfl)); intro gb117 hg w5 hbox hb; have n0_ := Aside0.mk (below_step (bel HB.out) hb); have n1_ := Aside0.mk (hbox); have n2_ := Aside0.mk ((by rw [hg]; exact (below_size (bel HB.out)) : w.heap.size ≤ gb117)); have n3_ := Aside0.mk ((by rw [hg]; exact (below_size (bel HB.out)) : w.heap.size ≤ gb117)); clear HB; have HB := n0_; have BK117 := n1_; have GW117 := n2_; have GE117 := n3_; clear n0_ n1_ n2_ n3_; clear hb hbox hg; have hcz6_0 : w5.cell? ⟨gb117, 0, none⟩ = some (.int .i64 0) := (blk_cell BK117.out 0).trans rfl; have hcz6_1 : w5.cell? ⟨gb117, 1, none⟩ = some (.int .i64 0) := (blk_cell BK117.out 1).trans rfl; have hcz6_2 : w5.cell? ⟨gb117, 2, none⟩ = some (.int .i64 0) := (blk_cell BK117.out 2).trans rfl; have hcz6_3 : w5.cell? ⟨gb117, 3, none⟩ = some (.int .i64 0) := (blk_cell BK117.out 3).trans rfl; have hcz6_4 : w5.cell? ⟨gb117, 4, none⟩ = some (.int .i64 0) := (blk_cell BK117.out 4).trans rfl; have hcz6_5 : w5.cell? ⟨gb117, 5, none⟩ = some (.int .i64 0) := (blk_cell BK117.out 5).trans rfl; have hfz6_0 := blk_frozen BK117.out 0; have hfz6_1 := blk_frozen BK117.out 1; have hfz6_2 := blk_frozen BK117.out 2; have hfz6_3 := blk_frozen BK117.out 3; have hfz6_4 := blk_frozen BK117.out 4; have hfz6_5 := blk_frozen BK117.out 5)))
     (try simp only [Act.put, List.setIfInBounds_toArray, List.set_cons_zero, List.set_cons_succ])
     go_cut [39] (fun v39 wc => ∃ (kq : Nat) (x39_3 : Bool), v39 = .bool x39_3 ∧ Aside0 (spec_EventsValid.j1 kq l0 x3_1 x39_3 ((rd_T27 l0 x3_1).f0) ((rd_T27 l0 x3_1).f1) ((rd_T27 l0 x3_1).f2) ((rd_T27 l0 x3_1).f3) ((rd_T27 l0 x3_1).f4) ((rd_T27 l0 x3_1).f5) = some r) ∧ Aside0 (kq ≤ k1) ∧ Aside0 (wc.heap[gb117]? = some (.cells #[.int .i64 ((rd_T27 l0 x3_1).f0), .int .i64 ((rd_T27 l0 x3_1).f1), .int .i64 ((rd_T27 l0 x3_1).f2), .int .i64 ((rd_T27 l0 x3_1).f3), .int .i64 ((rd_T27 l0 x3_1).f4), .int .i64 ((rd_T27 l0 x3_1).f5)] 27 (0, 0))) ∧ Aside0 (Below w.heap.size w wc))
     case first =>
      have H := HC4.out
      clear HC4
      replace H := Option.bind_eq_some_iff.mp H
      obtain ⟨t118, A70, H⟩ := H
      replace H : (if t118 = true then ((spec_l6In.f ((rd_T27 l0 x3_1).f2) 1 20).bind fun t119 => (if t119 = true then (if x3_1 > 0 then (if 0 ≤ (wrap64 (x3_1 - 1)) then (if (wrap64 (x3_1 - 1)) < (l0.length : Int) then (spec_EventsValid.j1 k1 l0 x3_1 (decide (((rd_T27 l0 (wrap64 (x3_1 - 1))).f1) > ((rd_T27 l0 x3_1).f1))) ((rd_T27 l0 x3_1).f0) ((rd_T27 l0 x3_1).f1) ((rd_T27 l0 x3_1).f2) ((rd_T27 l0 x3_1).f3) ((rd_T27 l0 x3_1).f4) ((rd_T27 l0 x3_1).f5)) else (none)) else (none)) else (spec_EventsValid.j1 k1 l0 x3_1 false ((rd_T27 l0 x3_1).f0) ((rd_T27 l0 x3_1).f1) ((rd_T27 l0 x3_1).f2) ((rd_T27 l0 x3_1).f3) ((rd_T27 l0 x3_1).f4) ((rd_T27 l0 x3_1).f5))) else (spec_EventsValid.j1 k1 l0 x3_1 true ((rd_T27 l0 x3_1).f0) ((rd_T27 l0 x3_1).f1) ((rd_T27 l0 x3_1).f2) ((rd_T27 l0 x3_1).f3) ((rd_T27 l0 x3_1).f4) ((rd_T27 l0 x3_1).f5)))) else (spec_EventsValid.j1 k1 l0 x3_1 true ((rd_T27 l0 x3_1).f0) ((rd_T27 l0 x3_1).f1) ((rd_T27 l0 x3_1).f2) ((rd_T27 l0 x3_1).f3) ((rd_T27 l0 x3_1).f4) ((rd_T27 l0 x3_1).f5))) = some r := H
      have A7 := Aside0.mk A70
      clear A70
      by_cases c8 : t118 = true
      ·subst c8
       have H1 : ((spec_l6In.f ((rd_T27 l0 x3_1).f2) 1 20).bind fun t119 => (if t119 = true then (if x3_1 > 0 then (if 0 ≤ (wrap64 (x3_1 - 1)) then (if (wrap64 (x3_1 - 1)) < (l0.length : Int) then (spec_EventsValid.j1 k1 l0 x3_1 (decide (((rd_T27 l0 (wrap64 (x3_1 - 1))).f1) > ((rd_T27 l0 x3_1).f1))) ((rd_T27 l0 x3_1).f0) ((rd_T27 l0 x3_1).f1) ((rd_T27 l0 x3_1).f2) ((rd_T27 l0 x3_1).f3) ((rd_T27 l0 x3_1).f4) ((rd_T27 l0 x3_1).f5)) else (none)) else (none)) else (spec_EventsValid.j1 k1 l0 x3_1 false ((rd_T27 l0 x3_1).f0) ((rd_T27 l0 x3_1).f1) ((rd_T27 l0 x3_1).f2) ((rd_T27 l0 x3_1).f3) ((rd_T27 l0 x3_1).f4) ((rd_T27 l0 x3_1).f5))) else (spec_EventsValid.j1 k1 l0 x3_1 true ((rd_T27 l0 x3_1).f0) ((rd_T27 l0 x3_1).f1) ((rd_T27 l0 x3_1).f2) ((rd_T27 l0 x3_1).f3) ((rd_T27 l0 x3_1).f4) ((rd_T27 l0 x3_1).f5)))) = some r := by rw [if_pos rfl] at H; exact H
       clear H
       have H := H1
       clear H1
       replace H := Option.bind_eq_some_iff.mp H
       obtain ⟨t119, A90, H⟩ := H
       replace H : (if t119 = true then (if x3_1 > 0 then (if 0 ≤ (wrap64 (x3_1 - 1)) then (if (wrap64 (x3_1 - 1)) < (l0.length : Int) then (spec_EventsValid.j1 k1 l0 x3_1 (decide (((rd_T27 l0 (wrap64 (x3_1 - 1))).f1) > ((rd_T27 l0 x3_1).f1))) ((rd_T27 l0 x3_1).f0) ((rd_T27 l0 x3_1).f1) ((rd_T27 l0 x3_1).f2) ((rd_T27 l0 x3_1).f3) ((rd_T27 l0 x3_1).f4) ((rd_T27 l0 x3_1).f5)) else (none)) else (none)) else (spec_EventsValid.j1 k1 l0 x3_1 false ((rd_T27 l0 x3_1).f0) ((rd_T27 l0 x3_1).f1) ((rd_T27 l0 x3_1).f2) ((rd_T27 l0 x3_1).f3) ((rd_T27 l0 x3_1).f4) ((rd_T27 l0 x3_1).f5))) else (spec_EventsValid.j1 k1 l0 x3_1 true ((rd_T27 l0 x3_1).f0) ((rd_T27 l0 x3_1).f1) ((rd_T27 l0 x3_1).f2) ((rd_T27 l0 x3_1).f3) ((rd_T27 l0 x3_1).f4) ((rd_T27 l0 x3_1).f5))) = some r := H
       have A9 := Aside0.mk A90
       clear A90
       by_cases c10 : t119 = true
       ·subst c10
        have H1 : (if x3_1 > 0 then (if 0 ≤ (wrap64 (x3_1 - 1)) then (if (wrap64 (x3_1 - 1)) < (l0.length : Int) then (spec_EventsValid.j1 k1 l0 x3_1 (decide (((rd_T27 l0 (wrap64 (x3_1 - 1))).f1) > ((rd_T27 l0 x3_1).f1))) ((rd_T27 l0 x3_1).f0) ((rd_T27 l0 x3_1).f1) ((rd_T27 l0 x3_1).f2) ((rd_T27 l0 x3_1).f3) ((rd_T27 l0 x3_1).f4) ((rd_T27 l0 x3_1).f5)) else (none)) else (none)) else (spec_EventsValid.j1 k1 l0 x3_1 false ((rd_T27 l0 x3_1).f0) ((rd_T27 l0 x3_1).f1) ((rd_T27 l0 x3_1).f2) ((rd_T27 l0 x3_1).f3) ((rd_T27 l0 x3_1).f4) ((rd_T27 l0 x3_1).f5))) = some r := by rw [if_pos rfl] at H; exact H
        clear H
        have H := H1
        clear H1
        by_cases c11 : x3_1 > 0
        ·rw [if_pos c11] at H
         have c11b0 : decide (0 < x3_1) = true := decide_eq_true c11
         clear c11
         (first | rw [c11b0] | (simp only [i64_w, i32_w]; rw [c11b0]) | skip)
         obtain ⟨ji12, hji12⟩ : ∃ j_ : Int, (wrap64 (x3_1 - 1)) = j_ := ⟨_, rfl⟩
         replace H : (if 0 ≤ (ji12) then (if (ji12) < (l0.length : Int) then (spec_EventsValid.j1 k1 l0 x3_1 (decide (((rd_T27 l0 (ji12)).f1) > ((rd_T27 l0 x3_1).f1))) ((rd_T27 l0 x3_1).f0) ((rd_T27 l0 x3_1).f1) ((rd_T27 l0 x3_1).f2) ((rd_T27 l0 x3_1).f3) ((rd_T27 l0 x3_1).f4) ((rd_T27 l0 x3_1).f5)) else (none)) else (none)) = some r := by first | (rw [hji12] at H; exact H) | (simp only [hji12] at H ⊢; exact H)
         (try rw [hji12] at A7)
         (try rw [hji12] at A9)
         have hji12w : (IntKind.i64.wrap (x3_1 - 1)) = ji12 := (i64_w _).trans hji12
         by_cases c13 : 0 ≤ (ji12)
         ·rw [if_pos c13] at H
          have c13b0 : decide (0 ≤ (ji12)) = true := decide_eq_true c13
          clear c13
          by_cases c14 : (ji12) < (l0.length : Int)
          ·rw [if_pos c14] at H
           have c14b0 : decide ((ji12) < (l0.length : Int)) = true := decide_eq_true c14
           clear c14
           have H' := Aside0.mk H
           clear H
           have hcz15_0 : w5.cell? ⟨gb117, 0, none⟩ = some (.int .i64 0) := (blk_cell BK117.out 0).trans rfl
           have hcz15_1 : w5.cell? ⟨gb117, 1, none⟩ = some (.int .i64 0) := (blk_cell BK117.out 1).trans rfl
           have hcz15_2 : w5.cell? ⟨gb117, 2, none⟩ = some (.int .i64 0) := (blk_cell BK117.out 2).trans rfl
           have hcz15_3 : w5.cell? ⟨gb117, 3, none⟩ = some (.int .i64 0) := (blk_cell BK117.out 3).trans rfl
           have hcz15_4 : w5.cell? ⟨gb117, 4, none⟩ = some (.int .i64 0) := (blk_cell BK117.out 4).trans rfl
           have hcz15_5 : w5.cell? ⟨gb117, 5, none⟩ = some (.int .i64 0) := (blk_cell BK117.out 5).trans rfl
           have hfz15_0 := blk_frozen BK117.out 0
           have hfz15_1 := blk_frozen BK117.out 1
           have hfz15_2 := blk_frozen BK117.out 2
           have hfz15_3 := blk_frozen BK117.out 3
           have hfz15_4 := blk_frozen BK117.out 4
           have hfz15_5 := blk_frozen BK117.out 5
           have p120 : 0 ≤ ((ji12) : Int) := of_decide_eq_true (by assumption); have q120 : (ji12) < (l0.length : Int) := of_decide_eq_true (by assumption); obtain ⟨ad120, e120, hx120_0, hx120_1, hx120_2, hx120_3, hx120_4, hx120_5⟩ := at_T27 HR0.out (ji12) p120 q120; obtain rfl : ad116 = ad120 := (by injection e120); have hn120_0 : ad116.block ≠ gb117 := Nat.ne_of_lt (Nat.lt_of_lt_of_le (by have := World.block_lt_of_cell? _ _ hx120_0; first | rwa [add_block] at this | exact this) GW117.out); have hn120_1 : ad116.block ≠ gb117 := Nat.ne_of_lt (Nat.lt_of_lt_of_le (by have := World.block_lt_of_cell? _ _ hx120_0; first | rwa [add_block] at this | exact this) GW117.out); have hn120_2 : ad116.block ≠ gb117 := Nat.ne_of_lt (Nat.lt_of_lt_of_le (by have := World.block_lt_of_cell? _ _ hx120_0; first | rwa [add_block] at this | exact this) GW117.out); have hn120_3 : ad116.block ≠ gb117 := Nat.ne_of_lt (Nat.lt_of_lt_of_le (by have := World.block_lt_of_cell? _ _ hx120_0; first | rwa [add_block] at this | exact this) GW117.out); have hn120_4 : ad116.block ≠ gb117 := Nat.ne_of_lt (Nat.lt_of_lt_of_le (by have := World.block_lt_of_cell? _ _ hx120_0; first | rwa [add_block] at this | exact this) GW117.out); have hn120_5 : ad116.block ≠ gb117 := Nat.ne_of_lt (Nat.lt_of_lt_of_le (by have := World.block_lt_of_cell? _ _ hx120_0; first | rwa [add_block] at this | exact this) GW117.out); replace hx120_1 := cel HB.out hx120_1; replace hx120_1 := (cell_far (p := ⟨gb117, 0, none⟩) (by first | (rw [add_block]; exact hn120_0) | (show (Addr.add _ _).block ≠ _; rw [add_block]; exact hn120_0) | exact hn120_0) (.int .i64 ((rd_T27 l0 x3_1).f0))).trans hx120_1; replace hx120_1 := (cell_far (p := ⟨gb117, 1, none⟩) (by first | (rw [add_block]; exact hn120_1) | (show (Addr.add _ _).block ≠ _; rw [add_block]; exact hn120_1) | exact hn120_1) (.int .i64 ((rd_T27 l0 x3_1).f1))).trans hx120_1; replace hx120_1 := (cell_far (p := ⟨gb117, 2, none⟩) (by first | (rw [add_block]; exact hn120_2) | (show (Addr.add _ _).block ≠ _; rw [add_block]; exact hn120_2) | exact hn120_2) (.int .i64 ((rd_T27 l0 x3_1).f2))).trans hx120_1; replace hx120_1 := (cell_far (p := ⟨gb117, 3, none⟩) (by first | (rw [add_block]; exact hn120_3) | (show (Addr.add _ _).block ≠ _; rw [add_block]; exact hn120_3) | exact hn120_3) (.int .i64 ((rd_T27 l0 x3_1).f3))).trans hx120_1; replace hx120_1 := (cell_far (p := ⟨gb117, 4, none⟩) (by first | (rw [add_block]; exact hn120_4) | (show (Addr.add _ _).block ≠ _; rw [add_block]; exact hn120_4) | exact hn120_4) (.int .i64 ((rd_T27 l0 x3_1).f4))).trans hx120_1; replace hx120_1 := (cell_far (p := ⟨gb117, 5, none⟩) (by first | (rw [add_block]; exact hn120_5) | (show (Addr.add _ _).block ≠ _; rw [add_block]; exact hn120_5) | exact hn120_5) (.int .i64 ((rd_T27 l0 x3_1).f5))).trans hx120_1; clear hn120_0; clear hn120_1; clear hn120_2; clear hn120_3; clear hn120_4; clear hn120_5; replace p120 := eq_true p120; replace q120 := eq_true q120; clear hx120_0 hx120_2 hx120_3 hx120_4 hx120_5
           go_wp2_with (first | (go_at_call 45; (with_reducible refine (spec_l6In.calls ((rd_T27 l0 x3_1).f1) 0 1439 true _ A7.out).mono ?_); rintro e w' ⟨rfl, ⟨nd, rfl⟩⟩; (try first | exact ⟨rfl, _, World.drewN_drewN _ _ _⟩ | exact ⟨rfl, _, Eq.trans (World.drewN_drewN _ _ _) (congrArg (World.drewN _) (Nat.add_assoc _ _ _))⟩)) | (go_at_call 45; (with_reducible refine (spec_l6In.calls ((rd_T27 l0 x3_1).f2) 1 20 true _ A9.out).mono ?_); rintro e w' ⟨rfl, ⟨nd, rfl⟩⟩; (try first | exact ⟨rfl, _, World.drewN_drewN _ _ _⟩ | exact ⟨rfl, _, Eq.trans (World.drewN_drewN _ _ _) (congrArg (World.drewN _) (Nat.add_assoc _ _ _))⟩)))
           repeat (go_quiet (first | (go_at_call 45; (with_reducible refine (spec_l6In.calls ((rd_T27 l0 x3_1).f1) 0 1439 true _ A7.out).mono ?_); rintro e w' ⟨rfl, ⟨nd, rfl⟩⟩; (try first | exact ⟨rfl, _, World.drewN_drewN _ _ _⟩ | exact ⟨rfl, _, Eq.trans (World.drewN_drewN _ _ _) (congrArg (World.drewN _) (Nat.add_assoc _ _ _))⟩)) | (go_at_call 45; (with_reducible refine (spec_l6In.calls ((rd_T27 l0 x3_1).f2) 1 20 true _ A9.out).mono ?_); rintro e w' ⟨rfl, ⟨nd, rfl⟩⟩; (try first | exact ⟨rfl, _, World.drewN_drewN _ _ _⟩ | exact ⟨rfl, _, Eq.trans (World.drewN_drewN _ _ _) (congrArg (World.drewN _) (Nat.add_assoc _ _ _))⟩))); try go_wp2_with (first | (go_at_call 45; (with_reducible refine (spec_l6In.calls ((rd_T27 l0 x3_1).f1) 0 1439 true _ A7.out).mono ?_); rintro e w' ⟨rfl, ⟨nd, rfl⟩⟩; (try first | exact ⟨rfl, _, World.drewN_drewN _ _ _⟩ | exact ⟨rfl, _, Eq.trans (World.drewN_drewN _ _ _) (congrArg (World.drewN _) (Nat.add_assoc _ _ _))⟩)) | (go_at_call 45; (with_reducible refine (spec_l6In.calls ((rd_T27 l0 x3_1).f2) 1 20 true _ A9.out).mono ?_); rintro e w' ⟨rfl, ⟨nd, rfl⟩⟩; (try first | exact ⟨rfl, _, World.drewN_drewN _ _ _⟩ | exact ⟨rfl, _, Eq.trans (World.drewN_drewN _ _ _) (congrArg (World.drewN _) (Nat.add_assoc _ _ _))⟩))))
           go_meet
           case rel => exact ⟨_, (decide (((rd_T27 l0 (ji12)).f1) > ((rd_T27 l0 x3_1).f1))), (by first | rfl | (simp; done) | (simp only [← hji12] <;> (first | rfl | simp)) | (simp [*]; done)), H', ⟨by have := HK1.out; first | omega | exact Nat.le_refl _⟩, ⟨by (with_reducible repeat (first | refine blk_drewN ?_ _ | refine blk_drew ?_ | refine blk_alloc ?_ _)); refine blk_put (cs := #[.int .i64 ((rd_T27 l0 x3_1).f0), .int .i64 ((rd_T27 l0 x3_1).f1), .int .i64 ((rd_T27 l0 x3_1).f2), .int .i64 ((rd_T27 l0 x3_1).f3), .int .i64 ((rd_T27 l0 x3_1).f4), .int .i64 0]) ?_ 5 _ rfl; (with_reducible repeat (first | refine blk_drewN ?_ _ | refine blk_drew ?_ | refine blk_alloc ?_ _)); refine blk_put (cs := #[.int .i64 ((rd_T27 l0 x3_1).f0), .int .i64 ((rd_T27 l0 x3_1).f1), .int .i64 ((rd_T27 l0 x3_1).f2), .int .i64 ((rd_T27 l0 x3_1).f3), .int .i64 0, .int .i64 0]) ?_ 4 _ rfl; (with_reducible repeat (first | refine blk_drewN ?_ _ | refine blk_drew ?_ | refine blk_alloc ?_ _)); refine blk_put (cs := #[.int .i64 ((rd_T27 l0 x3_1).f0), .int .i64 ((rd_T27 l0 x3_1).f1), .int .i64 ((rd_T27 l0 x3_1).f2), .int .i64 0, .int .i64 0, .int .i64 0]) ?_ 3 _ rfl; (with_reducible repeat (first | refine blk_drewN ?_ _ | refine blk_drew ?_ | refine blk_alloc ?_ _)); refine blk_put (cs := #[.int .i64 ((rd_T27 l0 x3_1).f0), .int .i64 ((rd_T27 l0 x3_1).f1), .int .i64 0, .int .i64 0, .int .i64 0, .int .i64 0]) ?_ 2 _ rfl; (with_reducible repeat (first | refine blk_drewN ?_ _ | refine blk_drew ?_ | refine blk_alloc ?_ _)); refine blk_put (cs := #[.int .i64 ((rd_T27 l0 x3_1).f0), .int .i64 0, .int .i64 0, .int .i64 0, .int .i64 0, .int .i64 0]) ?_ 1 _ rfl; (with_reducible repeat (first | refine blk_drewN ?_ _ | refine blk_drew ?_ | refine blk_alloc ?_ _)); refine blk_put (cs := #[.int .i64 0, .int .i64 0, .int .i64 0, .int .i64 0, .int .i64 0, .int .i64 0]) ?_ 0 _ rfl; (with_reducible repeat (first | refine blk_drewN ?_ _ | refine blk_drew ?_ | refine blk_alloc ?_ _)); exact BK117.out⟩, ⟨by repeat (first | (with_reducible first | exact HB.out | apply below_alloc | apply pw_below_drewN | apply below_drew1 | refine below_set ?_ GE117.out) | exact HB.out)⟩⟩
          rw [if_neg c14] at H
          exact absurd H (by simp)
         rw [if_neg c13] at H
         exact absurd H (by simp)
        rw [if_neg c11] at H
        have c11b0 : decide (0 < x3_1) = false := decide_eq_false c11
        clear c11
        (first | rw [c11b0] | (simp only [i64_w, i32_w]; rw [c11b0]) | skip)
        have H' := Aside0.mk H
        clear H
        have hcz16_0 : w5.cell? ⟨gb117, 0, none⟩ = some (.int .i64 0) := (blk_cell BK117.out 0).trans rfl
        have hcz16_1 : w5.cell? ⟨gb117, 1, none⟩ = some (.int .i64 0) := (blk_cell BK117.out 1).trans rfl
        have hcz16_2 : w5.cell? ⟨gb117, 2, none⟩ = some (.int .i64 0) := (blk_cell BK117.out 2).trans rfl
        have hcz16_3 : w5.cell? ⟨gb117, 3, none⟩ = some (.int .i64 0) := (blk_cell BK117.out 3).trans rfl
        have hcz16_4 : w5.cell? ⟨gb117, 4, none⟩ = some (.int .i64 0) := (blk_cell BK117.out 4).trans rfl
        have hcz16_5 : w5.cell? ⟨gb117, 5, none⟩ = some (.int .i64 0) := (blk_cell BK117.out 5).trans rfl
        have hfz16_0 := blk_frozen BK117.out 0
        have hfz16_1 := blk_frozen BK117.out 1
        have hfz16_2 := blk_frozen BK117.out 2
        have hfz16_3 := blk_frozen BK117.out 3
        have hfz16_4 := blk_frozen BK117.out 4
        have hfz16_5 := blk_frozen BK117.out 5
        go_wp2_with (first | (go_at_call 45; (with_reducible refine (spec_l6In.calls ((rd_T27 l0 x3_1).f1) 0 1439 true _ A7.out).mono ?_); rintro e w' ⟨rfl, ⟨nd, rfl⟩⟩; (try first | exact ⟨rfl, _, World.drewN_drewN _ _ _⟩ | exact ⟨rfl, _, Eq.trans (World.drewN_drewN _ _ _) (congrArg (World.drewN _) (Nat.add_assoc _ _ _))⟩)) | (go_at_call 45; (with_reducible refine (spec_l6In.calls ((rd_T27 l0 x3_1).f2) 1 20 true _ A9.out).mono ?_); rintro e w' ⟨rfl, ⟨nd, rfl⟩⟩; (try first | exact ⟨rfl, _, World.drewN_drewN _ _ _⟩ | exact ⟨rfl, _, Eq.trans (World.drewN_drewN _ _ _) (congrArg (World.drewN _) (Nat.add_assoc _ _ _))⟩)))
        repeat (go_quiet (first | (go_at_call 45; (with_reducible refine (spec_l6In.calls ((rd_T27 l0 x3_1).f1) 0 1439 true _ A7.out).mono ?_); rintro e w' ⟨rfl, ⟨nd, rfl⟩⟩; (try first | exact ⟨rfl, _, World.drewN_drewN _ _ _⟩ | exact ⟨rfl, _, Eq.trans (World.drewN_drewN _ _ _) (congrArg (World.drewN _) (Nat.add_assoc _ _ _))⟩)) | (go_at_call 45; (with_reducible refine (spec_l6In.calls ((rd_T27 l0 x3_1).f2) 1 20 true _ A9.out).mono ?_); rintro e w' ⟨rfl, ⟨nd, rfl⟩⟩; (try first | exact ⟨rfl, _, World.drewN_drewN _ _ _⟩ | exact ⟨rfl, _, Eq.trans (World.drewN_drewN _ _ _) (congrArg (World.drewN _) (Nat.add_assoc _ _ _))⟩))); try go_wp2_with (first | (go_at_call 45; (with_reducible refine (spec_l6In.calls ((rd_T27 l0 x3_1).f1) 0 1439 true _ A7.out).mono ?_); rintro e w' ⟨rfl, ⟨nd, rfl⟩⟩; (try first | exact ⟨rfl, _, World.drewN_drewN _ _ _⟩ | exact ⟨rfl, _, Eq.trans (World.drewN_drewN _ _ _) (congrArg (World.drewN _) (Nat.add_assoc _ _ _))⟩)) | (go_at_call 45; (with_reducible refine (spec_l6In.calls ((rd_T27 l0 x3_1).f2) 1 20 true _ A9.out).mono ?_); rintro e w' ⟨rfl, ⟨nd, rfl⟩⟩; (try first | exact ⟨rfl, _, World.drewN_drewN _ _ _⟩ | exact ⟨rfl, _, Eq.trans (World.drewN_drewN _ _ _) (congrArg (World.drewN _) (Nat.add_assoc _ _ _))⟩))))
        go_meet
        case rel => exact ⟨_, (false), (by first | rfl | (simp; done) | (simp [*]; done)), H', ⟨by have := HK1.out; first | omega | exact Nat.le_refl _⟩, ⟨by (with_reducible repeat (first | refine blk_drewN ?_ _ | refine blk_drew ?_ | refine blk_alloc ?_ _)); refine blk_put (cs := #[.int .i64 ((rd_T27 l0 x3_1).f0), .int .i64 ((rd_T27 l0 x3_1).f1), .int .i64 ((rd_T27 l0 x3_1).f2), .int .i64 ((rd_T27 l0 x3_1).f3), .int .i64 ((rd_T27 l0 x3_1).f4), .int .i64 0]) ?_ 5 _ rfl; (with_reducible repeat (first | refine blk_drewN ?_ _ | refine blk_drew ?_ | refine blk_alloc ?_ _)); refine blk_put (cs := #[.int .i64 ((rd_T27 l0 x3_1).f0), .int .i64 ((rd_T27 l0 x3_1).f1), .int .i64 ((rd_T27 l0 x3_1).f2), .int .i64 ((rd_T27 l0 x3_1).f3), .int .i64 0, .int .i64 0]) ?_ 4 _ rfl; (with_reducible repeat (first | refine blk_drewN ?_ _ | refine blk_drew ?_ | refine blk_alloc ?_ _)); refine blk_put (cs := #[.int .i64 ((rd_T27 l0 x3_1).f0), .int .i64 ((rd_T27 l0 x3_1).f1), .int .i64 ((rd_T27 l0 x3_1).f2), .int .i64 0, .int .i64 0, .int .i64 0]) ?_ 3 _ rfl; (with_reducible repeat (first | refine blk_drewN ?_ _ | refine blk_drew ?_ | refine blk_alloc ?_ _)); refine blk_put (cs := #[.int .i64 ((rd_T27 l0 x3_1).f0), .int .i64 ((rd_T27 l0 x3_1).f1), .int .i64 0, .int .i64 0, .int .i64 0, .int .i64 0]) ?_ 2 _ rfl; (with_reducible repeat (first | refine blk_drewN ?_ _ | refine blk_drew ?_ | refine blk_alloc ?_ _)); refine blk_put (cs := #[.int .i64 ((rd_T27 l0 x3_1).f0), .int .i64 0, .int .i64 0, .int .i64 0, .int .i64 0, .int .i64 0]) ?_ 1 _ rfl; (with_reducible repeat (first | refine blk_drewN ?_ _ | refine blk_drew ?_ | refine blk_alloc ?_ _)); refine blk_put (cs := #[.int .i64 0, .int .i64 0, .int .i64 0, .int .i64 0, .int .i64 0, .int .i64 0]) ?_ 0 _ rfl; (with_reducible repeat (first | refine blk_drewN ?_ _ | refine blk_drew ?_ | refine blk_alloc ?_ _)); exact BK117.out⟩, ⟨by repeat (first | (with_reducible first | exact HB.out | apply below_alloc | apply pw_below_drewN | apply below_drew1 | refine below_set ?_ GE117.out) | exact HB.out)⟩⟩
       replace c10 := Bool.eq_false_iff.mpr c10
       subst c10
       have H1 : (spec_EventsValid.j1 k1 l0 x3_1 true ((rd_T27 l0 x3_1).f0) ((rd_T27 l0 x3_1).f1) ((rd_T27 l0 x3_1).f2) ((rd_T27 l0 x3_1).f3) ((rd_T27 l0 x3_1).f4) ((rd_T27 l0 x3_1).f5)) = some r := by rw [if_neg (show ¬ (false = true) by decide)] at H; exact H
       clear H
       have H := H1
       clear H1
       have H' := Aside0.mk H
       clear H
       have hcz17_0 : w5.cell? ⟨gb117, 0, none⟩ = some (.int .i64 0) := (blk_cell BK117.out 0).trans rfl
       have hcz17_1 : w5.cell? ⟨gb117, 1, none⟩ = some (.int .i64 0) := (blk_cell BK117.out 1).trans rfl
       have hcz17_2 : w5.cell? ⟨gb117, 2, none⟩ = some (.int .i64 0) := (blk_cell BK117.out 2).trans rfl
       have hcz17_3 : w5.cell? ⟨gb117, 3, none⟩ = some (.int .i64 0) := (blk_cell BK117.out 3).trans rfl
       have hcz17_4 : w5.cell? ⟨gb117, 4, none⟩ = some (.int .i64 0) := (blk_cell BK117.out 4).trans rfl
       have hcz17_5 : w5.cell? ⟨gb117, 5, none⟩ = some (.int .i64 0) := (blk_cell BK117.out 5).trans rfl
       have hfz17_0 := blk_frozen BK117.out 0
       have hfz17_1 := blk_frozen BK117.out 1
       have hfz17_2 := blk_frozen BK117.out 2
       have hfz17_3 := blk_frozen BK117.out 3
       have hfz17_4 := blk_frozen BK117.out 4
       have hfz17_5 := blk_frozen BK117.out 5
       go_wp2_with (first | (go_at_call 45; (with_reducible refine (spec_l6In.calls ((rd_T27 l0 x3_1).f1) 0 1439 true _ A7.out).mono ?_); rintro e w' ⟨rfl, ⟨nd, rfl⟩⟩; (try first | exact ⟨rfl, _, World.drewN_drewN _ _ _⟩ | exact ⟨rfl, _, Eq.trans (World.drewN_drewN _ _ _) (congrArg (World.drewN _) (Nat.add_assoc _ _ _))⟩)) | (go_at_call 45; (with_reducible refine (spec_l6In.calls ((rd_T27 l0 x3_1).f2) 1 20 false _ A9.out).mono ?_); rintro e w' ⟨rfl, ⟨nd, rfl⟩⟩; (try first | exact ⟨rfl, _, World.drewN_drewN _ _ _⟩ | exact ⟨rfl, _, Eq.trans (World.drewN_drewN _ _ _) (congrArg (World.drewN _) (Nat.add_assoc _ _ _))⟩)))
       repeat (go_quiet (first | (go_at_call 45; (with_reducible refine (spec_l6In.calls ((rd_T27 l0 x3_1).f1) 0 1439 true _ A7.out).mono ?_); rintro e w' ⟨rfl, ⟨nd, rfl⟩⟩; (try first | exact ⟨rfl, _, World.drewN_drewN _ _ _⟩ | exact ⟨rfl, _, Eq.trans (World.drewN_drewN _ _ _) (congrArg (World.drewN _) (Nat.add_assoc _ _ _))⟩)) | (go_at_call 45; (with_reducible refine (spec_l6In.calls ((rd_T27 l0 x3_1).f2) 1 20 false _ A9.out).mono ?_); rintro e w' ⟨rfl, ⟨nd, rfl⟩⟩; (try first | exact ⟨rfl, _, World.drewN_drewN _ _ _⟩ | exact ⟨rfl, _, Eq.trans (World.drewN_drewN _ _ _) (congrArg (World.drewN _) (Nat.add_assoc _ _ _))⟩))); try go_wp2_with (first | (go_at_call 45; (with_reducible refine (spec_l6In.calls ((rd_T27 l0 x3_1).f1) 0 1439 true _ A7.out).mono ?_); rintro e w' ⟨rfl, ⟨nd, rfl⟩⟩; (try first | exact ⟨rfl, _, World.drewN_drewN _ _ _⟩ | exact ⟨rfl, _, Eq.trans (World.drewN_drewN _ _ _) (congrArg (World.drewN _) (Nat.add_assoc _ _ _))⟩)) | (go_at_call 45; (with_reducible refine (spec_l6In.calls ((rd_T27 l0 x3_1).f2) 1 20 false _ A9.out).mono ?_); rintro e w' ⟨rfl, ⟨nd, rfl⟩⟩; (try first | exact ⟨rfl, _, World.drewN_drewN _ _ _⟩ | exact ⟨rfl, _, Eq.trans (World.drewN_drewN _ _ _) (congrArg (World.drewN _) (Nat.add_assoc _ _ _))⟩))))
       go_meet
       case rel => exact ⟨_, (true), (by first | rfl | (simp; done) | (simp [*]; done)), H', ⟨by have := HK1.out; first | omega | exact Nat.le_refl _⟩, ⟨by (with_reducible repeat (first | refine blk_drewN ?_ _ | refine blk_drew ?_ | refine blk_alloc ?_ _)); refine blk_put (cs := #[.int .i64 ((rd_T27 l0 x3_1).f0), .int .i64 ((rd_T27 l0 x3_1).f1), .int .i64 ((rd_T27 l0 x3_1).f2), .int .i64 ((rd_T27 l0 x3_1).f3), .int .i64 ((rd_T27 l0 x3_1).f4), .int .i64 0]) ?_ 5 _ rfl; (with_reducible repeat (first | refine blk_drewN ?_ _ | refine blk_drew ?_ | refine blk_alloc ?_ _)); refine blk_put (cs := #[.int .i64 ((rd_T27 l0 x3_1).f0), .int .i64 ((rd_T27 l0 x3_1).f1), .int .i64 ((rd_T27 l0 x3_1).f2), .int .i64 ((rd_T27 l0 x3_1).f3), .int .i64 0, .int .i64 0]) ?_ 4 _ rfl; (with_reducible repeat (first | refine blk_drewN ?_ _ | refine blk_drew ?_ | refine blk_alloc ?_ _)); refine blk_put (cs := #[.int .i64 ((rd_T27 l0 x3_1).f0), .int .i64 ((rd_T27 l0 x3_1).f1), .int .i64 ((rd_T27 l0 x3_1).f2), .int .i64 0, .int .i64 0, .int .i64 0]) ?_ 3 _ rfl; (with_reducible repeat (first | refine blk_drewN ?_ _ | refine blk_drew ?_ | refine blk_alloc ?_ _)); refine blk_put (cs := #[.int .i64 ((rd_T27 l0 x3_1).f0), .int .i64 ((rd_T27 l0 x3_1).f1), .int .i64 0, .int .i64 0, .int .i64 0, .int .i64 0]) ?_ 2 _ rfl; (with_reducible repeat (first | refine blk_drewN ?_ _ | refine blk_drew ?_ | refine blk_alloc ?_ _)); refine blk_put (cs := #[.int .i64 ((rd_T27 l0 x3_1).f0), .int .i64 0, .int .i64 0, .int .i64 0, .int .i64 0, .int .i64 0]) ?_ 1 _ rfl; (with_reducible repeat (first | refine blk_drewN ?_ _ | refine blk_drew ?_ | refine blk_alloc ?_ _)); refine blk_put (cs := #[.int .i64 0, .int .i64 0, .int .i64 0, .int .i64 0, .int .i64 0, .int .i64 0]) ?_ 0 _ rfl; (with_reducible repeat (first | refine blk_drewN ?_ _ | refine blk_drew ?_ | refine blk_alloc ?_ _)); exact BK117.out⟩, ⟨by repeat (first | (with_reducible first | exact HB.out | apply below_alloc | apply pw_below_drewN | apply below_drew1 | refine below_set ?_ GE117.out) | exact HB.out)⟩⟩
      replace c8 := Bool.eq_false_iff.mpr c8
      subst c8
      have H1 : (spec_EventsValid.j1 k1 l0 x3_1 true ((rd_T27 l0 x3_1).f0) ((rd_T27 l0 x3_1).f1) ((rd_T27 l0 x3_1).f2) ((rd_T27 l0 x3_1).f3) ((rd_T27 l0 x3_1).f4) ((rd_T27 l0 x3_1).f5)) = some r := by rw [if_neg (show ¬ (false = true) by decide)] at H; exact H
      clear H
      have H := H1
      clear H1
      have H' := Aside0.mk H
      clear H
      have hcz18_0 : w5.cell? ⟨gb117, 0, none⟩ = some (.int .i64 0) := (blk_cell BK117.out 0).trans rfl
      have hcz18_1 : w5.cell? ⟨gb117, 1, none⟩ = some (.int .i64 0) := (blk_cell BK117.out 1).trans rfl
      have hcz18_2 : w5.cell? ⟨gb117, 2, none⟩ = some (.int .i64 0) := (blk_cell BK117.out 2).trans rfl
      have hcz18_3 : w5.cell? ⟨gb117, 3, none⟩ = some (.int .i64 0) := (blk_cell BK117.out 3).trans rfl
      have hcz18_4 : w5.cell? ⟨gb117, 4, none⟩ = some (.int .i64 0) := (blk_cell BK117.out 4).trans rfl
      have hcz18_5 : w5.cell? ⟨gb117, 5, none⟩ = some (.int .i64 0) := (blk_cell BK117.out 5).trans rfl
      have hfz18_0 := blk_frozen BK117.out 0
      have hfz18_1 := blk_frozen BK117.out 1
      have hfz18_2 := blk_frozen BK117.out 2
      have hfz18_3 := blk_frozen BK117.out 3
      have hfz18_4 := blk_frozen BK117.out 4
      have hfz18_5 := blk_frozen BK117.out 5
      go_wp2_with (first | (go_at_call 45; (with_reducible refine (spec_l6In.calls ((rd_T27 l0 x3_1).f1) 0 1439 false _ A7.out).mono ?_); rintro e w' ⟨rfl, ⟨nd, rfl⟩⟩; (try first | exact ⟨rfl, _, World.drewN_drewN _ _ _⟩ | exact ⟨rfl, _, Eq.trans (World.drewN_drewN _ _ _) (congrArg (World.drewN _) (Nat.add_assoc _ _ _))⟩)))
      repeat (go_quiet (first | (go_at_call 45; (with_reducible refine (spec_l6In.calls ((rd_T27 l0 x3_1).f1) 0 1439 false _ A7.out).mono ?_); rintro e w' ⟨rfl, ⟨nd, rfl⟩⟩; (try first | exact ⟨rfl, _, World.drewN_drewN _ _ _⟩ | exact ⟨rfl, _, Eq.trans (World.drewN_drewN _ _ _) (congrArg (World.drewN _) (Nat.add_assoc _ _ _))⟩))); try go_wp2_with (first | (go_at_call 45; (with_reducible refine (spec_l6In.calls ((rd_T27 l0 x3_1).f1) 0 1439 false _ A7.out).mono ?_); rintro e w' ⟨rfl, ⟨nd, rfl⟩⟩; (try first | exact ⟨rfl, _, World.drewN_drewN _ _ _⟩ | exact ⟨rfl, _, Eq.trans (World.drewN_drewN _ _ _) (congrArg (World.drewN _) (Nat.add_assoc _ _ _))⟩))))
      go_meet
      case rel => exact ⟨_, (true), (by first | rfl | (simp; done) | (simp [*]; done)), H', ⟨by have := HK1.out; first | omega | exact Nat.le_refl _⟩, ⟨by (with_reducible repeat (first | refine blk_drewN ?_ _ | refine blk_drew ?_ | refine blk_alloc ?_ _)); refine blk_put (cs := #[.int .i64 ((rd_T27 l0 x3_1).f0), .int .i64 ((rd_T27 l0 x3_1).f1), .int .i64 ((rd_T27 l0 x3_1).f2), .int .i64 ((rd_T27 l0 x3_1).f3), .int .i64 ((rd_T27 l0 x3_1).f4), .int .i64 0]) ?_ 5 _ rfl; (with_reducible repeat (first | refine blk_drewN ?_ _ | refine blk_drew ?_ | refine blk_alloc ?_ _)); refine blk_put (cs := #[.int .i64 ((rd_T27 l0 x3_1).f0), .int .i64 ((rd_T27 l0 x3_1).f1), .int .i64 ((rd_T27 l0 x3_1).f2), .int .i64 ((rd_T27 l0 x3_1).f3), .int .i64 0, .int .i64 0]) ?_ 4 _ rfl; (with_reducible repeat (first | refine blk_drewN ?_ _ | refine blk_drew ?_ | refine blk_alloc ?_ _)); refine blk_put (cs := #[.int .i64 ((rd_T27 l0 x3_1).f0), .int .i64 ((rd_T27 l0 x3_1).f1), .int .i64 ((rd_T27 l0 x3_1).f2), .int .i64 0, .int .i64 0, .int .i64 0]) ?_ 3 _ rfl; (with_reducible repeat (first | refine blk_drewN ?_ _ | refine blk_drew ?_ | refine blk_alloc ?_ _)); refine blk_put (cs := #[.int .i64 ((rd_T27 l0 x3_1).f0), .int .i64 ((rd_T27 l0 x3_1).f1), .int .i64 0, .int .i64 0, .int .i64 0, .int .i64 0]) ?_ 2 _ rfl; (with_reducible repeat (first | refine blk_drewN ?_ _ | refine blk_drew ?_ | refine blk_alloc ?_ _)); refine blk_put (cs := #[.int .i64 ((rd_T27 l0 x3_1).f0), .int .i64 0, .int .i64 0, .int .i64 0, .int .i64 0, .int .i64 0]) ?_ 1 _ rfl; (with_reducible repeat (first | refine blk_drewN ?_ _ | refine blk_drew ?_ | refine blk_alloc ?_ _)); refine blk_put (cs := #[.int .i64 0, .int .i64 0, .int .i64 0, .int .i64 0, .int .i64 0, .int .i64 0]) ?_ 0 _ rfl; (with_reducible repeat (first | refine blk_drewN ?_ _ | refine blk_drew ?_ | refine blk_alloc ?_ _)); exact BK117.out⟩, ⟨by repeat (first | (with_reducible first | exact HB.out | apply below_alloc | apply pw_below_drewN | apply below_drew1 | refine below_set ?_ GE117.out) | exact HB.out)⟩⟩
     case rest =>
      clear HC4
      try clear c1
      try clear p1
      try clear q1
      try clear hx1
      try clear c2
      try clear c2b0
      try clear p2
      try clear c3
      try clear c3b0
      try clear p6
      try clear c8
      try clear c10
      try clear c11
      try clear c11b0
      try clear p11
      try clear q11
      try clear hx11
      try clear p12
      try clear q12
      try clear hx12
      try clear c13
      try clear c13b0
      try clear c14
      try clear c14b0
      try clear c17
      try clear hcz15_0
      try clear hcz15_1
      try clear hcz15_2
      try clear hcz15_3
      try clear hcz15_4
      try clear hcz15_5
      try clear hcz16_0
      try clear hcz16_1
      try clear hcz16_2
      try clear hcz16_3
      try clear hcz16_4
      try clear hcz16_5
      try clear hcz17_0
      try clear hcz17_1
      try clear hcz17_2
      try clear hcz17_3
      try clear hcz17_4
      try clear hcz17_5
      try clear hcz18_0
      try clear hcz18_1
      try clear hcz18_2
      try clear hcz18_3
      try clear hcz18_4
      try clear hcz18_5
      try clear hcz6_0
      try clear hcz6_1
      try clear hcz6_2
      try clear hcz6_3
      try clear hcz6_4
      try clear hcz6_5
      try clear hfz15_0
      try clear hfz15_1
      try clear hfz15_2
      try clear hfz15_3
      try clear hfz15_4
      try clear hfz15_5
      try clear hfz16_0
      try clear hfz16_1
      try clear hfz16_2
      try clear hfz16_3
      try clear hfz16_4
      try clear hfz16_5
      try clear hfz17_0
      try clear hfz17_1
      try clear hfz17_2
      try clear hfz17_3
      try clear hfz17_4
      try clear hfz17_5
      try clear hfz18_0
      try clear hfz18_1
      try clear hfz18_2
      try clear hfz18_3
      try clear hfz18_4
      try clear hfz18_5
      try clear hfz6_0
      try clear hfz6_1
      try clear hfz6_2
      try clear hfz6_3
      try clear hfz6_4
      try clear hfz6_5
      try clear hx116_0
      try clear hx116_1
      try clear hx116_2
      try clear hx116_3
      try clear hx116_4
      try clear hx116_5
      try clear hx120_0
      try clear hx120_1
      try clear hx120_2
      try clear hx120_3
      try clear hx120_4
      try clear hx120_5
      try clear p116
      try clear p120
      try clear q116
      try clear q120
      obtain ⟨kq, x39_3, rfl, HA, HJ3, BK117, HB⟩ := hcut
      cases kq with
      | zero => exact absurd HA.out (by simp [spec_EventsValid.j1])
      | succ kj3 =>
       have H := HA.out
       clear HA
       simp only [spec_EventsValid.j1] at H
       by_cases c19 : x39_3 = true
       ·subst c19
        have H1 : (some false) = some r := by rw [if_pos rfl] at H; exact H
        clear H
        have H := H1
        clear H1
        obtain rfl := Option.some.inj H
        go_wp2
        repeat (go_quiet (fail); try go_wp2)
        go_ret
        exact ⟨by first | rfl | (simp [errW_none, errW_some] <;> rfl) | (simp [*, errW_none, errW_some] <;> rfl), by repeat (first | (with_reducible first | exact HB.out | apply below_alloc | apply pw_below_drewN | apply below_drew1 | refine below_set ?_ GE117.out) | exact HB.out)⟩
       replace c19 := Bool.eq_false_iff.mpr c19
       subst c19
       have H1 : (if ((rd_T27 l0 x3_1).f0) = 1 then (if ((rd_T27 l0 x3_1).f3) = 0 then ((spec_l3Set.f ((rd_T27 l0 x3_1).f4)).bind fun t121 => (if t121 = true then ((spec_l6In.f ((rd_T27 l0 x3_1).f5) 1 5).bind fun t122 => (if t122 = true then (spec_EventsValid.l0 kj3 l0 (wrap64 (x3_1 + 1))) else (some false))) else (some false))) else (some false)) else (if ((rd_T27 l0 x3_1).f0) = 2 then ((spec_l6In.f ((rd_T27 l0 x3_1).f3) 1 99).bind fun t123 => (if t123 = true then (if ((rd_T27 l0 x3_1).f4) = 0 then (if ((rd_T27 l0 x3_1).f5) = 0 then (spec_EventsValid.l0 kj3 l0 (wrap64 (x3_1 + 1))) else (some false)) else (some false)) else (some false))) else (if ((rd_T27 l0 x3_1).f0) = 3 then (if ((rd_T27 l0 x3_1).f3) = 0 then (if ((rd_T27 l0 x3_1).f4) = 0 then (if ((rd_T27 l0 x3_1).f5) = 0 then (spec_EventsValid.l0 kj3 l0 (wrap64 (x3_1 + 1))) else (some false)) else (some false)) else (some false)) else (some false)))) = some r := by rw [if_neg (show ¬ (false = true) by decide)] at H; exact H
       clear H
       have H := H1
       clear H1
       by_cases c20 : ((rd_T27 l0 x3_1).f0) = 1
       ·rw [if_pos c20] at H
        have c20b0 : (((rd_T27 l0 x3_1).f0) == 1) = true := beq_iff_eq.mpr c20
        have c20b1 : (((rd_T27 l0 x3_1).f0) != 1) = false := bne_eq_false_iff_eq.mpr c20
        clear c20
        by_cases c21 : ((rd_T27 l0 x3_1).f3) = 0
        ·rw [if_pos c21] at H
         have c21b0 : (((rd_T27 l0 x3_1).f3) == 0) = true := beq_iff_eq.mpr c21
         have c21b1 : (((rd_T27 l0 x3_1).f3) != 0) = false := bne_eq_false_iff_eq.mpr c21
         clear c21
         replace H := Option.bind_eq_some_iff.mp H
         obtain ⟨t121, A220, H⟩ := H
         replace H : (if t121 = true then ((spec_l6In.f ((rd_T27 l0 x3_1).f5) 1 5).bind fun t122 => (if t122 = true then (spec_EventsValid.l0 kj3 l0 (wrap64 (x3_1 + 1))) else (some false))) else (some false)) = some r := H
         have A22 := Aside0.mk A220
         clear A220
         by_cases c23 : t121 = true
         ·subst c23
          have H1 : ((spec_l6In.f ((rd_T27 l0 x3_1).f5) 1 5).bind fun t122 => (if t122 = true then (spec_EventsValid.l0 kj3 l0 (wrap64 (x3_1 + 1))) else (some false))) = some r := by rw [if_pos rfl] at H; exact H
          clear H
          have H := H1
          clear H1
          replace H := Option.bind_eq_some_iff.mp H
          obtain ⟨t122, A240, H⟩ := H
          replace H : (if t122 = true then (spec_EventsValid.l0 kj3 l0 (wrap64 (x3_1 + 1))) else (some false)) = some r := H
          have A24 := Aside0.mk A240
          clear A240
          by_cases c25 : t122 = true
          ·subst c25
           have H1 : (spec_EventsValid.l0 kj3 l0 (wrap64 (x3_1 + 1))) = some r := by rw [if_pos rfl] at H; exact H
           clear H
           have H := H1
           clear H1
           have H' := Aside0.mk H
           clear H
           have hcz26_0 : wc.cell? ⟨gb117, 0, none⟩ = some (.int .i64 ((rd_T27 l0 x3_1).f0)) := (blk_cell BK117.out 0).trans rfl
           have hcz26_1 : wc.cell? ⟨gb117, 1, none⟩ = some (.int .i64 ((rd_T27 l0 x3_1).f1)) := (blk_cell BK117.out 1).trans rfl
           have hcz26_2 : wc.cell? ⟨gb117, 2, none⟩ = some (.int .i64 ((rd_T27 l0 x3_1).f2)) := (blk_cell BK117.out 2).trans rfl
           have hcz26_3 : wc.cell? ⟨gb117, 3, none⟩ = some (.int .i64 ((rd_T27 l0 x3_1).f3)) := (blk_cell BK117.out 3).trans rfl
           have hcz26_4 : wc.cell? ⟨gb117, 4, none⟩ = some (.int .i64 ((rd_T27 l0 x3_1).f4)) := (blk_cell BK117.out 4).trans rfl
           have hcz26_5 : wc.cell? ⟨gb117, 5, none⟩ = some (.int .i64 ((rd_T27 l0 x3_1).f5)) := (blk_cell BK117.out 5).trans rfl
           have hfz26_0 := blk_frozen BK117.out 0
           have hfz26_1 := blk_frozen BK117.out 1
           have hfz26_2 := blk_frozen BK117.out 2
           have hfz26_3 := blk_frozen BK117.out 3
           have hfz26_4 := blk_frozen BK117.out 4
           have hfz26_5 := blk_frozen BK117.out 5
           go_wp2_with (first | (go_at_call 46; (with_reducible refine (spec_l3Set.calls ((rd_T27 l0 x3_1).f4) true _ A22.out).mono ?_); rintro e w' ⟨rfl, ⟨nd, rfl⟩⟩; (try first | exact ⟨rfl, _, World.drewN_drewN _ _ _⟩ | exact ⟨rfl, _, Eq.trans (World.drewN_drewN _ _ _) (congrArg (World.drewN _) (Nat.add_assoc _ _ _))⟩)) | (go_at_call 45; (with_reducible refine (spec_l6In.calls ((rd_T27 l0 x3_1).f5) 1 5 true _ A24.out).mono ?_); rintro e w' ⟨rfl, ⟨nd, rfl⟩⟩; (try first | exact ⟨rfl, _, World.drewN_drewN _ _ _⟩ | exact ⟨rfl, _, Eq.trans (World.drewN_drewN _ _ _) (congrArg (World.drewN _) (Nat.add_assoc _ _ _))⟩)))
           repeat (go_quiet (first | (go_at_call 46; (with_reducible refine (spec_l3Set.calls ((rd_T27 l0 x3_1).f4) true _ A22.out).mono ?_); rintro e w' ⟨rfl, ⟨nd, rfl⟩⟩; (try first | exact ⟨rfl, _, World.drewN_drewN _ _ _⟩ | exact ⟨rfl, _, Eq.trans (World.drewN_drewN _ _ _) (congrArg (World.drewN _) (Nat.add_assoc _ _ _))⟩)) | (go_at_call 45; (with_reducible refine (spec_l6In.calls ((rd_T27 l0 x3_1).f5) 1 5 true _ A24.out).mono ?_); rintro e w' ⟨rfl, ⟨nd, rfl⟩⟩; (try first | exact ⟨rfl, _, World.drewN_drewN _ _ _⟩ | exact ⟨rfl, _, Eq.trans (World.drewN_drewN _ _ _) (congrArg (World.drewN _) (Nat.add_assoc _ _ _))⟩))); try go_wp2_with (first | (go_at_call 46; (with_reducible refine (spec_l3Set.calls ((rd_T27 l0 x3_1).f4) true _ A22.out).mono ?_); rintro e w' ⟨rfl, ⟨nd, rfl⟩⟩; (try first | exact ⟨rfl, _, World.drewN_drewN _ _ _⟩ | exact ⟨rfl, _, Eq.trans (World.drewN_drewN _ _ _) (congrArg (World.drewN _) (Nat.add_assoc _ _ _))⟩)) | (go_at_call 45; (with_reducible refine (spec_l6In.calls ((rd_T27 l0 x3_1).f5) 1 5 true _ A24.out).mono ?_); rintro e w' ⟨rfl, ⟨nd, rfl⟩⟩; (try first | exact ⟨rfl, _, World.drewN_drewN _ _ _⟩ | exact ⟨rfl, _, Eq.trans (World.drewN_drewN _ _ _) (congrArg (World.drewN _) (Nat.add_assoc _ _ _))⟩))))
           go_roundg kj3
           case measure => have := HK1.out; have := HJ3.out; omega
           case rel => exact ⟨(wrap64 (x3_1 + 1)), (by first | rfl | (simp; done) | (simp [*]; done)), H', ⟨by have := HK1.out; have := HJ3.out; omega⟩, ⟨by repeat (first | (with_reducible first | exact HB.out | apply below_alloc | apply pw_below_drewN | apply below_drew1 | refine below_set ?_ GE117.out) | exact HB.out)⟩⟩
          replace c25 := Bool.eq_false_iff.mpr c25
          subst c25
          have H1 : (some false) = some r := by rw [if_neg (show ¬ (false = true) by decide)] at H; exact H
          clear H
          have H := H1
          clear H1
          obtain rfl := Option.some.inj H
          have hcz27_0 : wc.cell? ⟨gb117, 0, none⟩ = some (.int .i64 ((rd_T27 l0 x3_1).f0)) := (blk_cell BK117.out 0).trans rfl
          have hcz27_1 : wc.cell? ⟨gb117, 1, none⟩ = some (.int .i64 ((rd_T27 l0 x3_1).f1)) := (blk_cell BK117.out 1).trans rfl
          have hcz27_2 : wc.cell? ⟨gb117, 2, none⟩ = some (.int .i64 ((rd_T27 l0 x3_1).f2)) := (blk_cell BK117.out 2).trans rfl
          have hcz27_3 : wc.cell? ⟨gb117, 3, none⟩ = some (.int .i64 ((rd_T27 l0 x3_1).f3)) := (blk_cell BK117.out 3).trans rfl
          have hcz27_4 : wc.cell? ⟨gb117, 4, none⟩ = some (.int .i64 ((rd_T27 l0 x3_1).f4)) := (blk_cell BK117.out 4).trans rfl
          have hcz27_5 : wc.cell? ⟨gb117, 5, none⟩ = some (.int .i64 ((rd_T27 l0 x3_1).f5)) := (blk_cell BK117.out 5).trans rfl
          have hfz27_0 := blk_frozen BK117.out 0
          have hfz27_1 := blk_frozen BK117.out 1
          have hfz27_2 := blk_frozen BK117.out 2
          have hfz27_3 := blk_frozen BK117.out 3
          have hfz27_4 := blk_frozen BK117.out 4
          have hfz27_5 := blk_frozen BK117.out 5
          go_wp2_with (first | (go_at_call 46; (with_reducible refine (spec_l3Set.calls ((rd_T27 l0 x3_1).f4) true _ A22.out).mono ?_); rintro e w' ⟨rfl, ⟨nd, rfl⟩⟩; (try first | exact ⟨rfl, _, World.drewN_drewN _ _ _⟩ | exact ⟨rfl, _, Eq.trans (World.drewN_drewN _ _ _) (congrArg (World.drewN _) (Nat.add_assoc _ _ _))⟩)) | (go_at_call 45; (with_reducible refine (spec_l6In.calls ((rd_T27 l0 x3_1).f5) 1 5 false _ A24.out).mono ?_); rintro e w' ⟨rfl, ⟨nd, rfl⟩⟩; (try first | exact ⟨rfl, _, World.drewN_drewN _ _ _⟩ | exact ⟨rfl, _, Eq.trans (World.drewN_drewN _ _ _) (congrArg (World.drewN _) (Nat.add_assoc _ _ _))⟩)))
          repeat (go_quiet (first | (go_at_call 46; (with_reducible refine (spec_l3Set.calls ((rd_T27 l0 x3_1).f4) true _ A22.out).mono ?_); rintro e w' ⟨rfl, ⟨nd, rfl⟩⟩; (try first | exact ⟨rfl, _, World.drewN_drewN _ _ _⟩ | exact ⟨rfl, _, Eq.trans (World.drewN_drewN _ _ _) (congrArg (World.drewN _) (Nat.add_assoc _ _ _))⟩)) | (go_at_call 45; (with_reducible refine (spec_l6In.calls ((rd_T27 l0 x3_1).f5) 1 5 false _ A24.out).mono ?_); rintro e w' ⟨rfl, ⟨nd, rfl⟩⟩; (try first | exact ⟨rfl, _, World.drewN_drewN _ _ _⟩ | exact ⟨rfl, _, Eq.trans (World.drewN_drewN _ _ _) (congrArg (World.drewN _) (Nat.add_assoc _ _ _))⟩))); try go_wp2_with (first | (go_at_call 46; (with_reducible refine (spec_l3Set.calls ((rd_T27 l0 x3_1).f4) true _ A22.out).mono ?_); rintro e w' ⟨rfl, ⟨nd, rfl⟩⟩; (try first | exact ⟨rfl, _, World.drewN_drewN _ _ _⟩ | exact ⟨rfl, _, Eq.trans (World.drewN_drewN _ _ _) (congrArg (World.drewN _) (Nat.add_assoc _ _ _))⟩)) | (go_at_call 45; (with_reducible refine (spec_l6In.calls ((rd_T27 l0 x3_1).f5) 1 5 false _ A24.out).mono ?_); rintro e w' ⟨rfl, ⟨nd, rfl⟩⟩; (try first | exact ⟨rfl, _, World.drewN_drewN _ _ _⟩ | exact ⟨rfl, _, Eq.trans (World.drewN_drewN _ _ _) (congrArg (World.drewN _) (Nat.add_assoc _ _ _))⟩))))
          go_ret
          exact ⟨by first | rfl | (simp [errW_none, errW_some] <;> rfl) | (simp [*, errW_none, errW_some] <;> rfl), by repeat (first | (with_reducible first | exact HB.out | apply below_alloc | apply pw_below_drewN | apply below_drew1 | refine below_set ?_ GE117.out) | exact HB.out)⟩
         replace c23 := Bool.eq_false_iff.mpr c23
         subst c23
         have H1 : (some false) = some r := by rw [if_neg (show ¬ (false = true) by decide)] at H; exact H
         clear H
         have H := H1
         clear H1
         obtain rfl := Option.some.inj H
         have hcz28_0 : wc.cell? ⟨gb117, 0, none⟩ = some (.int .i64 ((rd_T27 l0 x3_1).f0)) := (blk_cell BK117.out 0).trans rfl
         have hcz28_1 : wc.cell? ⟨gb117, 1, none⟩ = some (.int .i64 ((rd_T27 l0 x3_1).f1)) := (blk_cell BK117.out 1).trans rfl
         have hcz28_2 : wc.cell? ⟨gb117, 2, none⟩ = some (.int .i64 ((rd_T27 l0 x3_1).f2)) := (blk_cell BK117.out 2).trans rfl
         have hcz28_3 : wc.cell? ⟨gb117, 3, none⟩ = some (.int .i64 ((rd_T27 l0 x3_1).f3)) := (blk_cell BK117.out 3).trans rfl
         have hcz28_4 : wc.cell? ⟨gb117, 4, none⟩ = some (.int .i64 ((rd_T27 l0 x3_1).f4)) := (blk_cell BK117.out 4).trans rfl
         have hcz28_5 : wc.cell? ⟨gb117, 5, none⟩ = some (.int .i64 ((rd_T27 l0 x3_1).f5)) := (blk_cell BK117.out 5).trans rfl
         have hfz28_0 := blk_frozen BK117.out 0
         have hfz28_1 := blk_frozen BK117.out 1
         have hfz28_2 := blk_frozen BK117.out 2
         have hfz28_3 := blk_frozen BK117.out 3
         have hfz28_4 := blk_frozen BK117.out 4
         have hfz28_5 := blk_frozen BK117.out 5
         go_wp2_with (first | (go_at_call 46; (with_reducible refine (spec_l3Set.calls ((rd_T27 l0 x3_1).f4) false _ A22.out).mono ?_); rintro e w' ⟨rfl, ⟨nd, rfl⟩⟩; (try first | exact ⟨rfl, _, World.drewN_drewN _ _ _⟩ | exact ⟨rfl, _, Eq.trans (World.drewN_drewN _ _ _) (congrArg (World.drewN _) (Nat.add_assoc _ _ _))⟩)))
         repeat (go_quiet (first | (go_at_call 46; (with_reducible refine (spec_l3Set.calls ((rd_T27 l0 x3_1).f4) false _ A22.out).mono ?_); rintro e w' ⟨rfl, ⟨nd, rfl⟩⟩; (try first | exact ⟨rfl, _, World.drewN_drewN _ _ _⟩ | exact ⟨rfl, _, Eq.trans (World.drewN_drewN _ _ _) (congrArg (World.drewN _) (Nat.add_assoc _ _ _))⟩))); try go_wp2_with (first | (go_at_call 46; (with_reducible refine (spec_l3Set.calls ((rd_T27 l0 x3_1).f4) false _ A22.out).mono ?_); rintro e w' ⟨rfl, ⟨nd, rfl⟩⟩; (try first | exact ⟨rfl, _, World.drewN_drewN _ _ _⟩ | exact ⟨rfl, _, Eq.trans (World.drewN_drewN _ _ _) (congrArg (World.drewN _) (Nat.add_assoc _ _ _))⟩))))
         go_ret
         exact ⟨by first | rfl | (simp [errW_none, errW_some] <;> rfl) | (simp [*, errW_none, errW_some] <;> rfl), by repeat (first | (with_reducible first | exact HB.out | apply below_alloc | apply pw_below_drewN | apply below_drew1 | refine below_set ?_ GE117.out) | exact HB.out)⟩
        rw [if_neg c21] at H
        have c21b0 : (((rd_T27 l0 x3_1).f3) == 0) = false := beq_eq_false_iff_ne.mpr c21
        have c21b1 : (((rd_T27 l0 x3_1).f3) != 0) = true := bne_iff_ne.mpr c21
        obtain rfl := Option.some.inj H
        have hcz29_0 : wc.cell? ⟨gb117, 0, none⟩ = some (.int .i64 ((rd_T27 l0 x3_1).f0)) := (blk_cell BK117.out 0).trans rfl
        have hcz29_1 : wc.cell? ⟨gb117, 1, none⟩ = some (.int .i64 ((rd_T27 l0 x3_1).f1)) := (blk_cell BK117.out 1).trans rfl
        have hcz29_2 : wc.cell? ⟨gb117, 2, none⟩ = some (.int .i64 ((rd_T27 l0 x3_1).f2)) := (blk_cell BK117.out 2).trans rfl
        have hcz29_3 : wc.cell? ⟨gb117, 3, none⟩ = some (.int .i64 ((rd_T27 l0 x3_1).f3)) := (blk_cell BK117.out 3).trans rfl
        have hcz29_4 : wc.cell? ⟨gb117, 4, none⟩ = some (.int .i64 ((rd_T27 l0 x3_1).f4)) := (blk_cell BK117.out 4).trans rfl
        have hcz29_5 : wc.cell? ⟨gb117, 5, none⟩ = some (.int .i64 ((rd_T27 l0 x3_1).f5)) := (blk_cell BK117.out 5).trans rfl
        have hfz29_0 := blk_frozen BK117.out 0
        have hfz29_1 := blk_frozen BK117.out 1
        have hfz29_2 := blk_frozen BK117.out 2
        have hfz29_3 := blk_frozen BK117.out 3
        have hfz29_4 := blk_frozen BK117.out 4
        have hfz29_5 := blk_frozen BK117.out 5
        go_wp2
        repeat (go_quiet (fail); try go_wp2)
        go_ret
        exact ⟨by first | rfl | (simp [errW_none, errW_some] <;> rfl) | (simp [*, errW_none, errW_some] <;> rfl), by repeat (first | (with_reducible first | exact HB.out | apply below_alloc | apply pw_below_drewN | apply below_drew1 | refine below_set ?_ GE117.out) | exact HB.out)⟩
       rw [if_neg c20] at H
       have c20b0 : (((rd_T27 l0 x3_1).f0) == 1) = false := beq_eq_false_iff_ne.mpr c20
       have c20b1 : (((rd_T27 l0 x3_1).f0) != 1) = true := bne_iff_ne.mpr c20
       by_cases c30 : ((rd_T27 l0 x3_1).f0) = 2
       ·rw [if_pos c30] at H
        have c30b0 : (((rd_T27 l0 x3_1).f0) == 2) = true := beq_iff_eq.mpr c30
        have c30b1 : (((rd_T27 l0 x3_1).f0) != 2) = false := bne_eq_false_iff_eq.mpr c30
        clear c30
        replace H := Option.bind_eq_some_iff.mp H
        obtain ⟨t123, A310, H⟩ := H
        replace H : (if t123 = true then (if ((rd_T27 l0 x3_1).f4) = 0 then (if ((rd_T27 l0 x3_1).f5) = 0 then (spec_EventsValid.l0 kj3 l0 (wrap64 (x3_1 + 1))) else (some false)) else (some false)) else (some false)) = some r := H
        have A31 := Aside0.mk A310
        clear A310
        by_cases c32 : t123 = true
        ·subst c32
         have H1 : (if ((rd_T27 l0 x3_1).f4) = 0 then (if ((rd_T27 l0 x3_1).f5) = 0 then (spec_EventsValid.l0 kj3 l0 (wrap64 (x3_1 + 1))) else (some false)) else (some false)) = some r := by rw [if_pos rfl] at H; exact H
         clear H
         have H := H1
         clear H1
         by_cases c33 : ((rd_T27 l0 x3_1).f4) = 0
         ·rw [if_pos c33] at H
          have c33b0 : (((rd_T27 l0 x3_1).f4) == 0) = true := beq_iff_eq.mpr c33
          have c33b1 : (((rd_T27 l0 x3_1).f4) != 0) = false := bne_eq_false_iff_eq.mpr c33
          clear c33
          by_cases c34 : ((rd_T27 l0 x3_1).f5) = 0
          ·rw [if_pos c34] at H
           have c34b0 : (((rd_T27 l0 x3_1).f5) == 0) = true := beq_iff_eq.mpr c34
           have c34b1 : (((rd_T27 l0 x3_1).f5) != 0) = false := bne_eq_false_iff_eq.mpr c34
           clear c34
           have H' := Aside0.mk H
           clear H
           have hcz35_0 : wc.cell? ⟨gb117, 0, none⟩ = some (.int .i64 ((rd_T27 l0 x3_1).f0)) := (blk_cell BK117.out 0).trans rfl
           have hcz35_1 : wc.cell? ⟨gb117, 1, none⟩ = some (.int .i64 ((rd_T27 l0 x3_1).f1)) := (blk_cell BK117.out 1).trans rfl
           have hcz35_2 : wc.cell? ⟨gb117, 2, none⟩ = some (.int .i64 ((rd_T27 l0 x3_1).f2)) := (blk_cell BK117.out 2).trans rfl
           have hcz35_3 : wc.cell? ⟨gb117, 3, none⟩ = some (.int .i64 ((rd_T27 l0 x3_1).f3)) := (blk_cell BK117.out 3).trans rfl
           have hcz35_4 : wc.cell? ⟨gb117, 4, none⟩ = some (.int .i64 ((rd_T27 l0 x3_1).f4)) := (blk_cell BK117.out 4).trans rfl
           have hcz35_5 : wc.cell? ⟨gb117, 5, none⟩ = some (.int .i64 ((rd_T27 l0 x3_1).f5)) := (blk_cell BK117.out 5).trans rfl
           have hfz35_0 := blk_frozen BK117.out 0
           have hfz35_1 := blk_frozen BK117.out 1
           have hfz35_2 := blk_frozen BK117.out 2
           have hfz35_3 := blk_frozen BK117.out 3
           have hfz35_4 := blk_frozen BK117.out 4
           have hfz35_5 := blk_frozen BK117.out 5
           go_wp2_with (first | (go_at_call 45; (with_reducible refine (spec_l6In.calls ((rd_T27 l0 x3_1).f3) 1 99 true _ A31.out).mono ?_); rintro e w' ⟨rfl, ⟨nd, rfl⟩⟩; (try first | exact ⟨rfl, _, World.drewN_drewN _ _ _⟩ | exact ⟨rfl, _, Eq.trans (World.drewN_drewN _ _ _) (congrArg (World.drewN _) (Nat.add_assoc _ _ _))⟩)))
           repeat (go_quiet (first | (go_at_call 45; (with_reducible refine (spec_l6In.calls ((rd_T27 l0 x3_1).f3) 1 99 true _ A31.out).mono ?_); rintro e w' ⟨rfl, ⟨nd, rfl⟩⟩; (try first | exact ⟨rfl, _, World.drewN_drewN _ _ _⟩ | exact ⟨rfl, _, Eq.trans (World.drewN_drewN _ _ _) (congrArg (World.drewN _) (Nat.add_assoc _ _ _))⟩))); try go_wp2_with (first | (go_at_call 45; (with_reducible refine (spec_l6In.calls ((rd_T27 l0 x3_1).f3) 1 99 true _ A31.out).mono ?_); rintro e w' ⟨rfl, ⟨nd, rfl⟩⟩; (try first | exact ⟨rfl, _, World.drewN_drewN _ _ _⟩ | exact ⟨rfl, _, Eq.trans (World.drewN_drewN _ _ _) (congrArg (World.drewN _) (Nat.add_assoc _ _ _))⟩))))
           go_roundg kj3
           case measure => have := HK1.out; have := HJ3.out; omega
           case rel => exact ⟨(wrap64 (x3_1 + 1)), (by first | rfl | (simp; done) | (simp [*]; done)), H', ⟨by have := HK1.out; have := HJ3.out; omega⟩, ⟨by repeat (first | (with_reducible first | exact HB.out | apply below_alloc | apply pw_below_drewN | apply below_drew1 | refine below_set ?_ GE117.out) | exact HB.out)⟩⟩
          rw [if_neg c34] at H
          have c34b0 : (((rd_T27 l0 x3_1).f5) == 0) = false := beq_eq_false_iff_ne.mpr c34
          have c34b1 : (((rd_T27 l0 x3_1).f5) != 0) = true := bne_iff_ne.mpr c34
          obtain rfl := Option.some.inj H
          have hcz36_0 : wc.cell? ⟨gb117, 0, none⟩ = some (.int .i64 ((rd_T27 l0 x3_1).f0)) := (blk_cell BK117.out 0).trans rfl
          have hcz36_1 : wc.cell? ⟨gb117, 1, none⟩ = some (.int .i64 ((rd_T27 l0 x3_1).f1)) := (blk_cell BK117.out 1).trans rfl
          have hcz36_2 : wc.cell? ⟨gb117, 2, none⟩ = some (.int .i64 ((rd_T27 l0 x3_1).f2)) := (blk_cell BK117.out 2).trans rfl
          have hcz36_3 : wc.cell? ⟨gb117, 3, none⟩ = some (.int .i64 ((rd_T27 l0 x3_1).f3)) := (blk_cell BK117.out 3).trans rfl
          have hcz36_4 : wc.cell? ⟨gb117, 4, none⟩ = some (.int .i64 ((rd_T27 l0 x3_1).f4)) := (blk_cell BK117.out 4).trans rfl
          have hcz36_5 : wc.cell? ⟨gb117, 5, none⟩ = some (.int .i64 ((rd_T27 l0 x3_1).f5)) := (blk_cell BK117.out 5).trans rfl
          have hfz36_0 := blk_frozen BK117.out 0
          have hfz36_1 := blk_frozen BK117.out 1
          have hfz36_2 := blk_frozen BK117.out 2
          have hfz36_3 := blk_frozen BK117.out 3
          have hfz36_4 := blk_frozen BK117.out 4
          have hfz36_5 := blk_frozen BK117.out 5
          go_wp2_with (first | (go_at_call 45; (with_reducible refine (spec_l6In.calls ((rd_T27 l0 x3_1).f3) 1 99 true _ A31.out).mono ?_); rintro e w' ⟨rfl, ⟨nd, rfl⟩⟩; (try first | exact ⟨rfl, _, World.drewN_drewN _ _ _⟩ | exact ⟨rfl, _, Eq.trans (World.drewN_drewN _ _ _) (congrArg (World.drewN _) (Nat.add_assoc _ _ _))⟩)))
          repeat (go_quiet (first | (go_at_call 45; (with_reducible refine (spec_l6In.calls ((rd_T27 l0 x3_1).f3) 1 99 true _ A31.out).mono ?_); rintro e w' ⟨rfl, ⟨nd, rfl⟩⟩; (try first | exact ⟨rfl, _, World.drewN_drewN _ _ _⟩ | exact ⟨rfl, _, Eq.trans (World.drewN_drewN _ _ _) (congrArg (World.drewN _) (Nat.add_assoc _ _ _))⟩))); try go_wp2_with (first | (go_at_call 45; (with_reducible refine (spec_l6In.calls ((rd_T27 l0 x3_1).f3) 1 99 true _ A31.out).mono ?_); rintro e w' ⟨rfl, ⟨nd, rfl⟩⟩; (try first | exact ⟨rfl, _, World.drewN_drewN _ _ _⟩ | exact ⟨rfl, _, Eq.trans (World.drewN_drewN _ _ _) (congrArg (World.drewN _) (Nat.add_assoc _ _ _))⟩))))
          go_ret
          exact ⟨by first | rfl | (simp [errW_none, errW_some] <;> rfl) | (simp [*, errW_none, errW_some] <;> rfl), by repeat (first | (with_reducible first | exact HB.out | apply below_alloc | apply pw_below_drewN | apply below_drew1 | refine below_set ?_ GE117.out) | exact HB.out)⟩
         rw [if_neg c33] at H
         have c33b0 : (((rd_T27 l0 x3_1).f4) == 0) = false := beq_eq_false_iff_ne.mpr c33
         have c33b1 : (((rd_T27 l0 x3_1).f4) != 0) = true := bne_iff_ne.mpr c33
         obtain rfl := Option.some.inj H
         have hcz37_0 : wc.cell? ⟨gb117, 0, none⟩ = some (.int .i64 ((rd_T27 l0 x3_1).f0)) := (blk_cell BK117.out 0).trans rfl
         have hcz37_1 : wc.cell? ⟨gb117, 1, none⟩ = some (.int .i64 ((rd_T27 l0 x3_1).f1)) := (blk_cell BK117.out 1).trans rfl
         have hcz37_2 : wc.cell? ⟨gb117, 2, none⟩ = some (.int .i64 ((rd_T27 l0 x3_1).f2)) := (blk_cell BK117.out 2).trans rfl
         have hcz37_3 : wc.cell? ⟨gb117, 3, none⟩ = some (.int .i64 ((rd_T27 l0 x3_1).f3)) := (blk_cell BK117.out 3).trans rfl
         have hcz37_4 : wc.cell? ⟨gb117, 4, none⟩ = some (.int .i64 ((rd_T27 l0 x3_1).f4)) := (blk_cell BK117.out 4).trans rfl
         have hcz37_5 : wc.cell? ⟨gb117, 5, none⟩ = some (.int .i64 ((rd_T27 l0 x3_1).f5)) := (blk_cell BK117.out 5).trans rfl
         have hfz37_0 := blk_frozen BK117.out 0
         have hfz37_1 := blk_frozen BK117.out 1
         have hfz37_2 := blk_frozen BK117.out 2
         have hfz37_3 := blk_frozen BK117.out 3
         have hfz37_4 := blk_frozen BK117.out 4
         have hfz37_5 := blk_frozen BK117.out 5
         go_wp2_with (first | (go_at_call 45; (with_reducible refine (spec_l6In.calls ((rd_T27 l0 x3_1).f3) 1 99 true _ A31.out).mono ?_); rintro e w' ⟨rfl, ⟨nd, rfl⟩⟩; (try first | exact ⟨rfl, _, World.drewN_drewN _ _ _⟩ | exact ⟨rfl, _, Eq.trans (World.drewN_drewN _ _ _) (congrArg (World.drewN _) (Nat.add_assoc _ _ _))⟩)))
         repeat (go_quiet (first | (go_at_call 45; (with_reducible refine (spec_l6In.calls ((rd_T27 l0 x3_1).f3) 1 99 true _ A31.out).mono ?_); rintro e w' ⟨rfl, ⟨nd, rfl⟩⟩; (try first | exact ⟨rfl, _, World.drewN_drewN _ _ _⟩ | exact ⟨rfl, _, Eq.trans (World.drewN_drewN _ _ _) (congrArg (World.drewN _) (Nat.add_assoc _ _ _))⟩))); try go_wp2_with (first | (go_at_call 45; (with_reducible refine (spec_l6In.calls ((rd_T27 l0 x3_1).f3) 1 99 true _ A31.out).mono ?_); rintro e w' ⟨rfl, ⟨nd, rfl⟩⟩; (try first | exact ⟨rfl, _, World.drewN_drewN _ _ _⟩ | exact ⟨rfl, _, Eq.trans (World.drewN_drewN _ _ _) (congrArg (World.drewN _) (Nat.add_assoc _ _ _))⟩))))
         go_ret
         exact ⟨by first | rfl | (simp [errW_none, errW_some] <;> rfl) | (simp [*, errW_none, errW_some] <;> rfl), by repeat (first | (with_reducible first | exact HB.out | apply below_alloc | apply pw_below_drewN | apply below_drew1 | refine below_set ?_ GE117.out) | exact HB.out)⟩
        replace c32 := Bool.eq_false_iff.mpr c32
        subst c32
        have H1 : (some false) = some r := by rw [if_neg (show ¬ (false = true) by decide)] at H; exact H
        clear H
        have H := H1
        clear H1
        obtain rfl := Option.some.inj H
        have hcz38_0 : wc.cell? ⟨gb117, 0, none⟩ = some (.int .i64 ((rd_T27 l0 x3_1).f0)) := (blk_cell BK117.out 0).trans rfl
        have hcz38_1 : wc.cell? ⟨gb117, 1, none⟩ = some (.int .i64 ((rd_T27 l0 x3_1).f1)) := (blk_cell BK117.out 1).trans rfl
        have hcz38_2 : wc.cell? ⟨gb117, 2, none⟩ = some (.int .i64 ((rd_T27 l0 x3_1).f2)) := (blk_cell BK117.out 2).trans rfl
        have hcz38_3 : wc.cell? ⟨gb117, 3, none⟩ = some (.int .i64 ((rd_T27 l0 x3_1).f3)) := (blk_cell BK117.out 3).trans rfl
        have hcz38_4 : wc.cell? ⟨gb117, 4, none⟩ = some (.int .i64 ((rd_T27 l0 x3_1).f4)) := (blk_cell BK117.out 4).trans rfl
        have hcz38_5 : wc.cell? ⟨gb117, 5, none⟩ = some (.int .i64 ((rd_T27 l0 x3_1).f5)) := (blk_cell BK117.out 5).trans rfl
        have hfz38_0 := blk_frozen BK117.out 0
        have hfz38_1 := blk_frozen BK117.out 1
        have hfz38_2 := blk_frozen BK117.out 2
        have hfz38_3 := blk_frozen BK117.out 3
        have hfz38_4 := blk_frozen BK117.out 4
        have hfz38_5 := blk_frozen BK117.out 5
        go_wp2_with (first | (go_at_call 45; (with_reducible refine (spec_l6In.calls ((rd_T27 l0 x3_1).f3) 1 99 false _ A31.out).mono ?_); rintro e w' ⟨rfl, ⟨nd, rfl⟩⟩; (try first | exact ⟨rfl, _, World.drewN_drewN _ _ _⟩ | exact ⟨rfl, _, Eq.trans (World.drewN_drewN _ _ _) (congrArg (World.drewN _) (Nat.add_assoc _ _ _))⟩)))
        repeat (go_quiet (first | (go_at_call 45; (with_reducible refine (spec_l6In.calls ((rd_T27 l0 x3_1).f3) 1 99 false _ A31.out).mono ?_); rintro e w' ⟨rfl, ⟨nd, rfl⟩⟩; (try first | exact ⟨rfl, _, World.drewN_drewN _ _ _⟩ | exact ⟨rfl, _, Eq.trans (World.drewN_drewN _ _ _) (congrArg (World.drewN _) (Nat.add_assoc _ _ _))⟩))); try go_wp2_with (first | (go_at_call 45; (with_reducible refine (spec_l6In.calls ((rd_T27 l0 x3_1).f3) 1 99 false _ A31.out).mono ?_); rintro e w' ⟨rfl, ⟨nd, rfl⟩⟩; (try first | exact ⟨rfl, _, World.drewN_drewN _ _ _⟩ | exact ⟨rfl, _, Eq.trans (World.drewN_drewN _ _ _) (congrArg (World.drewN _) (Nat.add_assoc _ _ _))⟩))))
        go_ret
        exact ⟨by first | rfl | (simp [errW_none, errW_some] <;> rfl) | (simp [*, errW_none, errW_some] <;> rfl), by repeat (first | (with_reducible first | exact HB.out | apply below_alloc | apply pw_below_drewN | apply below_drew1 | refine below_set ?_ GE117.out) | exact HB.out)⟩
       rw [if_neg c30] at H
       have c30b0 : (((rd_T27 l0 x3_1).f0) == 2) = false := beq_eq_false_iff_ne.mpr c30
       have c30b1 : (((rd_T27 l0 x3_1).f0) != 2) = true := bne_iff_ne.mpr c30
       by_cases c39 : ((rd_T27 l0 x3_1).f0) = 3
       ·rw [if_pos c39] at H
        have c39b0 : (((rd_T27 l0 x3_1).f0) == 3) = true := beq_iff_eq.mpr c39
        have c39b1 : (((rd_T27 l0 x3_1).f0) != 3) = false := bne_eq_false_iff_eq.mpr c39
        clear c39
        by_cases c40 : ((rd_T27 l0 x3_1).f3) = 0
        ·rw [if_pos c40] at H
         have c40b0 : (((rd_T27 l0 x3_1).f3) == 0) = true := beq_iff_eq.mpr c40
         have c40b1 : (((rd_T27 l0 x3_1).f3) != 0) = false := bne_eq_false_iff_eq.mpr c40
         clear c40
         by_cases c41 : ((rd_T27 l0 x3_1).f4) = 0
         ·rw [if_pos c41] at H
          have c41b0 : (((rd_T27 l0 x3_1).f4) == 0) = true := beq_iff_eq.mpr c41
          have c41b1 : (((rd_T27 l0 x3_1).f4) != 0) = false := bne_eq_false_iff_eq.mpr c41
          clear c41
          by_cases c42 : ((rd_T27 l0 x3_1).f5) = 0
          ·rw [if_pos c42] at H
           have c42b0 : (((rd_T27 l0 x3_1).f5) == 0) = true := beq_iff_eq.mpr c42
           have c42b1 : (((rd_T27 l0 x3_1).f5) != 0) = false := bne_eq_false_iff_eq.mpr c42
           clear c42
           have H' := Aside0.mk H
           clear H
           have hcz43_0 : wc.cell? ⟨gb117, 0, none⟩ = some (.int .i64 ((rd_T27 l0 x3_1).f0)) := (blk_cell BK117.out 0).trans rfl
           have hcz43_1 : wc.cell? ⟨gb117, 1, none⟩ = some (.int .i64 ((rd_T27 l0 x3_1).f1)) := (blk_cell BK117.out 1).trans rfl
           have hcz43_2 : wc.cell? ⟨gb117, 2, none⟩ = some (.int .i64 ((rd_T27 l0 x3_1).f2)) := (blk_cell BK117.out 2).trans rfl
           have hcz43_3 : wc.cell? ⟨gb117, 3, none⟩ = some (.int .i64 ((rd_T27 l0 x3_1).f3)) := (blk_cell BK117.out 3).trans rfl
           have hcz43_4 : wc.cell? ⟨gb117, 4, none⟩ = some (.int .i64 ((rd_T27 l0 x3_1).f4)) := (blk_cell BK117.out 4).trans rfl
           have hcz43_5 : wc.cell? ⟨gb117, 5, none⟩ = some (.int .i64 ((rd_T27 l0 x3_1).f5)) := (blk_cell BK117.out 5).trans rfl
           have hfz43_0 := blk_frozen BK117.out 0
           have hfz43_1 := blk_frozen BK117.out 1
           have hfz43_2 := blk_frozen BK117.out 2
           have hfz43_3 := blk_frozen BK117.out 3
           have hfz43_4 := blk_frozen BK117.out 4
           have hfz43_5 := blk_frozen BK117.out 5
           go_wp2
           repeat (go_quiet (fail); try go_wp2)
           go_roundg kj3
           case measure => have := HK1.out; have := HJ3.out; omega
           case rel => exact ⟨(wrap64 (x3_1 + 1)), (by first | rfl | (simp; done) | (simp [*]; done)), H', ⟨by have := HK1.out; have := HJ3.out; omega⟩, ⟨by repeat (first | (with_reducible first | exact HB.out | apply below_alloc | apply pw_below_drewN | apply below_drew1 | refine below_set ?_ GE117.out) | exact HB.out)⟩⟩
          rw [if_neg c42] at H
          have c42b0 : (((rd_T27 l0 x3_1).f5) == 0) = false := beq_eq_false_iff_ne.mpr c42
          have c42b1 : (((rd_T27 l0 x3_1).f5) != 0) = true := bne_iff_ne.mpr c42
          obtain rfl := Option.some.inj H
          have hcz44_0 : wc.cell? ⟨gb117, 0, none⟩ = some (.int .i64 ((rd_T27 l0 x3_1).f0)) := (blk_cell BK117.out 0).trans rfl
          have hcz44_1 : wc.cell? ⟨gb117, 1, none⟩ = some (.int .i64 ((rd_T27 l0 x3_1).f1)) := (blk_cell BK117.out 1).trans rfl
          have hcz44_2 : wc.cell? ⟨gb117, 2, none⟩ = some (.int .i64 ((rd_T27 l0 x3_1).f2)) := (blk_cell BK117.out 2).trans rfl
          have hcz44_3 : wc.cell? ⟨gb117, 3, none⟩ = some (.int .i64 ((rd_T27 l0 x3_1).f3)) := (blk_cell BK117.out 3).trans rfl
          have hcz44_4 : wc.cell? ⟨gb117, 4, none⟩ = some (.int .i64 ((rd_T27 l0 x3_1).f4)) := (blk_cell BK117.out 4).trans rfl
          have hcz44_5 : wc.cell? ⟨gb117, 5, none⟩ = some (.int .i64 ((rd_T27 l0 x3_1).f5)) := (blk_cell BK117.out 5).trans rfl
          have hfz44_0 := blk_frozen BK117.out 0
          have hfz44_1 := blk_frozen BK117.out 1
          have hfz44_2 := blk_frozen BK117.out 2
          have hfz44_3 := blk_frozen BK117.out 3
          have hfz44_4 := blk_frozen BK117.out 4
          have hfz44_5 := blk_frozen BK117.out 5
          go_wp2
          repeat (go_quiet (fail); try go_wp2)
          go_ret
          exact ⟨by first | rfl | (simp [errW_none, errW_some] <;> rfl) | (simp [*, errW_none, errW_some] <;> rfl), by repeat (first | (with_reducible first | exact HB.out | apply below_alloc | apply pw_below_drewN | apply below_drew1 | refine below_set ?_ GE117.out) | exact HB.out)⟩
         rw [if_neg c41] at H
         have c41b0 : (((rd_T27 l0 x3_1).f4) == 0) = false := beq_eq_false_iff_ne.mpr c41
         have c41b1 : (((rd_T27 l0 x3_1).f4) != 0) = true := bne_iff_ne.mpr c41
         obtain rfl := Option.some.inj H
         have hcz45_0 : wc.cell? ⟨gb117, 0, none⟩ = some (.int .i64 ((rd_T27 l0 x3_1).f0)) := (blk_cell BK117.out 0).trans rfl
         have hcz45_1 : wc.cell? ⟨gb117, 1, none⟩ = some (.int .i64 ((rd_T27 l0 x3_1).f1)) := (blk_cell BK117.out 1).trans rfl
         have hcz45_2 : wc.cell? ⟨gb117, 2, none⟩ = some (.int .i64 ((rd_T27 l0 x3_1).f2)) := (blk_cell BK117.out 2).trans rfl
         have hcz45_3 : wc.cell? ⟨gb117, 3, none⟩ = some (.int .i64 ((rd_T27 l0 x3_1).f3)) := (blk_cell BK117.out 3).trans rfl
         have hcz45_4 : wc.cell? ⟨gb117, 4, none⟩ = some (.int .i64 ((rd_T27 l0 x3_1).f4)) := (blk_cell BK117.out 4).trans rfl
         have hcz45_5 : wc.cell? ⟨gb117, 5, none⟩ = some (.int .i64 ((rd_T27 l0 x3_1).f5)) := (blk_cell BK117.out 5).trans rfl
         have hfz45_0 := blk_frozen BK117.out 0
         have hfz45_1 := blk_frozen BK117.out 1
         have hfz45_2 := blk_frozen BK117.out 2
         have hfz45_3 := blk_frozen BK117.out 3
         have hfz45_4 := blk_frozen BK117.out 4
         have hfz45_5 := blk_frozen BK117.out 5
         go_wp2
         repeat (go_quiet (fail); try go_wp2)
         go_ret
         exact ⟨by first | rfl | (simp [errW_none, errW_some] <;> rfl) | (simp [*, errW_none, errW_some] <;> rfl), by repeat (first | (with_reducible first | exact HB.out | apply below_alloc | apply pw_below_drewN | apply below_drew1 | refine below_set ?_ GE117.out) | exact HB.out)⟩
        rw [if_neg c40] at H
        have c40b0 : (((rd_T27 l0 x3_1).f3) == 0) = false := beq_eq_false_iff_ne.mpr c40
        have c40b1 : (((rd_T27 l0 x3_1).f3) != 0) = true := bne_iff_ne.mpr c40
        obtain rfl := Option.some.inj H
        have hcz46_0 : wc.cell? ⟨gb117, 0, none⟩ = some (.int .i64 ((rd_T27 l0 x3_1).f0)) := (blk_cell BK117.out 0).trans rfl
        have hcz46_1 : wc.cell? ⟨gb117, 1, none⟩ = some (.int .i64 ((rd_T27 l0 x3_1).f1)) := (blk_cell BK117.out 1).trans rfl
        have hcz46_2 : wc.cell? ⟨gb117, 2, none⟩ = some (.int .i64 ((rd_T27 l0 x3_1).f2)) := (blk_cell BK117.out 2).trans rfl
        have hcz46_3 : wc.cell? ⟨gb117, 3, none⟩ = some (.int .i64 ((rd_T27 l0 x3_1).f3)) := (blk_cell BK117.out 3).trans rfl
        have hcz46_4 : wc.cell? ⟨gb117, 4, none⟩ = some (.int .i64 ((rd_T27 l0 x3_1).f4)) := (blk_cell BK117.out 4).trans rfl
        have hcz46_5 : wc.cell? ⟨gb117, 5, none⟩ = some (.int .i64 ((rd_T27 l0 x3_1).f5)) := (blk_cell BK117.out 5).trans rfl
        have hfz46_0 := blk_frozen BK117.out 0
        have hfz46_1 := blk_frozen BK117.out 1
        have hfz46_2 := blk_frozen BK117.out 2
        have hfz46_3 := blk_frozen BK117.out 3
        have hfz46_4 := blk_frozen BK117.out 4
        have hfz46_5 := blk_frozen BK117.out 5
        go_wp2
        repeat (go_quiet (fail); try go_wp2)
        go_ret
        exact ⟨by first | rfl | (simp [errW_none, errW_some] <;> rfl) | (simp [*, errW_none, errW_some] <;> rfl), by repeat (first | (with_reducible first | exact HB.out | apply below_alloc | apply pw_below_drewN | apply below_drew1 | refine below_set ?_ GE117.out) | exact HB.out)⟩
       rw [if_neg c39] at H
       have c39b0 : (((rd_T27 l0 x3_1).f0) == 3) = false := beq_eq_false_iff_ne.mpr c39
       have c39b1 : (((rd_T27 l0 x3_1).f0) != 3) = true := bne_iff_ne.mpr c39
       obtain rfl := Option.some.inj H
       have hcz47_0 : wc.cell? ⟨gb117, 0, none⟩ = some (.int .i64 ((rd_T27 l0 x3_1).f0)) := (blk_cell BK117.out 0).trans rfl
       have hcz47_1 : wc.cell? ⟨gb117, 1, none⟩ = some (.int .i64 ((rd_T27 l0 x3_1).f1)) := (blk_cell BK117.out 1).trans rfl
       have hcz47_2 : wc.cell? ⟨gb117, 2, none⟩ = some (.int .i64 ((rd_T27 l0 x3_1).f2)) := (blk_cell BK117.out 2).trans rfl
       have hcz47_3 : wc.cell? ⟨gb117, 3, none⟩ = some (.int .i64 ((rd_T27 l0 x3_1).f3)) := (blk_cell BK117.out 3).trans rfl
       have hcz47_4 : wc.cell? ⟨gb117, 4, none⟩ = some (.int .i64 ((rd_T27 l0 x3_1).f4)) := (blk_cell BK117.out 4).trans rfl
       have hcz47_5 : wc.cell? ⟨gb117, 5, none⟩ = some (.int .i64 ((rd_T27 l0 x3_1).f5)) := (blk_cell BK117.out 5).trans rfl
       have hfz47_0 := blk_frozen BK117.out 0
       have hfz47_1 := blk_frozen BK117.out 1
       have hfz47_2 := blk_frozen BK117.out 2
       have hfz47_3 := blk_frozen BK117.out 3
       have hfz47_4 := blk_frozen BK117.out 4
       have hfz47_5 := blk_frozen BK117.out 5
       go_wp2
       repeat (go_quiet (fail); try go_wp2)
       go_ret
       exact ⟨by first | rfl | (simp [errW_none, errW_some] <;> rfl) | (simp [*, errW_none, errW_some] <;> rfl), by repeat (first | (with_reducible first | exact HB.out | apply below_alloc | apply pw_below_drewN | apply below_drew1 | refine below_set ?_ GE117.out) | exact HB.out)⟩
    rw [if_neg c3] at H
    exact absurd H (by simp)
   rw [if_neg c2] at H
   have c2b0 : decide (x3_1 < (l0.length : Int)) = false := decide_eq_false c2
   clear c2
   obtain rfl := Option.some.inj H
   go_wp2
   repeat (go_quiet (fail); try go_wp2)
   go_ret
   exact ⟨by first | rfl | (simp [errW_none, errW_some] <;> rfl) | (simp [*, errW_none, errW_some] <;> rfl), bel HB.out⟩

/-! ### laws_szEventS: function 18 -/
def laws_szEventS.f (l0 : List (S65)) (a1 : Int) : Option (Int) := if (wrap64 (a1 - (l0.length : Int))) < 0 then (some (-1)) else (some (wrap64 (a1 - (l0.length : Int))))
set_option maxHeartbeats 8000000 in
set_option maxRecDepth 100000 in
theorem laws_szEventS.calls (A0 : Option Addr) (c0 : Nat) (l0 : List (S65)) (a1 : Int) (r : Int) (w : World) (hr0 : Kd.C k65 w A0 l0.length l0) (hc0 : l0.length ≤ c0) (h : laws_szEventS.f l0 a1 = some r) :
    Calls Try.prog 18 #[.slice A0 l0.length c0, .int .i64 a1] w fun e w' => e = .returned (.int .i64 r) ∧ Drawn0 w w' := by
 have HR0 := Aside0.mk hr0
 have HC0 := Aside0.mk hc0
 clear hr0 hc0
 have H : (if (wrap64 (a1 - (l0.length : Int))) < 0 then (some (-1)) else (some (wrap64 (a1 - (l0.length : Int))))) = some r := h
 clear h
 by_cases c3 : (wrap64 (a1 - (l0.length : Int))) < 0
 ·rw [if_pos c3] at H
  have c3b0 : decide ((wrap64 (a1 - (l0.length : Int))) < 0) = true := decide_eq_true c3
  clear c3
  obtain rfl := Option.some.inj H
  go_enter Try.func18, Try.ntmps18
  go_wp2
  go_ret
  exact ⟨by first | rfl | (simp; done) | (simp [*]; done), by repeat (first | exact Drawn0.refl _ | apply Drawn0.step)⟩
 rw [if_neg c3] at H
 have c3b0 : decide ((wrap64 (a1 - (l0.length : Int))) < 0) = false := decide_eq_false c3
 clear c3
 obtain rfl := Option.some.inj H
 go_enter Try.func18, Try.ntmps18
 go_wp2
 go_ret
 exact ⟨by first | rfl | (simp; done) | (simp [*]; done), by repeat (first | exact Drawn0.refl _ | apply Drawn0.step)⟩

/-! ### laws_toEvent: function 47 -/
def laws_toEvent.f (a0_0 : Int) (a0_1 : Int) (a0_2 : Int) (a0_3 : Int) (a0_4 : Int) (a0_5 : Int) : Option (Int × Int × Int × Int × Int × Int) := some (a0_0, a0_1, a0_2, a0_3, a0_4, a0_5)
set_option maxHeartbeats 8000000 in
set_option maxRecDepth 100000 in
theorem laws_toEvent.calls (a0_0 : Int) (a0_1 : Int) (a0_2 : Int) (a0_3 : Int) (a0_4 : Int) (a0_5 : Int) (r1 : Int) (r2 : Int) (r3 : Int) (r4 : Int) (r5 : Int) (r6 : Int) (w : World) (h : laws_toEvent.f a0_0 a0_1 a0_2 a0_3 a0_4 a0_5 = some (r1, r2, r3, r4, r5, r6)) :
    Calls Try.prog 47 #[.agg #[.int .i64 a0_0, .int .i64 a0_1, .int .i64 a0_2, .int .i64 a0_3, .int .i64 a0_4, .int .i64 a0_5]] w fun e w' => e = .returned (.agg #[.int .i64 r1, .int .i64 r2, .int .i64 r3, .int .i64 r4, .int .i64 r5, .int .i64 r6]) ∧ Below w.heap.size w w' := by
 have hu65 := Try.underlying65
 have hu27 := Try.underlying27
 have HB := Aside0.mk (Below.refl w.heap.size w)
 have H : (some (a0_0, a0_1, a0_2, a0_3, a0_4, a0_5)) = some (r1, r2, r3, r4, r5, r6) := h
 clear h
 simp only [Option.some.injEq, Prod.mk.injEq] at H
 obtain ⟨rfl, rfl, rfl, rfl, rfl, rfl⟩ := H
 go_enter Try.func47, Try.ntmps47
 go_wp2_with (first | ((with_reducible refine gate_dst (N := 1) rfl ?_); refine box_event ?hg (N := 1) ?hd (cs := #[.int .i64 a0_0, .int .i64 a0_1, .int .i64 a0_2, .int .i64 a0_3, .int .i64 a0_4, .int .i64 a0_5]) (t := 65) ?hr ?_; (case hd => rfl); (case hg => rfl); (case hr => first | (go_simp; done) | (go_simp; rfl)); intro gb124 hg w2 hbox hb; have n0_ := Aside0.mk (below_step (bel HB.out) hb); have n1_ := Aside0.mk (hbox); have n2_ := Aside0.mk ((by rw [hg]; exact (below_size (bel HB.out)) : w.heap.size ≤ gb124)); have n3_ := Aside0.mk ((by rw [hg]; exact (below_size (bel HB.out)) : w.heap.size ≤ gb124)); clear HB; have HB := n0_; have BK124 := n1_; have GW124 := n2_; have GE124 := n3_; clear n0_ n1_ n2_ n3_; clear hb hbox hg) | ((with_reducible refine gate_dst (N := 2) rfl ?_); refine box_event ?hg (N := 2) ?hd (cs := #[.int .i64 0, .int .i64 0, .int .i64 0, .int .i64 0, .int .i64 0, .int .i64 0]) (t := 27) ?hr ?_; (case hd => rfl); (case hg => rfl); (case hr => first | (go_simp; done) | (go_simp; rfl)); intro gb125 hg w3 hbox hb; have n0_ := Aside0.mk (blk_below (g := gb124) (o := .cells #[.int .i64 a0_0, .int .i64 a0_1, .int .i64 a0_2, .int .i64 a0_3, .int .i64 a0_4, .int .i64 a0_5] 65 (0, 0)) (bup BK124.out) hb); have n1_ := Aside0.mk (below_step (by repeat (first | (with_reducible first | exact HB.out | apply below_alloc | apply pw_below_drewN | apply below_drew1 | refine below_set ?_ GE124.out) | exact HB.out)) hb); have n2_ := Aside0.mk (hbox); have n3_ := Aside0.mk ((by rw [hg]; exact (below_size (by repeat (first | (with_reducible first | exact HB.out | apply below_alloc | apply pw_below_drewN | apply below_drew1 | refine below_set ?_ GE124.out) | exact HB.out))) : w.heap.size ≤ gb125)); have n4_ := Aside0.mk ((by rw [hg]; exact (below_size (by repeat (first | (with_reducible first | exact HB.out | apply below_alloc | apply pw_below_drewN | apply below_drew1 | refine below_set ?_ GE124.out) | exact HB.out))) : w.heap.size ≤ gb125)); have n5_ := Aside0.mk ((by rw [hg]; exact Nat.ne_of_lt (blk_lt (g := gb124) (o := .cells #[.int .i64 a0_0, .int .i64 a0_1, .int .i64 a0_2, .int .i64 a0_3, .int .i64 a0_4, .int .i64 a0_5] 65 (0, 0)) (bup BK124.out)) : gb124 ≠ gb125)); have n6_ := Aside0.mk ((by rw [hg]; exact Nat.ne_of_gt (blk_lt (g := gb124) (o := .cells #[.int .i64 a0_0, .int .i64 a0_1, .int .i64 a0_2, .int .i64 a0_3, .int .i64 a0_4, .int .i64 a0_5] 65 (0, 0)) (bup BK124.out)) : gb125 ≠ gb124)); clear BK124; clear HB; have BK124 := n0_; have HB := n1_; have BK125 := n2_; have GW125 := n3_; have GE125 := n4_; have NB124_125 := n5_; have NB125_124 := n6_; clear n0_ n1_ n2_ n3_ n4_ n5_ n6_; clear hb hbox hg) | ((with_reducible refine gate_dst (N := 3) rfl ?_); refine box_event ?hg (N := 3) ?hd (cs := #[.int .i64 0, .int .i64 0, .int .i64 0, .int .i64 0, .int .i64 0, .int .i64 0]) (t := 27) ?hr ?_; (case hd => rfl); (case hg => rfl); (case hr => first | (go_simp; done) | (go_simp; rfl)); intro gb126 hg w4 hbox hb; have n0_ := Aside0.mk (blk_below (g := gb124) (o := .cells #[.int .i64 a0_0, .int .i64 a0_1, .int .i64 a0_2, .int .i64 a0_3, .int .i64 a0_4, .int .i64 a0_5] 65 (0, 0)) (bup BK124.out) hb); have n1_ := Aside0.mk (blk_below (g := gb125) (o := .cells #[.int .i64 0, .int .i64 0, .int .i64 0, .int .i64 0, .int .i64 0, .int .i64 0] 27 (0, 0)) (bup BK125.out) hb); have n2_ := Aside0.mk (below_step (by repeat (first | (with_reducible first | exact HB.out | apply below_alloc | apply pw_below_drewN | apply below_drew1 | refine below_set ?_ GE124.out | refine below_set ?_ GE125.out) | exact HB.out)) hb); have n3_ := Aside0.mk (hbox); have n4_ := Aside0.mk ((by rw [hg]; exact (below_size (by repeat (first | (with_reducible first | exact HB.out | apply below_alloc | apply pw_below_drewN | apply below_drew1 | refine below_set ?_ GE124.out | refine below_set ?_ GE125.out) | exact HB.out))) : w.heap.size ≤ gb126)); have n5_ := Aside0.mk ((by rw [hg]; exact (below_size (by repeat (first | (with_reducible first | exact HB.out | apply below_alloc | apply pw_below_drewN | apply below_drew1 | refine below_set ?_ GE124.out | refine below_set ?_ GE125.out) | exact HB.out))) : w.heap.size ≤ gb126)); have n6_ := Aside0.mk ((by rw [hg]; exact Nat.ne_of_lt (blk_lt (g := gb124) (o := .cells #[.int .i64 a0_0, .int .i64 a0_1, .int .i64 a0_2, .int .i64 a0_3, .int .i64 a0_4, .int .i64 a0_5] 65 (0, 0)) (bup BK124.out)) : gb124 ≠ gb126)); have n7_ := Aside0.mk ((by rw [hg]; exact Nat.ne_of_gt (blk_lt (g := gb124) (o := .cells #[.int .i64 a0_0, .int .i64 a0_1, .int .i64 a0_2, .int .i64 a0_3, .int .i64 a0_4, .int .i64 a0_5] 65 (0, 0)) (bup BK124.out)) : gb126 ≠ gb124)); have n8_ := Aside0.mk ((by rw [hg]; exact Nat.ne_of_lt (blk_lt (g := gb125) (o := .cells #[.int .i64 0, .int .i64 0, .int .i64 0, .int .i64 0, .int .i64 0, .int .i64 0] 27 (0, 0)) (bup BK125.out)) : gb125 ≠ gb126)); have n9_ := Aside0.mk ((by rw [hg]; exact Nat.ne_of_gt (blk_lt (g := gb125) (o := .cells #[.int .i64 0, .int .i64 0, .int .i64 0, .int .i64 0, .int .i64 0, .int .i64 0] 27 (0, 0)) (bup BK125.out)) : gb126 ≠ gb125)); clear BK124; clear BK125; clear HB; have BK124 := n0_; have BK125 := n1_; have HB := n2_; have BK126 := n3_; have GW126 := n4_; have GE126 := n5_; have NB124_126 := n6_; have NB126_124 := n7_; have NB125_126 := n8_; have NB126_125 := n9_; clear n0_ n1_ n2_ n3_ n4_ n5_ n6_ n7_ n8_ n9_; clear hb hbox hg; have hnb5 := NB124_125.out; have hnc5 := NB125_124.out; have hnb6 := NB124_126.out; have hnc6 := NB126_124.out; have hcz7_0 : w4.cell? ⟨gb124, 0, none⟩ = some (.int .i64 a0_0) := (blk_cell BK124.out 0).trans rfl; have hcz7_1 : w4.cell? ⟨gb124, 1, none⟩ = some (.int .i64 a0_1) := (blk_cell BK124.out 1).trans rfl; have hcz7_2 : w4.cell? ⟨gb124, 2, none⟩ = some (.int .i64 a0_2) := (blk_cell BK124.out 2).trans rfl; have hcz7_3 : w4.cell? ⟨gb124, 3, none⟩ = some (.int .i64 a0_3) := (blk_cell BK124.out 3).trans rfl; have hcz7_4 : w4.cell? ⟨gb124, 4, none⟩ = some (.int .i64 a0_4) := (blk_cell BK124.out 4).trans rfl; have hcz7_5 : w4.cell? ⟨gb124, 5, none⟩ = some (.int .i64 a0_5) := (blk_cell BK124.out 5).trans rfl; have hfz7_0 := blk_frozen BK124.out 0; have hfz7_1 := blk_frozen BK124.out 1; have hfz7_2 := blk_frozen BK124.out 2; have hfz7_3 := blk_frozen BK124.out 3; have hfz7_4 := blk_frozen BK124.out 4; have hfz7_5 := blk_frozen BK124.out 5; have hnb8 := NB126_125.out; have hnc8 := NB125_126.out; have hcz9_0 : w4.cell? ⟨gb126, 0, none⟩ = some (.int .i64 0) := (blk_cell BK126.out 0).trans rfl; have hcz9_1 : w4.cell? ⟨gb126, 1, none⟩ = some (.int .i64 0) := (blk_cell BK126.out 1).trans rfl; have hcz9_2 : w4.cell? ⟨gb126, 2, none⟩ = some (.int .i64 0) := (blk_cell BK126.out 2).trans rfl; have hcz9_3 : w4.cell? ⟨gb126, 3, none⟩ = some (.int .i64 0) := (blk_cell BK126.out 3).trans rfl; have hcz9_4 : w4.cell? ⟨gb126, 4, none⟩ = some (.int .i64 0) := (blk_cell BK126.out 4).trans rfl; have hcz9_5 : w4.cell? ⟨gb126, 5, none⟩ = some (.int .i64 0) := (blk_cell BK126.out 5).trans rfl; have hfz9_0 := blk_frozen BK126.out 0; have hfz9_1 := blk_frozen BK126.out 1; have hfz9_2 := blk_frozen BK126.out 2; have hfz9_3 := blk_frozen BK126.out 3; have hfz9_4 := blk_frozen BK126.out 4; have hfz9_5 := blk_frozen BK126.out 5; have hcz10_0 : w4.cell? ⟨gb125, 0, none⟩ = some (.int .i64 0) := (blk_cell BK125.out 0).trans rfl; have hcz10_1 : w4.cell? ⟨gb125, 1, none⟩ = some (.int .i64 0) := (blk_cell BK125.out 1).trans rfl; have hcz10_2 : w4.cell? ⟨gb125, 2, none⟩ = some (.int .i64 0) := (blk_cell BK125.out 2).trans rfl; have hcz10_3 : w4.cell? ⟨gb125, 3, none⟩ = some (.int .i64 0) := (blk_cell BK125.out 3).trans rfl; have hcz10_4 : w4.cell? ⟨gb125, 4, none⟩ = some (.int .i64 0) := (blk_cell BK125.out 4).trans rfl; have hcz10_5 : w4.cell? ⟨gb125, 5, none⟩ = some (.int .i64 0) := (blk_cell BK125.out 5).trans rfl; have hfz10_0 := blk_frozen BK125.out 0; have hfz10_1 := blk_frozen BK125.out 1; have hfz10_2 := blk_frozen BK125.out 2; have hfz10_3 := blk_frozen BK125.out 3; have hfz10_4 := blk_frozen BK125.out 4; have hfz10_5 := blk_frozen BK125.out 5))
 refine bodyPost_ret (results_cell_row rfl _ _ gb125 27 #[.int .i64 a0_0, .int .i64 a0_1, .int .i64 a0_2, .int .i64 a0_3, .int .i64 a0_4, .int .i64 a0_5] (0, 0) _ rfl (by (with_reducible repeat (first | refine blk_drewN ?_ _ | refine blk_drew ?_ | refine blk_alloc ?_ _)); refine blk_put (cs := #[.int .i64 a0_0, .int .i64 a0_1, .int .i64 a0_2, .int .i64 a0_3, .int .i64 a0_4, .int .i64 0]) ?_ 5 _ rfl; (with_reducible repeat (first | refine blk_drewN ?_ _ | refine blk_drew ?_ | refine blk_alloc ?_ _)); refine blk_put (cs := #[.int .i64 a0_0, .int .i64 a0_1, .int .i64 a0_2, .int .i64 a0_3, .int .i64 0, .int .i64 0]) ?_ 4 _ rfl; (with_reducible repeat (first | refine blk_drewN ?_ _ | refine blk_drew ?_ | refine blk_alloc ?_ _)); refine blk_put (cs := #[.int .i64 a0_0, .int .i64 a0_1, .int .i64 a0_2, .int .i64 0, .int .i64 0, .int .i64 0]) ?_ 3 _ rfl; (with_reducible repeat (first | refine blk_drewN ?_ _ | refine blk_drew ?_ | refine blk_alloc ?_ _)); refine blk_put (cs := #[.int .i64 a0_0, .int .i64 a0_1, .int .i64 0, .int .i64 0, .int .i64 0, .int .i64 0]) ?_ 2 _ rfl; (with_reducible repeat (first | refine blk_drewN ?_ _ | refine blk_drew ?_ | refine blk_alloc ?_ _)); refine blk_put (cs := #[.int .i64 a0_0, .int .i64 0, .int .i64 0, .int .i64 0, .int .i64 0, .int .i64 0]) ?_ 1 _ rfl; (with_reducible repeat (first | refine blk_drewN ?_ _ | refine blk_drew ?_ | refine blk_alloc ?_ _)); refine blk_put (cs := #[.int .i64 0, .int .i64 0, .int .i64 0, .int .i64 0, .int .i64 0, .int .i64 0]) ?_ 0 _ rfl; (with_reducible repeat (first | refine blk_drewN ?_ _ | refine blk_drew ?_ | refine blk_alloc ?_ _)); refine blk_far ?_ NB125_126.out _; (with_reducible repeat (first | refine blk_drewN ?_ _ | refine blk_drew ?_ | refine blk_alloc ?_ _)); refine blk_far ?_ NB125_126.out _; (with_reducible repeat (first | refine blk_drewN ?_ _ | refine blk_drew ?_ | refine blk_alloc ?_ _)); refine blk_far ?_ NB125_126.out _; (with_reducible repeat (first | refine blk_drewN ?_ _ | refine blk_drew ?_ | refine blk_alloc ?_ _)); refine blk_far ?_ NB125_126.out _; (with_reducible repeat (first | refine blk_drewN ?_ _ | refine blk_drew ?_ | refine blk_alloc ?_ _)); refine blk_far ?_ NB125_126.out _; (with_reducible repeat (first | refine blk_drewN ?_ _ | refine blk_drew ?_ | refine blk_alloc ?_ _)); refine blk_far ?_ NB125_126.out _; (with_reducible repeat (first | refine blk_drewN ?_ _ | refine blk_drew ?_ | refine blk_alloc ?_ _)); exact BK125.out) Try.underlying27 rfl (by kernel_rfl)) rfl ?_
 exact ⟨by first | rfl | (simp [errW_none, errW_some] <;> rfl) | (simp [*, errW_none, errW_some] <;> rfl), by repeat (first | (with_reducible first | exact HB.out | apply below_alloc | apply pw_below_drewN | apply below_drew1 | refine below_set ?_ GE124.out | refine below_set ?_ GE125.out | refine below_set ?_ GE126.out) | exact HB.out)⟩

end Go.Proofs.Ytnhenfmegpjigaa.PEv
