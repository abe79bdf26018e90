/- Written by the session's own driver (wip/tools/gprint.sh) over the kit's printing program: the machine side of a group of laws. Not trusted: the kernel checks it. -/
import Derived.Test.YtcglfapodhcfeaaVdPPmx0
import Derived.Test.YtcglfapodhcfeaaVdPPmx2
namespace Go.Proofs.Ytcglfapodhcfeaa.PPm
open Go.RowKit Go.Proofs.YtcglfapodhcfeaaW.PrintWords Go.Proofs.YtcglfapodhcfeaaW.PrintLast Go.Proofs.YtcglfapodhcfeaaW.PrintMore
attribute [local go_sem] max2_int min2_int max_two min_two max_three min_three max_four min_four   -- for this text's walks alone
set_option linter.unusedVariables false
set_option linter.unusedSimpArgs false

/-! ### impl_StepsValid: function 20 -/
mutual
def impl_StepsValid.l0 : Nat → List (S39) → List (S39) → Int → Int → Option (Bool)
 | 0, _, _, _, _ => none
 | k + 1, x0, x7, x8, x9 => if x9 < x8 then (if 0 ≤ x9 then (if x9 < (x7.length : Int) then ((impl_within.f ((rd_T39 x7 x9).f0) 1 99).bind fun t211 => (if t211 = true then ((impl_within.f ((rd_T39 x7 x9).f1) 0 4).bind fun t212 => (if t212 = true then ((impl_within.f ((rd_T39 x7 x9).f2) 0 4).bind fun t213 => (impl_StepsValid.j1 k x0 x9 x7 x8 x9 (!t213) ((rd_T39 x7 x9).f0) ((rd_T39 x7 x9).f1) ((rd_T39 x7 x9).f2) ((rd_T39 x7 x9).f3))) else (impl_StepsValid.j1 k x0 x9 x7 x8 x9 true ((rd_T39 x7 x9).f0) ((rd_T39 x7 x9).f1) ((rd_T39 x7 x9).f2) ((rd_T39 x7 x9).f3)))) else (impl_StepsValid.j1 k x0 x9 x7 x8 x9 true ((rd_T39 x7 x9).f0) ((rd_T39 x7 x9).f1) ((rd_T39 x7 x9).f2) ((rd_T39 x7 x9).f3)))) else (none)) else (none)) else (some (decide ((x0.length : Int) ≤ 8)))
def impl_StepsValid.j1 : Nat → List (S39) → Int → List (S39) → Int → Int → Bool → Int → Int → Int → List Int → Option (Bool)
 | 0, _, _, _, _, _, _, _, _, _, _ => none
 | k + 1, x0, x3, x7, x8, x9, x29, x211000, x211001, x211002, x211003 => if x29 = true then (some false) else (impl_StepsValid.l1 k x0 x3 x7 x8 x9 x211003 (x211003.length : Int) 0 x211000 x211001 x211002 x211003)
def impl_StepsValid.l1 : Nat → List (S39) → Int → List (S39) → Int → Int → List Int → Int → Int → Int → Int → Int → List Int → Option (Bool)
 | 0, _, _, _, _, _, _, _, _, _, _, _, _ => none
 | k + 1, x0, x3, x7, x8, x9, x31, x32, x33, x211000, x211001, x211002, x211003 => if x33 < x32 then (if 0 ≤ x33 then (if x33 < (x31.length : Int) then ((impl_within.f (rd x31 x33) 0 (wrap64 (x3 - 1))).bind fun t215 => (if t215 = true then (if x33 > 0 then (if 0 ≤ (wrap64 (x33 - 1)) then (if (wrap64 (x33 - 1)) < (x211003.length : Int) then (if (rd x211003 (wrap64 (x33 - 1))) ≥ (rd x31 x33) then (some false) else (impl_StepsValid.l1 k x0 x3 x7 x8 x9 x31 x32 (wrap64 (x33 + 1)) x211000 x211001 x211002 x211003)) else (none)) else (none)) else (impl_StepsValid.l1 k x0 x3 x7 x8 x9 x31 x32 (wrap64 (x33 + 1)) x211000 x211001 x211002 x211003)) else (some false))) else (none)) else (none)) else (impl_StepsValid.l0 k x0 x7 x8 (wrap64 (x9 + 1)))
end
def impl_StepsValid.f (k : Nat) (l0 : List (S39)) : Option (Bool) := impl_StepsValid.l0 k l0 l0 (l0.length : Int) 0
theorem impl_StepsValid.mono_l : ∀ k, (∀ y0 y1 y2 y3, LeO (impl_StepsValid.l0 k y0 y1 y2 y3) (impl_StepsValid.l0 (k + 1) y0 y1 y2 y3)) ∧ (∀ y0 y1 y2 y3 y4 y5 y6 y7 y8 y9, LeO (impl_StepsValid.j1 k y0 y1 y2 y3 y4 y5 y6 y7 y8 y9) (impl_StepsValid.j1 (k + 1) y0 y1 y2 y3 y4 y5 y6 y7 y8 y9)) ∧ (∀ y0 y1 y2 y3 y4 y5 y6 y7 y8 y9 y10 y11, LeO (impl_StepsValid.l1 k y0 y1 y2 y3 y4 y5 y6 y7 y8 y9 y10 y11) (impl_StepsValid.l1 (k + 1) y0 y1 y2 y3 y4 y5 y6 y7 y8 y9 y10 y11))
 | 0 => ⟨fun _ _ _ _ r h => by simp [impl_StepsValid.l0] at h, fun _ _ _ _ _ _ _ _ _ _ r h => by simp [impl_StepsValid.j1] at h, fun _ _ _ _ _ _ _ _ _ _ _ _ r h => by simp [impl_StepsValid.l1] at h⟩
 | k + 1 => by
  obtain ⟨ih0, ih1, ih2⟩ := impl_StepsValid.mono_l k
  refine ⟨?_, ?_, ?_⟩
  ·intro y0 y1 y2 y3
   unfold impl_StepsValid.l0
   repeat' first
   | (with_reducible exact ih0 _ _ _ _)
   | (with_reducible exact ih1 _ _ _ _ _ _ _ _ _ _)
   | (with_reducible exact ih2 _ _ _ _ _ _ _ _ _ _ _ _)
   | (with_reducible exact LeO.refl _)
   | (with_reducible exact LeO.none _)
   | (with_reducible refine LeO.ite ?_ ?_)
   | (with_reducible refine LeO.bind ?_ (fun _ => ?_))
   | exact ih0 _ _ _ _
   | exact ih1 _ _ _ _ _ _ _ _ _ _
   | exact ih2 _ _ _ _ _ _ _ _ _ _ _ _
   | exact LeO.none _
   | refine LeO.ite ?_ ?_
   | refine LeO.bind ?_ (fun _ => ?_)
  ·intro y0 y1 y2 y3 y4 y5 y6 y7 y8 y9
   unfold impl_StepsValid.j1
   repeat' first
   | (with_reducible exact ih0 _ _ _ _)
   | (with_reducible exact ih1 _ _ _ _ _ _ _ _ _ _)
   | (with_reducible exact ih2 _ _ _ _ _ _ _ _ _ _ _ _)
   | (with_reducible exact LeO.refl _)
   | (with_reducible exact LeO.none _)
   | (with_reducible refine LeO.ite ?_ ?_)
   | (with_reducible refine LeO.bind ?_ (fun _ => ?_))
   | exact ih0 _ _ _ _
   | exact ih1 _ _ _ _ _ _ _ _ _ _
   | exact ih2 _ _ _ _ _ _ _ _ _ _ _ _
   | exact LeO.none _
   | refine LeO.ite ?_ ?_
   | refine LeO.bind ?_ (fun _ => ?_)
  intro y0 y1 y2 y3 y4 y5 y6 y7 y8 y9 y10 y11
  unfold impl_StepsValid.l1
  repeat' first
  | (with_reducible exact ih0 _ _ _ _)
  | (with_reducible exact ih1 _ _ _ _ _ _ _ _ _ _)
  | (with_reducible exact ih2 _ _ _ _ _ _ _ _ _ _ _ _)
  | (with_reducible exact LeO.refl _)
  | (with_reducible exact LeO.none _)
  | (with_reducible refine LeO.ite ?_ ?_)
  | (with_reducible refine LeO.bind ?_ (fun _ => ?_))
  | exact ih0 _ _ _ _
  | exact ih1 _ _ _ _ _ _ _ _ _ _
  | exact ih2 _ _ _ _ _ _ _ _ _ _ _ _
  | exact LeO.none _
  | refine LeO.ite ?_ ?_
  | refine LeO.bind ?_ (fun _ => ?_)
theorem impl_StepsValid.mono : ∀ a0 k, LeO (impl_StepsValid.f k a0) (impl_StepsValid.f (k + 1) a0) := by
 intro a0 k
 obtain ⟨ih0, ih1, ih2⟩ := impl_StepsValid.mono_l k
 unfold impl_StepsValid.f
 repeat' first
  | (with_reducible exact ih0 _ _ _ _)
  | (with_reducible exact ih1 _ _ _ _ _ _ _ _ _ _)
  | (with_reducible exact ih2 _ _ _ _ _ _ _ _ _ _ _ _)
  | (with_reducible exact LeO.refl _)
  | (with_reducible exact LeO.none _)
  | (with_reducible refine LeO.ite ?_ ?_)
  | (with_reducible refine LeO.bind ?_ (fun _ => ?_))
  | exact ih0 _ _ _ _
  | exact ih1 _ _ _ _ _ _ _ _ _ _
  | exact ih2 _ _ _ _ _ _ _ _ _ _ _ _
  | exact LeO.none _
  | refine LeO.ite ?_ ?_
  | refine LeO.bind ?_ (fun _ => ?_)
set_option maxHeartbeats 8000000 in
set_option maxRecDepth 100000 in
theorem impl_StepsValid.calls (k : Nat) (A0 : Option Addr) (c0 : Nat) (l0 : List (S39)) (r : Bool) (w : World) (hr0 : Kd.C k39 w A0 l0.length l0) (hc0 : l0.length ≤ c0) (h : impl_StepsValid.f k l0 = some r) :
    Calls Try.prog 20 #[.slice A0 l0.length c0] w fun e w' => e = .returned (.bool r) ∧ Below w.heap.size w w' := by
 have hu39 := Try.underlying39
 have HR0 := Aside0.mk hr0
 have HC0 := Aside0.mk hc0
 clear hr0 hc0
 have HB := Aside0.mk (Below.refl w.heap.size w)
 have H : (impl_StepsValid.l0 k l0 l0 (l0.length : Int) 0) = some r := h
 clear h
 have H' := Aside0.mk H
 clear H
 go_enter Try.func20, Try.ntmps20
 go_wp2
 go_loopg [9] k (fun kq v9 w' => ∃ (x9_1 : Int), v9 = .int .i64 x9_1 ∧ Aside0 (impl_StepsValid.l0 kq l0 l0 (l0.length : Int) x9_1 = some r) ∧ Aside0 (kq ≤ k) ∧ Aside0 (Below w.heap.size w w'))
 case atStart => exact ⟨(0), (by first | rfl | (simp; done) | (simp [*]; done)), H', ⟨Nat.le_refl _⟩, ⟨bel HB.out⟩⟩
 case round =>
  clear H'
  obtain ⟨x9_1, rfl, HA, HK1, HB⟩ := hrel
  cases gk with
  | zero => exact absurd HA.out (by simp [impl_StepsValid.l0])
  | succ k1 =>
   have H := HA.out
   clear HA
   simp only [impl_StepsValid.l0] at H
   by_cases c2 : x9_1 < (l0.length : Int)
   ·rw [if_pos c2] at H
    have c2b0 : decide (x9_1 < (l0.length : Int)) = true := decide_eq_true c2
    clear c2
    by_cases c3 : 0 ≤ x9_1
    ·rw [if_pos c3] at H
     have c3b0 : decide (0 ≤ x9_1) = true := decide_eq_true c3
     clear c3
     by_cases c4 : x9_1 < (l0.length : Int)
     ·rw [if_pos c4] at H
      have c4b0 : decide (x9_1 < (l0.length : Int)) = true := decide_eq_true c4
      clear c4
      have HC5 := Aside0.mk H
      clear H
      have p209 : 0 ≤ (x9_1 : Int) := of_decide_eq_true (by assumption)
      have q209 : x9_1 < (l0.length : Int) := of_decide_eq_true (by assumption)
      obtain ⟨ad209, A209_3, c209_3, e209, hx209_0, hx209_1, hx209_2, hx209_3, hl209_3, hi209_3⟩ := at_T39 HR0.out x9_1 p209 q209
      cases e209
      replace hx209_0 := cel HB.out hx209_0
      replace hx209_1 := cel HB.out hx209_1
      replace hx209_2 := cel HB.out hx209_2
      replace hx209_3 := cel HB.out hx209_3
      have HR209_3 := Aside0.mk hi209_3
      have HC209_3 := Aside0.mk hl209_3
      clear hi209_3 hl209_3
      replace p209 := eq_true p209
      replace q209 := eq_true q209
      go_upto_region 4 with (first | ((with_reducible refine gate_dst (N := 4) rfl ?_); refine box_event ?hg (N := 4) ?hd (cs := #[.int .i64 0, .int .i64 0, .int .i64 0, .slice none 0 0]) (t := 39) ?hr ?_; (case hd => rfl); (case hg => rfl); (case hr => first | (go_simp; done) | (go_simp; rfl)); intro gb210 hg w6 hbox hb; have n0_ := Aside0.mk (below_step (bel HB.out) hb); have n1_ := Aside0.mk (hbox); have n2_ := Aside0.mk ((by rw [hg]; exact (below_size (bel HB.out)) : w.heap.size ≤ gb210)); have n3_ := Aside0.mk ((by rw [hg]; exact (below_size (bel HB.out)) : w.heap.size ≤ gb210)); clear HB; have HB := n0_; have BK210 := n1_; have GW210 := n2_; have GE210 := n3_; clear n0_ n1_ n2_ n3_; clear hb hbox hg; have hcz7_0 : w6.cell? ⟨gb210, 0, none⟩ = some (.int .i64 0) := (blk_cell BK210.out 0).trans rfl; have hcz7_1 : w6.cell? ⟨gb210, 1, none⟩ = some (.int .i64 0) := (blk_cell BK210.out 1).trans rfl; have hcz7_2 : w6.cell? ⟨gb210, 2, none⟩ = some (.int .i64 0) := (blk_cell BK210.out 2).trans rfl; have hcz7_3 : w6.cell? ⟨gb210, 3, none⟩ = some (.slice none 0 0) := (blk_cell BK210.out 3).trans rfl; have hfz7_0 := blk_frozen BK210.out 0; have hfz7_1 := blk_frozen BK210.out 1; have hfz7_2 := blk_frozen BK210.out 2; have hfz7_3 := blk_frozen BK210.out 3))
      (try simp only [Act.put, List.setIfInBounds_toArray, List.set_cons_zero, List.set_cons_succ])
      go_cut [29] (fun v29 wc => ∃ (kq : Nat) (x29_4 : Bool), v29 = .bool x29_4 ∧ Aside0 (impl_StepsValid.j1 kq l0 x9_1 l0 (l0.length : Int) x9_1 x29_4 ((rd_T39 l0 x9_1).f0) ((rd_T39 l0 x9_1).f1) ((rd_T39 l0 x9_1).f2) ((rd_T39 l0 x9_1).f3) = some r) ∧ Aside0 (kq ≤ k1) ∧ Aside0 (wc.heap[gb210]? = some (.cells #[.int .i64 ((rd_T39 l0 x9_1).f0), .int .i64 ((rd_T39 l0 x9_1).f1), .int .i64 ((rd_T39 l0 x9_1).f2), (.slice A209_3 ((rd_T39 l0 x9_1).f3).length c209_3)] 39 (0, 0))) ∧ Aside0 (Below w.heap.size w wc))
      case first =>
       have H := HC5.out
       clear HC5
       replace H := Option.bind_eq_some_iff.mp H
       obtain ⟨t211, A80, H⟩ := H
       replace H : (if t211 = true then ((impl_within.f ((rd_T39 l0 x9_1).f1) 0 4).bind fun t212 => (if t212 = true then ((impl_within.f ((rd_T39 l0 x9_1).f2) 0 4).bind fun t213 => (impl_StepsValid.j1 k1 l0 x9_1 l0 (l0.length : Int) x9_1 (!t213) ((rd_T39 l0 x9_1).f0) ((rd_T39 l0 x9_1).f1) ((rd_T39 l0 x9_1).f2) ((rd_T39 l0 x9_1).f3))) else (impl_StepsValid.j1 k1 l0 x9_1 l0 (l0.length : Int) x9_1 true ((rd_T39 l0 x9_1).f0) ((rd_T39 l0 x9_1).f1) ((rd_T39 l0 x9_1).f2) ((rd_T39 l0 x9_1).f3)))) else (impl_StepsValid.j1 k1 l0 x9_1 l0 (l0.length : Int) x9_1 true ((rd_T39 l0 x9_1).f0) ((rd_T39 l0 x9_1).f1) ((rd_T39 l0 x9_1).f2) ((rd_T39 l0 x9_1).f3))) = some r := H
       have A8 := Aside0.mk A80
       clear A80
       by_cases c9 : t211 = true
       ·subst c9
        have H1 : ((impl_within.f ((rd_T39 l0 x9_1).f1) 0 4).bind fun t212 => (if t212 = true then ((impl_within.f ((rd_T39 l0 x9_1).f2) 0 4).bind fun t213 => (impl_StepsValid.j1 k1 l0 x9_1 l0 (l0.length : Int) x9_1 (!t213) ((rd_T39 l0 x9_1).f0) ((rd_T39 l0 x9_1).f1) ((rd_T39 l0 x9_1).f2) ((rd_T39 l0 x9_1).f3))) else (impl_StepsValid.j1 k1 l0 x9_1 l0 (l0.length : Int) x9_1 true ((rd_T39 l0 x9_1).f0) ((rd_T39 l0 x9_1).f1) ((rd_T39 l0 x9_1).f2) ((rd_T39 l0 x9_1).f3)))) = some r := by rw [if_pos rfl] at H; exact H
        clear H
        have H := H1
        clear H1
        replace H := Option.bind_eq_some_iff.mp H
        obtain ⟨t212, A100, H⟩ := H
        replace H : (if t212 = true then ((impl_within.f ((rd_T39 l0 x9_1).f2) 0 4).bind fun t213 => (impl_StepsValid.j1 k1 l0 x9_1 l0 (l0.length : Int) x9_1 (!t213) ((rd_T39 l0 x9_1).f0) ((rd_T39 l0 x9_1).f1) ((rd_T39 l0 x9_1).f2) ((rd_T39 l0 x9_1).f3))) else (impl_StepsValid.j1 k1 l0 x9_1 l0 (l0.length : Int) x9_1 true ((rd_T39 l0 x9_1).f0) ((rd_T39 l0 x9_1).f1) ((rd_T39 l0 x9_1).f2) ((rd_T39 l0 x9_1).f3))) = some r := H
        have A10 := Aside0.mk A100
        clear A100
        by_cases c11 : t212 = true
        ·subst c11
         have H1 : ((impl_within.f ((rd_T39 l0 x9_1).f2) 0 4).bind fun t213 => (impl_StepsValid.j1 k1 l0 x9_1 l0 (l0.length : Int) x9_1 (!t213) ((rd_T39 l0 x9_1).f0) ((rd_T39 l0 x9_1).f1) ((rd_T39 l0 x9_1).f2) ((rd_T39 l0 x9_1).f3))) = some r := by rw [if_pos rfl] at H; exact H
         clear H
         have H := H1
         clear H1
         replace H := Option.bind_eq_some_iff.mp H
         obtain ⟨t213, A120, H⟩ := H
         replace H : (impl_StepsValid.j1 k1 l0 x9_1 l0 (l0.length : Int) x9_1 (!t213) ((rd_T39 l0 x9_1).f0) ((rd_T39 l0 x9_1).f1) ((rd_T39 l0 x9_1).f2) ((rd_T39 l0 x9_1).f3)) = some r := H
         have A12 := Aside0.mk A120
         clear A120
         have H' := Aside0.mk H
         clear H
         have hcz13_0 : w6.cell? ⟨gb210, 0, none⟩ = some (.int .i64 0) := (blk_cell BK210.out 0).trans rfl
         have hcz13_1 : w6.cell? ⟨gb210, 1, none⟩ = some (.int .i64 0) := (blk_cell BK210.out 1).trans rfl
         have hcz13_2 : w6.cell? ⟨gb210, 2, none⟩ = some (.int .i64 0) := (blk_cell BK210.out 2).trans rfl
         have hcz13_3 : w6.cell? ⟨gb210, 3, none⟩ = some (.slice none 0 0) := (blk_cell BK210.out 3).trans rfl
         have hfz13_0 := blk_frozen BK210.out 0
         have hfz13_1 := blk_frozen BK210.out 1
         have hfz13_2 := blk_frozen BK210.out 2
         have hfz13_3 := blk_frozen BK210.out 3
         go_wp2_with (first | ((with_reducible refine gate_callee (f := 33) rfl ?_); refine goesL_ (some 16) rfl rfl Try.func33 (by kernel_rfl) rfl #[.int .i64 ((rd_T39 l0 x9_1).f0), .int .i64 1, .int .i64 99] rfl (by (try simp only [List.map_toArray, List.map_cons, List.map_nil]); first | done | rfl | (simp only [List.length_drop, List.length_take]; rfl)) ?_; (with_reducible refine (impl_within.calls ((rd_T39 l0 x9_1).f0) 1 99 true _ A8.out).mono ?_); rintro e w' ⟨rfl, ⟨nd, rfl⟩⟩; refine ⟨_, rfl, ?_⟩) | (go_at_call 33; (with_reducible refine (impl_within.calls ((rd_T39 l0 x9_1).f1) 0 4 true _ A10.out).mono ?_); rintro e w' ⟨rfl, ⟨nd, rfl⟩⟩) | (go_at_call 33; (with_reducible refine (impl_within.calls ((rd_T39 l0 x9_1).f2) 0 4 t213 _ A12.out).mono ?_); rintro e w' ⟨rfl, ⟨nd, rfl⟩⟩))
         go_meet
         case rel => exact ⟨_, (!t213), (by first | rfl | (simp; done) | (simp [*]; done)), H', ⟨by have := HK1.out; first | omega | exact Nat.le_refl _⟩, ⟨by (with_reducible repeat (first | refine blk_drewN ?_ _ | refine blk_drew ?_ | refine blk_alloc ?_ _)); refine blk_put (cs := #[.int .i64 ((rd_T39 l0 x9_1).f0), .int .i64 ((rd_T39 l0 x9_1).f1), .int .i64 ((rd_T39 l0 x9_1).f2), .slice none 0 0]) ?_ 3 _ rfl; (with_reducible repeat (first | refine blk_drewN ?_ _ | refine blk_drew ?_ | refine blk_alloc ?_ _)); refine blk_put (cs := #[.int .i64 ((rd_T39 l0 x9_1).f0), .int .i64 ((rd_T39 l0 x9_1).f1), .int .i64 0, .slice none 0 0]) ?_ 2 _ rfl; (with_reducible repeat (first | refine blk_drewN ?_ _ | refine blk_drew ?_ | refine blk_alloc ?_ _)); refine blk_put (cs := #[.int .i64 ((rd_T39 l0 x9_1).f0), .int .i64 0, .int .i64 0, .slice none 0 0]) ?_ 1 _ rfl; (with_reducible repeat (first | refine blk_drewN ?_ _ | refine blk_drew ?_ | refine blk_alloc ?_ _)); refine blk_put (cs := #[.int .i64 0, .int .i64 0, .int .i64 0, .slice none 0 0]) ?_ 0 _ rfl; (with_reducible repeat (first | refine blk_drewN ?_ _ | refine blk_drew ?_ | refine blk_alloc ?_ _)); exact BK210.out⟩, ⟨by repeat (first | (with_reducible first | exact HB.out | apply below_alloc | apply pw_below_drewN | apply below_drew1 | refine below_set ?_ GE210.out) | exact HB.out)⟩⟩
        replace c11 := Bool.eq_false_iff.mpr c11
        subst c11
        have H1 : (impl_StepsValid.j1 k1 l0 x9_1 l0 (l0.length : Int) x9_1 true ((rd_T39 l0 x9_1).f0) ((rd_T39 l0 x9_1).f1) ((rd_T39 l0 x9_1).f2) ((rd_T39 l0 x9_1).f3)) = some r := by rw [if_neg (show ¬ (false = true) by decide)] at H; exact H
        clear H
        have H := H1
        clear H1
        have H' := Aside0.mk H
        clear H
        have hcz14_0 : w6.cell? ⟨gb210, 0, none⟩ = some (.int .i64 0) := (blk_cell BK210.out 0).trans rfl
        have hcz14_1 : w6.cell? ⟨gb210, 1, none⟩ = some (.int .i64 0) := (blk_cell BK210.out 1).trans rfl
        have hcz14_2 : w6.cell? ⟨gb210, 2, none⟩ = some (.int .i64 0) := (blk_cell BK210.out 2).trans rfl
        have hcz14_3 : w6.cell? ⟨gb210, 3, none⟩ = some (.slice none 0 0) := (blk_cell BK210.out 3).trans rfl
        have hfz14_0 := blk_frozen BK210.out 0
        have hfz14_1 := blk_frozen BK210.out 1
        have hfz14_2 := blk_frozen BK210.out 2
        have hfz14_3 := blk_frozen BK210.out 3
        go_wp2_with (first | ((with_reducible refine gate_callee (f := 33) rfl ?_); refine goesL_ (some 16) rfl rfl Try.func33 (by kernel_rfl) rfl #[.int .i64 ((rd_T39 l0 x9_1).f0), .int .i64 1, .int .i64 99] rfl (by (try simp only [List.map_toArray, List.map_cons, List.map_nil]); first | done | rfl | (simp only [List.length_drop, List.length_take]; rfl)) ?_; (with_reducible refine (impl_within.calls ((rd_T39 l0 x9_1).f0) 1 99 true _ A8.out).mono ?_); rintro e w' ⟨rfl, ⟨nd, rfl⟩⟩; refine ⟨_, rfl, ?_⟩) | (go_at_call 33; (with_reducible refine (impl_within.calls ((rd_T39 l0 x9_1).f1) 0 4 false _ A10.out).mono ?_); rintro e w' ⟨rfl, ⟨nd, rfl⟩⟩))
        go_meet
        case rel => exact ⟨_, (true), (by first | rfl | (simp; done) | (simp [*]; done)), H', ⟨by have := HK1.out; first | omega | exact Nat.le_refl _⟩, ⟨by (with_reducible repeat (first | refine blk_drewN ?_ _ | refine blk_drew ?_ | refine blk_alloc ?_ _)); refine blk_put (cs := #[.int .i64 ((rd_T39 l0 x9_1).f0), .int .i64 ((rd_T39 l0 x9_1).f1), .int .i64 ((rd_T39 l0 x9_1).f2), .slice none 0 0]) ?_ 3 _ rfl; (with_reducible repeat (first | refine blk_drewN ?_ _ | refine blk_drew ?_ | refine blk_alloc ?_ _)); refine blk_put (cs := #[.int .i64 ((rd_T39 l0 x9_1).f0), .int .i64 ((rd_T39 l0 x9_1).f1), .int .i64 0, .slice none 0 0]) ?_ 2 _ rfl; (with_reducible repeat (first | refine blk_drewN ?_ _ | refine blk_drew ?_ | refine blk_alloc ?_ _)); refine blk_put (cs := #[.int .i64 ((rd_T39 l0 x9_1).f0), .int .i64 0, .int .i64 0, .slice none 0 0]) ?_ 1 _ rfl; (with_reducible repeat (first | refine blk_drewN ?_ _ | refine blk_drew ?_ | refine blk_alloc ?_ _)); refine blk_put (cs := #[.int .i64 0, .int .i64 0, .int .i64 0, .slice none 0 0]) ?_ 0 _ rfl; (with_reducible repeat (first | refine blk_drewN ?_ _ | refine blk_drew ?_ | refine blk_alloc ?_ _)); exact BK210.out⟩, ⟨by repeat (first | (with_reducible first | exact HB.out | apply below_alloc | apply pw_below_drewN | apply below_drew1 | refine below_set ?_ GE210.out) | exact HB.out)⟩⟩
       replace c9 := Bool.eq_false_iff.mpr c9
       subst c9
       have H1 : (impl_StepsValid.j1 k1 l0 x9_1 l0 (l0.length : Int) x9_1 true ((rd_T39 l0 x9_1).f0) ((rd_T39 l0 x9_1).f1) ((rd_T39 l0 x9_1).f2) ((rd_T39 l0 x9_1).f3)) = some r := by rw [if_neg (show ¬ (false = true) by decide)] at H; exact H
       clear H
       have H := H1
       clear H1
       have H' := Aside0.mk H
       clear H
       have hcz15_0 : w6.cell? ⟨gb210, 0, none⟩ = some (.int .i64 0) := (blk_cell BK210.out 0).trans rfl
       have hcz15_1 : w6.cell? ⟨gb210, 1, none⟩ = some (.int .i64 0) := (blk_cell BK210.out 1).trans rfl
       have hcz15_2 : w6.cell? ⟨gb210, 2, none⟩ = some (.int .i64 0) := (blk_cell BK210.out 2).trans rfl
       have hcz15_3 : w6.cell? ⟨gb210, 3, none⟩ = some (.slice none 0 0) := (blk_cell BK210.out 3).trans rfl
       have hfz15_0 := blk_frozen BK210.out 0
       have hfz15_1 := blk_frozen BK210.out 1
       have hfz15_2 := blk_frozen BK210.out 2
       have hfz15_3 := blk_frozen BK210.out 3
       go_wp2_with (first | ((with_reducible refine gate_callee (f := 33) rfl ?_); refine goesL_ (some 16) rfl rfl Try.func33 (by kernel_rfl) rfl #[.int .i64 ((rd_T39 l0 x9_1).f0), .int .i64 1, .int .i64 99] rfl (by (try simp only [List.map_toArray, List.map_cons, List.map_nil]); first | done | rfl | (simp only [List.length_drop, List.length_take]; rfl)) ?_; (with_reducible refine (impl_within.calls ((rd_T39 l0 x9_1).f0) 1 99 false _ A8.out).mono ?_); rintro e w' ⟨rfl, ⟨nd, rfl⟩⟩; refine ⟨_, rfl, ?_⟩))
       go_meet
       case rel => exact ⟨_, (true), (by first | rfl | (simp; done) | (simp [*]; done)), H', ⟨by have := HK1.out; first | omega | exact Nat.le_refl _⟩, ⟨by (with_reducible repeat (first | refine blk_drewN ?_ _ | refine blk_drew ?_ | refine blk_alloc ?_ _)); refine blk_put (cs := #[.int .i64 ((rd_T39 l0 x9_1).f0), .int .i64 ((rd_T39 l0 x9_1).f1), .int .i64 ((rd_T39 l0 x9_1).f2), .slice none 0 0]) ?_ 3 _ rfl; (with_reducible repeat (first | refine blk_drewN ?_ _ | refine blk_drew ?_ | refine blk_alloc ?_ _)); refine blk_put (cs := #[.int .i64 ((rd_T39 l0 x9_1).f0), .int .i64 ((rd_T39 l0 x9_1).f1), .int .i64 0, .slice none 0 0]) ?_ 2 _ rfl; (with_reducible repeat (first | refine blk_drewN ?_ _ | refine blk_drew ?_ | refine blk_alloc ?_ _)); refine blk_put (cs := #[.int .i64 ((rd_T39 l0 x9_1).f0), .int .i64 0, .int .i64 0, .slice none 0 0]) ?_ 1 _ rfl; (with_reducible repeat (first | refine blk_drewN ?_ _ | refine blk_drew ?_ | refine blk_alloc ?_ _)); refine blk_put (cs := #[.int .i64 0, .int .i64 0, .int .i64 0, .slice none 0 0]) ?_ 0 _ rfl; (with_reducible repeat (first | refine blk_drewN ?_ _ | refine blk_drew ?_ | refine blk_alloc ?_ _)); exact BK210.out⟩, ⟨by repeat (first | (with_reducible first | exact HB.out | apply below_alloc | apply pw_below_drewN | apply below_drew1 | refine below_set ?_ GE210.out) | exact HB.out)⟩⟩
      case rest =>
       clear HC5
       try clear c1
       try clear c2
       try clear c2b0
       try clear p2
       try clear q2
       try clear hx2
       try clear c3
       try clear c3b0
       try clear c4
       try clear c4b0
       try clear c9
       try clear c11
       try clear hcz13_0
       try clear hcz13_1
       try clear hcz13_2
       try clear hcz13_3
       try clear hcz14_0
       try clear hcz14_1
       try clear hcz14_2
       try clear hcz14_3
       try clear hcz15_0
       try clear hcz15_1
       try clear hcz15_2
       try clear hcz15_3
       try clear hcz7_0
       try clear hcz7_1
       try clear hcz7_2
       try clear hcz7_3
       try clear hfz13_0
       try clear hfz13_1
       try clear hfz13_2
       try clear hfz13_3
       try clear hfz14_0
       try clear hfz14_1
       try clear hfz14_2
       try clear hfz14_3
       try clear hfz15_0
       try clear hfz15_1
       try clear hfz15_2
       try clear hfz15_3
       try clear hfz7_0
       try clear hfz7_1
       try clear hfz7_2
       try clear hfz7_3
       try clear hx209_0
       try clear hx209_1
       try clear hx209_2
       try clear hx209_3
       try clear p209
       try clear q209
       obtain ⟨kq, x29_4, rfl, HA, HJ4, BK210, HB⟩ := hcut
       cases kq with
       | zero => exact absurd HA.out (by simp [impl_StepsValid.j1])
       | succ kj4 =>
        have H := HA.out
        clear HA
        simp only [impl_StepsValid.j1] at H
        by_cases c16 : x29_4 = true
        ·subst c16
         have H1 : (some false) = some r := by rw [if_pos rfl] at H; exact H
         clear H
         have H := H1
         clear H1
         obtain rfl := Option.some.inj H
         go_wp2
         go_ret
         exact ⟨by first | rfl | (simp [errW_none, errW_some] <;> rfl) | (simp [*, errW_none, errW_some] <;> rfl), by repeat (first | (with_reducible first | exact HB.out | apply below_alloc | apply pw_below_drewN | apply below_drew1 | refine below_set ?_ GE210.out) | exact HB.out)⟩
        replace c16 := Bool.eq_false_iff.mpr c16
        subst c16
        have H1 : (impl_StepsValid.l1 kj4 l0 x9_1 l0 (l0.length : Int) x9_1 ((rd_T39 l0 x9_1).f3) (((rd_T39 l0 x9_1).f3).length : Int) 0 ((rd_T39 l0 x9_1).f0) ((rd_T39 l0 x9_1).f1) ((rd_T39 l0 x9_1).f2) ((rd_T39 l0 x9_1).f3)) = some r := by rw [if_neg (show ¬ (false = true) by decide)] at H; exact H
        clear H
        have H := H1
        clear H1
        have H' := Aside0.mk H
        clear H
        have hcz17_0 : wc.cell? ⟨gb210, 0, none⟩ = some (.int .i64 ((rd_T39 l0 x9_1).f0)) := (blk_cell BK210.out 0).trans rfl
        have hcz17_1 : wc.cell? ⟨gb210, 1, none⟩ = some (.int .i64 ((rd_T39 l0 x9_1).f1)) := (blk_cell BK210.out 1).trans rfl
        have hcz17_2 : wc.cell? ⟨gb210, 2, none⟩ = some (.int .i64 ((rd_T39 l0 x9_1).f2)) := (blk_cell BK210.out 2).trans rfl
        have hcz17_3 : wc.cell? ⟨gb210, 3, none⟩ = some (.slice A209_3 ((rd_T39 l0 x9_1).f3).length c209_3) := (blk_cell BK210.out 3).trans rfl
        have hfz17_0 := blk_frozen BK210.out 0
        have hfz17_1 := blk_frozen BK210.out 1
        have hfz17_2 := blk_frozen BK210.out 2
        have hfz17_3 := blk_frozen BK210.out 3
        go_wp2
        go_loopg [33] kj4 (fun kq v33 w' => ∃ (x33_3 : Int), v33 = .int .i64 x33_3 ∧ Aside0 (impl_StepsValid.l1 kq l0 x9_1 l0 (l0.length : Int) x9_1 ((rd_T39 l0 x9_1).f3) (((rd_T39 l0 x9_1).f3).length : Int) x33_3 ((rd_T39 l0 x9_1).f0) ((rd_T39 l0 x9_1).f1) ((rd_T39 l0 x9_1).f2) ((rd_T39 l0 x9_1).f3) = some r) ∧ Aside0 (kq ≤ kj4) ∧ Aside0 (w'.heap[gb210]? = some (.cells #[.int .i64 ((rd_T39 l0 x9_1).f0), .int .i64 ((rd_T39 l0 x9_1).f1), .int .i64 ((rd_T39 l0 x9_1).f2), (.slice A209_3 ((rd_T39 l0 x9_1).f3).length c209_3)] 39 (0, 0))) ∧ Aside0 (Below w.heap.size w w'))
        case atStart => exact ⟨(0), (by first | rfl | (simp; done) | (simp [*]; done)), H', ⟨Nat.le_refl _⟩, ⟨by (with_reducible repeat (first | refine blk_drewN ?_ _ | refine blk_drew ?_ | refine blk_alloc ?_ _)); exact BK210.out⟩, ⟨by repeat (first | (with_reducible first | exact HB.out | apply below_alloc | apply pw_below_drewN | apply below_drew1 | refine below_set ?_ GE210.out) | exact HB.out)⟩⟩
        case round =>
         clear H'
         try clear c1
         try clear c2
         try clear c2b0
         try clear p2
         try clear q2
         try clear hx2
         try clear c3
         try clear c3b0
         try clear c4
         try clear c4b0
         try clear c9
         try clear c11
         try clear c16
         try clear hcz13_0
         try clear hcz13_1
         try clear hcz13_2
         try clear hcz13_3
         try clear hcz14_0
         try clear hcz14_1
         try clear hcz14_2
         try clear hcz14_3
         try clear hcz15_0
         try clear hcz15_1
         try clear hcz15_2
         try clear hcz15_3
         try clear hcz17_0
         try clear hcz17_1
         try clear hcz17_2
         try clear hcz17_3
         try clear hcz7_0
         try clear hcz7_1
         try clear hcz7_2
         try clear hcz7_3
         try clear hfz13_0
         try clear hfz13_1
         try clear hfz13_2
         try clear hfz13_3
         try clear hfz14_0
         try clear hfz14_1
         try clear hfz14_2
         try clear hfz14_3
         try clear hfz15_0
         try clear hfz15_1
         try clear hfz15_2
         try clear hfz15_3
         try clear hfz17_0
         try clear hfz17_1
         try clear hfz17_2
         try clear hfz17_3
         try clear hfz7_0
         try clear hfz7_1
         try clear hfz7_2
         try clear hfz7_3
         try clear hx209_0
         try clear hx209_1
         try clear hx209_2
         try clear hx209_3
         try clear p2
         try clear p209
         try clear q2
         try clear q209
         obtain ⟨x33_3, rfl, HA, HK3, BK210, HB⟩ := hrel
         cases gk with
         | zero => exact absurd HA.out (by simp [impl_StepsValid.l1])
         | succ k3 =>
          have H := HA.out
          clear HA
          simp only [impl_StepsValid.l1] at H
          by_cases c18 : x33_3 < (((rd_T39 l0 x9_1).f3).length : Int)
          ·rw [if_pos c18] at H
           have c18b0 : decide (x33_3 < (((rd_T39 l0 x9_1).f3).length : Int)) = true := decide_eq_true c18
           clear c18
           by_cases c19 : 0 ≤ x33_3
           ·rw [if_pos c19] at H
            have c19b0 : decide (0 ≤ x33_3) = true := decide_eq_true c19
            clear c19
            by_cases c20 : x33_3 < (((rd_T39 l0 x9_1).f3).length : Int)
            ·rw [if_pos c20] at H
             have c20b0 : decide (x33_3 < (((rd_T39 l0 x9_1).f3).length : Int)) = true := decide_eq_true c20
             clear c20
             replace H := Option.bind_eq_some_iff.mp H
             obtain ⟨t215, A210, H⟩ := H
             replace H : (if t215 = true then (if x33_3 > 0 then (if 0 ≤ (wrap64 (x33_3 - 1)) then (if (wrap64 (x33_3 - 1)) < (((rd_T39 l0 x9_1).f3).length : Int) then (if (rd ((rd_T39 l0 x9_1).f3) (wrap64 (x33_3 - 1))) ≥ (rd ((rd_T39 l0 x9_1).f3) x33_3) then (some false) else (impl_StepsValid.l1 k3 l0 x9_1 l0 (l0.length : Int) x9_1 ((rd_T39 l0 x9_1).f3) (((rd_T39 l0 x9_1).f3).length : Int) (wrap64 (x33_3 + 1)) ((rd_T39 l0 x9_1).f0) ((rd_T39 l0 x9_1).f1) ((rd_T39 l0 x9_1).f2) ((rd_T39 l0 x9_1).f3))) else (none)) else (none)) else (impl_StepsValid.l1 k3 l0 x9_1 l0 (l0.length : Int) x9_1 ((rd_T39 l0 x9_1).f3) (((rd_T39 l0 x9_1).f3).length : Int) (wrap64 (x33_3 + 1)) ((rd_T39 l0 x9_1).f0) ((rd_T39 l0 x9_1).f1) ((rd_T39 l0 x9_1).f2) ((rd_T39 l0 x9_1).f3))) else (some false)) = some r := H
             have A21 := Aside0.mk A210
             clear A210
             by_cases c22 : t215 = true
             ·subst c22
              have H1 : (if x33_3 > 0 then (if 0 ≤ (wrap64 (x33_3 - 1)) then (if (wrap64 (x33_3 - 1)) < (((rd_T39 l0 x9_1).f3).length : Int) then (if (rd ((rd_T39 l0 x9_1).f3) (wrap64 (x33_3 - 1))) ≥ (rd ((rd_T39 l0 x9_1).f3) x33_3) then (some false) else (impl_StepsValid.l1 k3 l0 x9_1 l0 (l0.length : Int) x9_1 ((rd_T39 l0 x9_1).f3) (((rd_T39 l0 x9_1).f3).length : Int) (wrap64 (x33_3 + 1)) ((rd_T39 l0 x9_1).f0) ((rd_T39 l0 x9_1).f1) ((rd_T39 l0 x9_1).f2) ((rd_T39 l0 x9_1).f3))) else (none)) else (none)) else (impl_StepsValid.l1 k3 l0 x9_1 l0 (l0.length : Int) x9_1 ((rd_T39 l0 x9_1).f3) (((rd_T39 l0 x9_1).f3).length : Int) (wrap64 (x33_3 + 1)) ((rd_T39 l0 x9_1).f0) ((rd_T39 l0 x9_1).f1) ((rd_T39 l0 x9_1).f2) ((rd_T39 l0 x9_1).f3))) = some r := by rw [if_pos rfl] at H; exact H
              clear H
              have H := H1
              clear H1
              by_cases c23 : x33_3 > 0
              ·rw [if_pos c23] at H
               have c23b0 : decide (0 < x33_3) = true := decide_eq_true c23
               clear c23
               obtain ⟨ji24, hji24⟩ : ∃ j_ : Int, (wrap64 (x33_3 - 1)) = j_ := ⟨_, rfl⟩
               replace H : (if 0 ≤ (ji24) then (if (ji24) < (((rd_T39 l0 x9_1).f3).length : Int) then (if (rd ((rd_T39 l0 x9_1).f3) (ji24)) ≥ (rd ((rd_T39 l0 x9_1).f3) x33_3) then (some false) else (impl_StepsValid.l1 k3 l0 x9_1 l0 (l0.length : Int) x9_1 ((rd_T39 l0 x9_1).f3) (((rd_T39 l0 x9_1).f3).length : Int) (wrap64 (x33_3 + 1)) ((rd_T39 l0 x9_1).f0) ((rd_T39 l0 x9_1).f1) ((rd_T39 l0 x9_1).f2) ((rd_T39 l0 x9_1).f3))) else (none)) else (none)) = some r := by first | (rw [hji24] at H; exact H) | (simp only [hji24] at H ⊢; exact H)
               (try rw [hji24] at A21)
               have hji24w : (IntKind.i64.wrap (x33_3 - 1)) = ji24 := (i64_w _).trans hji24
               by_cases c25 : 0 ≤ (ji24)
               ·rw [if_pos c25] at H
                have c25b0 : decide (0 ≤ (ji24)) = true := decide_eq_true c25
                clear c25
                by_cases c26 : (ji24) < (((rd_T39 l0 x9_1).f3).length : Int)
                ·rw [if_pos c26] at H
                 have c26b0 : decide ((ji24) < (((rd_T39 l0 x9_1).f3).length : Int)) = true := decide_eq_true c26
                 clear c26
                 by_cases c27 : (rd ((rd_T39 l0 x9_1).f3) (ji24)) ≥ (rd ((rd_T39 l0 x9_1).f3) x33_3)
                 ·rw [if_pos c27] at H
                  have c27b0 : decide ((rd ((rd_T39 l0 x9_1).f3) x33_3) ≤ (rd ((rd_T39 l0 x9_1).f3) (ji24))) = true := decide_eq_true c27
                  clear c27
                  obtain rfl := Option.some.inj H
                  have p214 : 0 ≤ (x33_3 : Int) := of_decide_eq_true (by assumption)
                  have q214 : x33_3 < (((rd_T39 l0 x9_1).f3).length : Int) := of_decide_eq_true (by assumption)
                  obtain ⟨ad214, e214, hx214_0⟩ := Kd.at_int HR209_3.out x33_3 p214 q214
                  cases e214
                  replace hx214_0 := cel HB.out hx214_0
                  replace p214 := eq_true p214
                  replace q214 := eq_true q214
                  go_wp2_with (first | ((with_reducible refine gate_callee (f := 33) rfl ?_); refine goesL_ (some 41) rfl rfl Try.func33 (by kernel_rfl) rfl #[.int .i64 (rd ((rd_T39 l0 x9_1).f3) x33_3), .int .i64 0, .int .i64 (wrap64 (x9_1 - 1))] rfl (by (try simp only [List.map_toArray, List.map_cons, List.map_nil]); first | done | rfl | (simp only [List.length_drop, List.length_take]; rfl)) ?_; (with_reducible refine (impl_within.calls (rd ((rd_T39 l0 x9_1).f3) x33_3) 0 (wrap64 (x9_1 - 1)) true _ A21.out).mono ?_); rintro e w' ⟨rfl, ⟨nd, rfl⟩⟩; refine ⟨_, rfl, ?_⟩; have hcz28_0 : wr.cell? ⟨gb210, 0, none⟩ = some (.int .i64 ((rd_T39 l0 x9_1).f0)) := (blk_cell BK210.out 0).trans rfl; have hcz28_1 : wr.cell? ⟨gb210, 1, none⟩ = some (.int .i64 ((rd_T39 l0 x9_1).f1)) := (blk_cell BK210.out 1).trans rfl; have hcz28_2 : wr.cell? ⟨gb210, 2, none⟩ = some (.int .i64 ((rd_T39 l0 x9_1).f2)) := (blk_cell BK210.out 2).trans rfl; have hcz28_3 : wr.cell? ⟨gb210, 3, none⟩ = some (.slice (some ad214) ((rd_T39 l0 x9_1).f3).length c209_3) := (blk_cell BK210.out 3).trans rfl; have hfz28_0 := blk_frozen BK210.out 0; have hfz28_1 := blk_frozen BK210.out 1; have hfz28_2 := blk_frozen BK210.out 2; have hfz28_3 := blk_frozen BK210.out 3; have p216 : 0 ≤ ((ji24) : Int) := of_decide_eq_true (by assumption); have q216 : (ji24) < (((rd_T39 l0 x9_1).f3).length : Int) := of_decide_eq_true (by assumption); obtain ⟨ad216, e216, hx216_0⟩ := Kd.at_int HR209_3.out (ji24) p216 q216; obtain rfl : ad214 = ad216 := (by injection e216); replace hx216_0 := cel HB.out hx216_0; replace p216 := eq_true p216; replace q216 := eq_true q216))
                  go_ret
                  exact ⟨by first | rfl | (simp [errW_none, errW_some] <;> rfl) | (simp only [← hji24]; first | rfl | (simp [errW_none, errW_some] <;> rfl)) | (simp [*, errW_none, errW_some] <;> rfl), by repeat (first | (with_reducible first | exact HB.out | apply below_alloc | apply pw_below_drewN | apply below_drew1 | refine below_set ?_ GE210.out) | exact HB.out)⟩
                 rw [if_neg c27] at H
                 have c27b0 : decide ((rd ((rd_T39 l0 x9_1).f3) x33_3) ≤ (rd ((rd_T39 l0 x9_1).f3) (ji24))) = false := decide_eq_false c27
                 clear c27
                 have H' := Aside0.mk H
                 clear H
                 have p214 : 0 ≤ (x33_3 : Int) := of_decide_eq_true (by assumption)
                 have q214 : x33_3 < (((rd_T39 l0 x9_1).f3).length : Int) := of_decide_eq_true (by assumption)
                 obtain ⟨ad214, e214, hx214_0⟩ := Kd.at_int HR209_3.out x33_3 p214 q214
                 cases e214
                 replace hx214_0 := cel HB.out hx214_0
                 replace p214 := eq_true p214
                 replace q214 := eq_true q214
                 go_wp2_with (first | ((with_reducible refine gate_callee (f := 33) rfl ?_); refine goesL_ (some 41) rfl rfl Try.func33 (by kernel_rfl) rfl #[.int .i64 (rd ((rd_T39 l0 x9_1).f3) x33_3), .int .i64 0, .int .i64 (wrap64 (x9_1 - 1))] rfl (by (try simp only [List.map_toArray, List.map_cons, List.map_nil]); first | done | rfl | (simp only [List.length_drop, List.length_take]; rfl)) ?_; (with_reducible refine (impl_within.calls (rd ((rd_T39 l0 x9_1).f3) x33_3) 0 (wrap64 (x9_1 - 1)) true _ A21.out).mono ?_); rintro e w' ⟨rfl, ⟨nd, rfl⟩⟩; refine ⟨_, rfl, ?_⟩; have hcz29_0 : wr.cell? ⟨gb210, 0, none⟩ = some (.int .i64 ((rd_T39 l0 x9_1).f0)) := (blk_cell BK210.out 0).trans rfl; have hcz29_1 : wr.cell? ⟨gb210, 1, none⟩ = some (.int .i64 ((rd_T39 l0 x9_1).f1)) := (blk_cell BK210.out 1).trans rfl; have hcz29_2 : wr.cell? ⟨gb210, 2, none⟩ = some (.int .i64 ((rd_T39 l0 x9_1).f2)) := (blk_cell BK210.out 2).trans rfl; have hcz29_3 : wr.cell? ⟨gb210, 3, none⟩ = some (.slice (some ad214) ((rd_T39 l0 x9_1).f3).length c209_3) := (blk_cell BK210.out 3).trans rfl; have hfz29_0 := blk_frozen BK210.out 0; have hfz29_1 := blk_frozen BK210.out 1; have hfz29_2 := blk_frozen BK210.out 2; have hfz29_3 := blk_frozen BK210.out 3; have p216 : 0 ≤ ((ji24) : Int) := of_decide_eq_true (by assumption); have q216 : (ji24) < (((rd_T39 l0 x9_1).f3).length : Int) := of_decide_eq_true (by assumption); obtain ⟨ad216, e216, hx216_0⟩ := Kd.at_int HR209_3.out (ji24) p216 q216; obtain rfl : ad214 = ad216 := (by injection e216); replace hx216_0 := cel HB.out hx216_0; replace p216 := eq_true p216; replace q216 := eq_true q216))
                 go_roundg k3
                 case measure => have := HK1.out; have := HJ4.out; have := HK3.out; omega
                 case rel => exact ⟨(wrap64 (x33_3 + 1)), (by first | rfl | (simp; done) | (simp [*]; done)), H', ⟨by have := HK1.out; have := HJ4.out; have := HK3.out; omega⟩, ⟨by (with_reducible repeat (first | refine blk_drewN ?_ _ | refine blk_drew ?_ | refine blk_alloc ?_ _)); exact BK210.out⟩, ⟨by repeat (first | (with_reducible first | exact HB.out | apply below_alloc | apply pw_below_drewN | apply below_drew1 | refine below_set ?_ GE210.out) | exact HB.out)⟩⟩
                rw [if_neg c26] at H
                exact absurd H (by simp)
               rw [if_neg c25] at H
               exact absurd H (by simp)
              rw [if_neg c23] at H
              have c23b0 : decide (0 < x33_3) = false := decide_eq_false c23
              clear c23
              have H' := Aside0.mk H
              clear H
              have p214 : 0 ≤ (x33_3 : Int) := of_decide_eq_true (by assumption)
              have q214 : x33_3 < (((rd_T39 l0 x9_1).f3).length : Int) := of_decide_eq_true (by assumption)
              obtain ⟨ad214, e214, hx214_0⟩ := Kd.at_int HR209_3.out x33_3 p214 q214
              cases e214
              replace hx214_0 := cel HB.out hx214_0
              replace p214 := eq_true p214
              replace q214 := eq_true q214
              go_wp2_with (first | ((with_reducible refine gate_callee (f := 33) rfl ?_); refine goesL_ (some 41) rfl rfl Try.func33 (by kernel_rfl) rfl #[.int .i64 (rd ((rd_T39 l0 x9_1).f3) x33_3), .int .i64 0, .int .i64 (wrap64 (x9_1 - 1))] rfl (by (try simp only [List.map_toArray, List.map_cons, List.map_nil]); first | done | rfl | (simp only [List.length_drop, List.length_take]; rfl)) ?_; (with_reducible refine (impl_within.calls (rd ((rd_T39 l0 x9_1).f3) x33_3) 0 (wrap64 (x9_1 - 1)) true _ A21.out).mono ?_); rintro e w' ⟨rfl, ⟨nd, rfl⟩⟩; refine ⟨_, rfl, ?_⟩))
              go_roundg k3
              case measure => have := HK1.out; have := HJ4.out; have := HK3.out; omega
              case rel => exact ⟨(wrap64 (x33_3 + 1)), (by first | rfl | (simp; done) | (simp [*]; done)), H', ⟨by have := HK1.out; have := HJ4.out; have := HK3.out; omega⟩, ⟨by (with_reducible repeat (first | refine blk_drewN ?_ _ | refine blk_drew ?_ | refine blk_alloc ?_ _)); exact BK210.out⟩, ⟨by repeat (first | (with_reducible first | exact HB.out | apply below_alloc | apply pw_below_drewN | apply below_drew1 | refine below_set ?_ GE210.out) | exact HB.out)⟩⟩
             replace c22 := Bool.eq_false_iff.mpr c22
             subst c22
             have H1 : (some false) = some r := by rw [if_neg (show ¬ (false = true) by decide)] at H; exact H
             clear H
             have H := H1
             clear H1
             obtain rfl := Option.some.inj H
             have p214 : 0 ≤ (x33_3 : Int) := of_decide_eq_true (by assumption)
             have q214 : x33_3 < (((rd_T39 l0 x9_1).f3).length : Int) := of_decide_eq_true (by assumption)
             obtain ⟨ad214, e214, hx214_0⟩ := Kd.at_int HR209_3.out x33_3 p214 q214
             cases e214
             replace hx214_0 := cel HB.out hx214_0
             replace p214 := eq_true p214
             replace q214 := eq_true q214
             go_wp2_with (first | ((with_reducible refine gate_callee (f := 33) rfl ?_); refine goesL_ (some 41) rfl rfl Try.func33 (by kernel_rfl) rfl #[.int .i64 (rd ((rd_T39 l0 x9_1).f3) x33_3), .int .i64 0, .int .i64 (wrap64 (x9_1 - 1))] rfl (by (try simp only [List.map_toArray, List.map_cons, List.map_nil]); first | done | rfl | (simp only [List.length_drop, List.length_take]; rfl)) ?_; (with_reducible refine (impl_within.calls (rd ((rd_T39 l0 x9_1).f3) x33_3) 0 (wrap64 (x9_1 - 1)) false _ A21.out).mono ?_); rintro e w' ⟨rfl, ⟨nd, rfl⟩⟩; refine ⟨_, rfl, ?_⟩))
             go_ret
             exact ⟨by first | rfl | (simp [errW_none, errW_some] <;> rfl) | (simp [*, errW_none, errW_some] <;> rfl), by repeat (first | (with_reducible first | exact HB.out | apply below_alloc | apply pw_below_drewN | apply below_drew1 | refine below_set ?_ GE210.out) | exact HB.out)⟩
            rw [if_neg c20] at H
            exact absurd H (by simp)
           rw [if_neg c19] at H
           exact absurd H (by simp)
          rw [if_neg c18] at H
          have c18b0 : decide (x33_3 < (((rd_T39 l0 x9_1).f3).length : Int)) = false := decide_eq_false c18
          clear c18
          have H' := Aside0.mk H
          clear H
          go_wp2
          go_roundg k3
          case measure => have := HK1.out; have := HJ4.out; have := HK3.out; omega
          case rel => exact ⟨(wrap64 (x9_1 + 1)), (by first | rfl | (simp; done) | (simp [*]; done)), H', ⟨by have := HK1.out; have := HJ4.out; have := HK3.out; omega⟩, ⟨by repeat (first | (with_reducible first | exact HB.out | apply below_alloc | apply pw_below_drewN | apply below_drew1 | refine below_set ?_ GE210.out) | exact HB.out)⟩⟩
     rw [if_neg c4] at H
     exact absurd H (by simp)
    rw [if_neg c3] at H
    exact absurd H (by simp)
   rw [if_neg c2] at H
   have c2b0 : decide (x9_1 < (l0.length : Int)) = false := decide_eq_false c2
   clear c2
   obtain rfl := Option.some.inj H
   go_wp2
   go_ret
   exact ⟨by first | rfl | (simp [errW_none, errW_some] <;> rfl) | (simp [*, errW_none, errW_some] <;> rfl), bel HB.out⟩

-- NOT PRINTED: function 41 (slices_IndexFunc_int_int)

-- NOT PRINTED: function 34 (slices_ContainsFunc_int_int)

end Go.Proofs.Ytcglfapodhcfeaa.PPm
