import Derived.Test.YtjnagefogjkbbaaVbPPlx0
import Derived.Test.YtjnagefogjkbbaaVbPPlx7
import Derived.Test.YtjnagefogjkbbaaVbPPlx9
import Derived.Test.YtjnagefogjkbbaaVbPPlx13
import Derived.Test.YtjnagefogjkbbaaVbPPlx14
namespace Go.Proofs.Ytjnagefogjkbbaa.PPl
open Go.RowKit Go.Proofs.YtjnagefogjkbbaaW.PrintWords Go.Proofs.YtjnagefogjkbbaaW.PrintLast Go.Proofs.YtjnagefogjkbbaaW.PrintMore
attribute [local go_sem] max2_int min2_int max_two min_two max_three min_three max_four min_four
set_option linter.unusedVariables false
set_option linter.unusedSimpArgs false

mutual
def spec_OutageRepair.j0 : Nat → List (S59) → List Int → List Int → Bool → Int → List Int → Int → Int → Int → Option (List Int × Bool)
 | 0, _, _, _, _, _, _, _, _, _ => none
 | k + 1, x0, x2, x10, x23, x425000, x425001, x426000, x426001, x426002 => if x23 = true then (some (x10, false)) else (spec_OutageRepair.l0 k x0 x2 x10 0 x425000 x425001 x426000 x426001 x426002)
def spec_OutageRepair.l0 : Nat → List (S59) → List Int → List Int → Int → Int → List Int → Int → Int → Int → Option (List Int × Bool)
 | 0, _, _, _, _, _, _, _, _, _ => none
 | k + 1, x0, x2, x10, x11, x425000, x425001, x426000, x426001, x426002 => if x11 < (x0.length : Int) then (if 0 ≤ x11 then (if x11 < (x2.length : Int) then ((spec_l32After.f k x0 x10 x11).bind fun t432 => (spec_OutageRepair.l1 k x0 x2 x10 x11 (mx (rd x2 x11) t432) x425000 x425001 x426000 x426001 x426002)) else (none)) else (none)) else (some (x10, true))
def spec_OutageRepair.l1 : Nat → List (S59) → List Int → List Int → Int → Int → Int → List Int → Int → Int → Int → Option (List Int × Bool)
 | 0, _, _, _, _, _, _, _, _, _, _ => none
 | k + 1, x0, x2, x10, x11, x12, x425000, x425001, x426000, x426001, x426002 => if 0 ≤ x11 then (if x11 < (x0.length : Int) then ((spec_l33Hit.f ((rd_T59 x0 x11).f0) ((rd_T59 x0 x11).f1) ((rd_T59 x0 x11).f2) ((rd_T59 x0 x11).f3) x12 x426000 x426001 x426002).bind fun t434 => (if t434 = true then (spec_OutageRepair.l1 k x0 x2 x10 x11 (wrap64 (x12 + 1)) x425000 x425001 x426000 x426001 x426002) else ((some (([] : List Int) : List Int)).bind fun y435 => (if y435.length + x10.length < 17592186044416 then ((some (y435 ++ x10 : List Int)).bind fun y438 => ((some (([x12] : List Int) : List Int)).bind fun y441 => (if y438.length + y441.length < 17592186044416 then ((spec_l32Room.f k x0 x425000 x425001 (y438 ++ y441)).bind fun t447 => (if t447 = true then (if x12 > 999 then (some ((([] : List Int)), false)) else ((some (([x12] : List Int) : List Int)).bind fun y451 => (if x10.length + y451.length < 17592186044416 then (spec_OutageRepair.l0 k x0 x2 (x10 ++ y451) (wrap64 (x11 + 1)) x425000 x425001 x426000 x426001 x426002) else (none)))) else (spec_OutageRepair.l1 k x0 x2 x10 x11 (wrap64 (x12 + 1)) x425000 x425001 x426000 x426001 x426002))) else (none)))) else (none))))) else (none)) else (none)
end
def spec_OutageRepair.f (k : Nat) (l0 : List (S59)) (a1_0 : Int) (l1_1 : List Int) (l2 : List Int) (a3_0 : Int) (a3_1 : Int) (a3_2 : Int) : Option (List Int × Bool) := (some (([] : List Int) : List Int)).bind fun y426 => ((spec_PlanValid.f k l0 a1_0 l1_1 l2).bind fun t429 => (if t429 = true then ((spec_l33Outage.f a3_0 a3_1 a3_2).bind fun t430 => (spec_OutageRepair.j0 k l0 l2 y426 (!t430) a1_0 l1_1 a3_0 a3_1 a3_2)) else (spec_OutageRepair.j0 k l0 l2 y426 true a1_0 l1_1 a3_0 a3_1 a3_2)))
theorem spec_OutageRepair.mono_l : ∀ k, (∀ y0 y1 y2 y3 y4 y5 y6 y7 y8, LeO (spec_OutageRepair.j0 k y0 y1 y2 y3 y4 y5 y6 y7 y8) (spec_OutageRepair.j0 (k + 1) y0 y1 y2 y3 y4 y5 y6 y7 y8)) ∧ (∀ y0 y1 y2 y3 y4 y5 y6 y7 y8, LeO (spec_OutageRepair.l0 k y0 y1 y2 y3 y4 y5 y6 y7 y8) (spec_OutageRepair.l0 (k + 1) y0 y1 y2 y3 y4 y5 y6 y7 y8)) ∧ (∀ y0 y1 y2 y3 y4 y5 y6 y7 y8 y9, LeO (spec_OutageRepair.l1 k y0 y1 y2 y3 y4 y5 y6 y7 y8 y9) (spec_OutageRepair.l1 (k + 1) y0 y1 y2 y3 y4 y5 y6 y7 y8 y9))
 | 0 => ⟨fun _ _ _ _ _ _ _ _ _ r h => by simp [spec_OutageRepair.j0] at h, fun _ _ _ _ _ _ _ _ _ r h => by simp [spec_OutageRepair.l0] at h, fun _ _ _ _ _ _ _ _ _ _ r h => by simp [spec_OutageRepair.l1] at h⟩
 | k + 1 => by
  obtain ⟨ih0, ih1, ih2⟩ := spec_OutageRepair.mono_l k
  refine ⟨?_, ?_, ?_⟩
  ·intro y0 y1 y2 y3 y4 y5 y6 y7 y8
   unfold spec_OutageRepair.j0
   repeat' first
   | (with_reducible exact ih0 _ _ _ _ _ _ _ _ _)
   | (with_reducible exact ih1 _ _ _ _ _ _ _ _ _)
   | (with_reducible exact ih2 _ _ _ _ _ _ _ _ _ _)
   | (with_reducible exact spec_PlanValid.mono _ _ _ _ _)
   | (with_reducible exact spec_l32After.mono _ _ _ _)
   | (with_reducible exact spec_l32Room.mono _ _ _ _ _)
   | (with_reducible exact lR_q _)
   | (with_reducible exact lO_q _)
   | (with_reducible refine lI_q ?_ ?_)
   | (with_reducible refine lB_q ?_ (fun _ => ?_))
   | exact ih0 _ _ _ _ _ _ _ _ _
   | exact ih1 _ _ _ _ _ _ _ _ _
   | exact ih2 _ _ _ _ _ _ _ _ _ _
   | exact spec_PlanValid.mono _ _ _ _ _
   | exact spec_l32After.mono _ _ _ _
   | exact spec_l32Room.mono _ _ _ _ _
   | exact lO_q _
   | refine lI_q ?_ ?_
   | refine lB_q ?_ (fun _ => ?_)
  ·intro y0 y1 y2 y3 y4 y5 y6 y7 y8
   unfold spec_OutageRepair.l0
   repeat' first
   | (with_reducible exact ih0 _ _ _ _ _ _ _ _ _)
   | (with_reducible exact ih1 _ _ _ _ _ _ _ _ _)
   | (with_reducible exact ih2 _ _ _ _ _ _ _ _ _ _)
   | (with_reducible exact spec_PlanValid.mono _ _ _ _ _)
   | (with_reducible exact spec_l32After.mono _ _ _ _)
   | (with_reducible exact spec_l32Room.mono _ _ _ _ _)
   | (with_reducible exact lR_q _)
   | (with_reducible exact lO_q _)
   | (with_reducible refine lI_q ?_ ?_)
   | (with_reducible refine lB_q ?_ (fun _ => ?_))
   | exact ih0 _ _ _ _ _ _ _ _ _
   | exact ih1 _ _ _ _ _ _ _ _ _
   | exact ih2 _ _ _ _ _ _ _ _ _ _
   | exact spec_PlanValid.mono _ _ _ _ _
   | exact spec_l32After.mono _ _ _ _
   | exact spec_l32Room.mono _ _ _ _ _
   | exact lO_q _
   | refine lI_q ?_ ?_
   | refine lB_q ?_ (fun _ => ?_)
  intro y0 y1 y2 y3 y4 y5 y6 y7 y8 y9
  unfold spec_OutageRepair.l1
  repeat' first
  | (with_reducible exact ih0 _ _ _ _ _ _ _ _ _)
  | (with_reducible exact ih1 _ _ _ _ _ _ _ _ _)
  | (with_reducible exact ih2 _ _ _ _ _ _ _ _ _ _)
  | (with_reducible exact spec_PlanValid.mono _ _ _ _ _)
  | (with_reducible exact spec_l32After.mono _ _ _ _)
  | (with_reducible exact spec_l32Room.mono _ _ _ _ _)
  | (with_reducible exact lR_q _)
  | (with_reducible exact lO_q _)
  | (with_reducible refine lI_q ?_ ?_)
  | (with_reducible refine lB_q ?_ (fun _ => ?_))
  | exact ih0 _ _ _ _ _ _ _ _ _
  | exact ih1 _ _ _ _ _ _ _ _ _
  | exact ih2 _ _ _ _ _ _ _ _ _ _
  | exact spec_PlanValid.mono _ _ _ _ _
  | exact spec_l32After.mono _ _ _ _
  | exact spec_l32Room.mono _ _ _ _ _
  | exact lO_q _
  | refine lI_q ?_ ?_
  | refine lB_q ?_ (fun _ => ?_)
theorem spec_OutageRepair.mono : ∀ a0 a1 a2 a3 a4 a5 a6 k, LeO (spec_OutageRepair.f k a0 a1 a2 a3 a4 a5 a6) (spec_OutageRepair.f (k + 1) a0 a1 a2 a3 a4 a5 a6) := by
 intro a0 a1 a2 a3 a4 a5 a6 k
 obtain ⟨ih0, ih1, ih2⟩ := spec_OutageRepair.mono_l k
 unfold spec_OutageRepair.f
 repeat' first
  | (with_reducible exact ih0 _ _ _ _ _ _ _ _ _)
  | (with_reducible exact ih1 _ _ _ _ _ _ _ _ _)
  | (with_reducible exact ih2 _ _ _ _ _ _ _ _ _ _)
  | (with_reducible exact spec_PlanValid.mono _ _ _ _ _)
  | (with_reducible exact spec_l32After.mono _ _ _ _)
  | (with_reducible exact spec_l32Room.mono _ _ _ _ _)
  | (with_reducible exact lR_q _)
  | (with_reducible exact lO_q _)
  | (with_reducible refine lI_q ?_ ?_)
  | (with_reducible refine lB_q ?_ (fun _ => ?_))
  | exact ih0 _ _ _ _ _ _ _ _ _
  | exact ih1 _ _ _ _ _ _ _ _ _
  | exact ih2 _ _ _ _ _ _ _ _ _ _
  | exact spec_PlanValid.mono _ _ _ _ _
  | exact spec_l32After.mono _ _ _ _
  | exact spec_l32Room.mono _ _ _ _ _
  | exact lO_q _
  | refine lI_q ?_ ?_
  | refine lB_q ?_ (fun _ => ?_)
def spec_OutageRepair.T7 : Bool × List (List Nat × List Nat) := (true, [([], []), ([], []), ([0, 1], [0, 1]), ([2], [2]), ([], []), ([], []), ([], []), ([4, 5, 6], [4, 5, 6]), ([3, 7], [3, 7]), ([8, 7, 0, 1, 2, 3, 4, 5, 6, 7, 8], [8])])
def spec_OutageRepair.B7 : List Nat := [0, 0, 3, 7, 0, 0, 0, 112, 255, 511]
theorem spec_OutageRepair.tab7 : rtab .any (opsOf Try.f23 7) = spec_OutageRepair.T7 := by kernel_rfl
theorem spec_OutageRepair.bits7 : waitsOk spec_OutageRepair.T7.2 spec_OutageRepair.B7 = true := by kernel_rfl
def spec_OutageRepair.T8 : Bool × List (List Nat × List Nat) := (true, [([], []), ([], []), ([0, 1], [0, 1]), ([2], [2]), ([], []), ([], []), ([3, 4, 5], [3, 4, 5]), ([6, 6], [6]), ([7], [7]), ([7], [7]), ([7], [7]), ([7], [7]), ([10, 11, 7, 7], [7, 10, 11]), ([7], [7]), ([13, 7], [7, 13]), ([12, 14, 12, 7], [7, 12, 14]), ([8, 9, 15, 15, 7], [7, 8, 9, 15]), ([16, 7], [7, 16]), ([7, 17], [7, 17])])
def spec_OutageRepair.B8 : List Nat := [0, 0, 3, 7, 0, 0, 63, 127, 255, 255, 255, 255, 3327, 255, 8447, 31999, 65535, 131071, 262143]
theorem spec_OutageRepair.tab8 : rtab .any (opsOf Try.f23 8) = spec_OutageRepair.T8 := by kernel_rfl
theorem spec_OutageRepair.bits8 : waitsOk spec_OutageRepair.T8.2 spec_OutageRepair.B8 = true := by kernel_rfl
set_option maxHeartbeats 8000000 in
set_option maxRecDepth 100000 in
theorem spec_OutageRepair.calls (k : Nat) (A0 : Option Addr) (c0 : Nat) (l0 : List (S59)) (a1_0 : Int) (A1_1 : Option Addr) (c1_1 : Nat) (l1_1 : List Int) (A2 : Option Addr) (c2 : Nat) (l2 : List Int) (a3_0 : Int) (a3_1 : Int) (a3_2 : Int) (r1 : List Int) (r2 : Bool) (w : World) (hr0 : Kd.C k59 w A0 l0.length l0) (hc0 : l0.length ≤ c0) (hr1_1 : Kd.C kI_q w A1_1 l1_1.length l1_1) (hc1_1 : l1_1.length ≤ c1_1) (hr2 : Kd.C kI_q w A2 l2.length l2) (hc2 : l2.length ≤ c2) (h : spec_OutageRepair.f k l0 a1_0 l1_1 l2 a3_0 a3_1 a3_2 = some (r1, r2)) :
    Calls Try.prog 23 #[.slice A0 l0.length c0, .agg #[.int .i64 a1_0, .slice A1_1 l1_1.length c1_1], .slice A2 l2.length c2, .agg #[.int .i64 a3_0, .int .i64 a3_1, .int .i64 a3_2]] w fun e w' => ∃ v0_ : Value, e = .returned (.tuple #[v0_, .bool r2]) ∧ Kd.R kI_q 3 w' w.heap.size (fun _ => True) v0_ r1 ∧ Below w.heap.size w w' := by
 have hu39 := Try.underlying39
 have hu45 := Try.underlying45
 have hu59 := Try.underlying59
 have HR0 := Ae_q hr0
 have HC0 := Ae_q hc0
 clear hr0 hc0
 have HR1_1 := Ae_q hr1_1
 have HC1_1 := Ae_q hc1_1
 clear hr1_1 hc1_1
 have HR2 := Ae_q hr2
 have HC2 := Ae_q hc2
 clear hr2 hc2
 have HB := Ae_q (bR_q w.heap.size w)
 have H : ((some (([] : List Int) : List Int)).bind fun y426 => ((spec_PlanValid.f k l0 a1_0 l1_1 l2).bind fun t429 => (if t429 = true then ((spec_l33Outage.f a3_0 a3_1 a3_2).bind fun t430 => (spec_OutageRepair.j0 k l0 l2 y426 (!t430) a1_0 l1_1 a3_0 a3_1 a3_2)) else (spec_OutageRepair.j0 k l0 l2 y426 true a1_0 l1_1 a3_0 a3_1 a3_2)))) = some (r1, r2) := h
 clear h
 obtain ⟨y426, hy426⟩ : ∃ y_ : List Int, y_ = (([] : List Int)) := ⟨_, rfl⟩
 replace H : ((spec_PlanValid.f k l0 a1_0 l1_1 l2).bind fun t429 => (if t429 = true then ((spec_l33Outage.f a3_0 a3_1 a3_2).bind fun t430 => (spec_OutageRepair.j0 k l0 l2 y426 (!t430) a1_0 l1_1 a3_0 a3_1 a3_2)) else (spec_OutageRepair.j0 k l0 l2 y426 true a1_0 l1_1 a3_0 a3_1 a3_2))) = some (r1, r2) := by first | (rw [hy426]; with_reducible exact H) | (have H2_ := (oS_q _ _).symm.trans H; rw [hy426]; with_reducible exact H2_) | (have H2_ := (oS_q _ _).symm.trans H; with_reducible exact H2_) | with_reducible exact H | (rw [hy426]; exact H) | exact H
 have Ny426 := Ae_q hy426
 clear hy426
 have HC5 := Ae_q H
 clear H
 go_enter Try.func23, Try.ntmps23
 go_upto_region 2 with (first | ((with_reducible refine gD_q (N := 5) rfl ?_); (try (refine gate_guard (by rfl) ?_; dsimp only)); refine bE_q ?hg (N := 5) ?hd (cs := #[.int .i64 a1_0, .slice A1_1 l1_1.length c1_1]) (t := 39) ?hr ?_; (case hd => rfl); (case hg => rfl); (case hr => first | (go_simp; done) | (go_simp; rfl)); intro gb424 hg w6 hbox hb; have n0_ := Ae_q (bT_q (bel HB.out) hb); have n1_ := Ae_q (hbox); have n2_ := Ae_q ((by rw [hg]; exact (bZ_q (bel HB.out)) : w.heap.size ≤ gb424)); have n3_ := Ae_q ((by rw [hg]; exact (bZ_q (bel HB.out)) : w.heap.size ≤ gb424)); clear HB; have HB := n0_; have BK424 := n1_; have GW424 := n2_; have GE424 := n3_; clear n0_ n1_ n2_ n3_; clear hb hbox hg) | ((with_reducible refine gD_q (N := 7) rfl ?_); (try (refine gate_guard (by rfl) ?_; dsimp only)); refine bE_q ?hg (N := 7) ?hd (cs := #[.int .i64 a3_0, .int .i64 a3_1, .int .i64 a3_2]) (t := 45) ?hr ?_; (case hd => rfl); (case hg => rfl); (case hr => first | (go_simp; done) | (go_simp; rfl)); intro gb425 hg w7 hbox hb; have n0_ := Ae_q (bB_q (g := gb424) (o := .cells #[.int .i64 a1_0, .slice A1_1 l1_1.length c1_1] 39 (0, 0)) (bup BK424.out) hb); have n1_ := Ae_q (bT_q (by repeat (with_reducible first | exact HB.out | apply bA_q | apply pB_q | apply bD_q | refine bS_q ?_ GE424.out)) hb); have n2_ := Ae_q (hbox); have n3_ := Ae_q ((by rw [hg]; exact (bZ_q (by repeat (with_reducible first | exact HB.out | apply bA_q | apply pB_q | apply bD_q | refine bS_q ?_ GE424.out))) : w.heap.size ≤ gb425)); have n4_ := Ae_q ((by rw [hg]; exact (bZ_q (by repeat (with_reducible first | exact HB.out | apply bA_q | apply pB_q | apply bD_q | refine bS_q ?_ GE424.out))) : w.heap.size ≤ gb425)); have n5_ := Ae_q ((by rw [hg]; exact nL_q (blk_lt (g := gb424) (o := .cells #[.int .i64 a1_0, .slice A1_1 l1_1.length c1_1] 39 (0, 0)) (bup BK424.out)) : gb424 ≠ gb425)); have n6_ := Ae_q ((by rw [hg]; exact nG_q (blk_lt (g := gb424) (o := .cells #[.int .i64 a1_0, .slice A1_1 l1_1.length c1_1] 39 (0, 0)) (bup BK424.out)) : gb425 ≠ gb424)); clear BK424; clear HB; have BK424 := n0_; have HB := n1_; have BK425 := n2_; have GW425 := n3_; have GE425 := n4_; have NB424_425 := n5_; have NB425_424 := n6_; clear n0_ n1_ n2_ n3_ n4_ n5_ n6_; clear hb hbox hg) | ((with_reducible refine gD_q (N := 13) rfl ?_); (try (refine gate_guard (by rfl) ?_; dsimp only)); refine Kd.R_lit kI_q _ 3 ?hg (N := 13) ?hd (xs := ([] : List Int)) (inner := []) (ok := fun _ => True) (okp := fun _ => True) ?hr ?hp (fun _ hk => hk) trivial (bR_q _ _) (nR_q _) (by simp) ?_; (case hd => rfl); (case hg => rfl); (case hr => first | (go_simp; done) | (go_simp; rfl)); (case hp => exact (Reps.none _ _)); intro v427 w8 ho9 hb hg_ hnew_; clear hg_ hnew_; (first | rw [← Ny426.out] at ho9 | (simp only [Int.reduceToNat] at ho9; rw [← Ny426.out] at ho9)); have n0_ := Ae_q (rL_q ho9 (bZ_q (by repeat (with_reducible first | exact HB.out | apply bA_q | apply pB_q | apply bD_q | refine bS_q ?_ GE424.out | refine bS_q ?_ GE425.out)))); have n1_ := Ae_q (bB_q (g := gb424) (o := .cells #[.int .i64 a1_0, .slice A1_1 l1_1.length c1_1] 39 (0, 0)) (bup BK424.out) hb); have n2_ := Ae_q (bB_q (g := gb425) (o := .cells #[.int .i64 a3_0, .int .i64 a3_1, .int .i64 a3_2] 45 (0, 0)) (bup BK425.out) hb); have n3_ := Ae_q (bT_q (by repeat (with_reducible first | exact HB.out | apply bA_q | apply pB_q | apply bD_q | refine bS_q ?_ GE424.out | refine bS_q ?_ GE425.out)) hb); clear BK424; clear BK425; clear HB; have HO428 := n0_; have BK424 := n1_; have BK425 := n2_; have HB := n3_; clear n0_ n1_ n2_ n3_; clear hb ho9))
 (try simp only [Act.put, sA_q, sZ_q, sS_q])
 go_cut [23] (fun v23 wc => ∃ (kq : Nat) (x23_4 : Bool), v23 = .bool x23_4 ∧ Aside0 (spec_OutageRepair.j0 kq l0 l2 y426 x23_4 a1_0 l1_1 a3_0 a3_1 a3_2 = some (r1, r2)) ∧ Aside0 (kq ≤ k) ∧ Aside0 (Kd.R kI_q 3 wc w.heap.size (fun _ => True) v427 y426) ∧ Aside0 (wc.heap[gb424]? = some (.cells #[.int .i64 a1_0, (.slice A1_1 l1_1.length c1_1)] 39 (0, 0))) ∧ Aside0 (wc.heap[gb425]? = some (.cells #[.int .i64 a3_0, .int .i64 a3_1, .int .i64 a3_2] 45 (0, 0))) ∧ Aside0 (Below w.heap.size w wc))
 case first =>
  have H := HC5.out
  clear HC5
  replace H := oB_q.mp H
  obtain ⟨t429, A100, H⟩ := H
  replace H : (if t429 = true then ((spec_l33Outage.f a3_0 a3_1 a3_2).bind fun t430 => (spec_OutageRepair.j0 k l0 l2 y426 (!t430) a1_0 l1_1 a3_0 a3_1 a3_2)) else (spec_OutageRepair.j0 k l0 l2 y426 true a1_0 l1_1 a3_0 a3_1 a3_2)) = some (r1, r2) := H
  have A10 := Ae_q A100
  clear A100
  by_cases c11 : t429 = true
  ·subst c11
   have H1 : ((spec_l33Outage.f a3_0 a3_1 a3_2).bind fun t430 => (spec_OutageRepair.j0 k l0 l2 y426 (!t430) a1_0 l1_1 a3_0 a3_1 a3_2)) = some (r1, r2) := by rw [if_pos rfl] at H; exact H
   clear H
   have H := H1
   clear H1
   replace H := oB_q.mp H
   obtain ⟨t430, A120, H⟩ := H
   replace H : (spec_OutageRepair.j0 k l0 l2 y426 (!t430) a1_0 l1_1 a3_0 a3_1 a3_2) = some (r1, r2) := H
   have A12 := Ae_q A120
   clear A120
   have H' := Ae_q H
   clear H
   have hnb13 := NB424_425.out
   have hnc13 := NB425_424.out
   have hcz14_0 : w8.cell? ⟨gb424, 0, none⟩ = some (.int .i64 a1_0) := (bC_q BK424.out 0).trans rfl
   have hcz14_1 : w8.cell? ⟨gb424, 1, none⟩ = some (.slice A1_1 l1_1.length c1_1) := (bC_q BK424.out 1).trans rfl
   have hfz14_0 := bF_q BK424.out 0
   have hfz14_1 := bF_q BK424.out 1
   go_wp2_with (first | ((with_reducible refine gC_q (f := 31) rfl ?_); refine gL_q (some 17) rfl rfl Try.func31 (by kernel_rfl) rfl #[.slice A0 l0.length c0, .agg #[.int .i64 a1_0, .slice A1_1 l1_1.length c1_1], .slice A2 l2.length c2] rfl (by (try simp only [lM_q, lC_q, lN_q]); first | done | rfl | (simp only [lD_q, lT_q]; rfl)) ?_; (with_reducible refine (spec_PlanValid.calls k _ _ l0 a1_0 _ _ l1_1 _ _ l2 true _ ?side1 ?side2 ?side3 ?side4 ?side5 ?side6 A10.out).mono ?_); (case side1 => exact cup (cB_q HR0.out HB.out)); (case side2 => exact HC0.out); (case side3 => exact cup (cB_q HR1_1.out HB.out)); (case side4 => exact HC1_1.out); (case side5 => exact cup (cB_q HR2.out HB.out)); (case side6 => exact HC2.out); rintro e w15 ⟨rfl, hb⟩; refine ⟨_, rfl, ?_⟩; have n0_ := Ae_q (rO_q (rup HO428.out) hb); have n1_ := Ae_q (bB_q (g := gb424) (o := .cells #[.int .i64 a1_0, .slice A1_1 l1_1.length c1_1] 39 (0, 0)) (bup BK424.out) hb); have n2_ := Ae_q (bB_q (g := gb425) (o := .cells #[.int .i64 a3_0, .int .i64 a3_1, .int .i64 a3_2] 45 (0, 0)) (bup BK425.out) hb); have n3_ := Ae_q (bT_q (by repeat (with_reducible first | exact HB.out | apply bA_q | apply pB_q | apply bD_q | refine bS_q ?_ GE424.out | refine bS_q ?_ GE425.out)) hb); clear HO428; clear BK424; clear BK425; clear HB; have HO428 := n0_; have BK424 := n1_; have BK425 := n2_; have HB := n3_; clear n0_ n1_ n2_ n3_; (try clear hb); (try clear hb2); (try clear hk); (try clear hi); have hcz16_0 : w15.cell? ⟨gb425, 0, none⟩ = some (.int .i64 a3_0) := (bC_q BK425.out 0).trans rfl; have hcz16_1 : w15.cell? ⟨gb425, 1, none⟩ = some (.int .i64 a3_1) := (bC_q BK425.out 1).trans rfl; have hcz16_2 : w15.cell? ⟨gb425, 2, none⟩ = some (.int .i64 a3_2) := (bC_q BK425.out 2).trans rfl; have hfz16_0 := bF_q BK425.out 0; have hfz16_1 := bF_q BK425.out 1; have hfz16_2 := bF_q BK425.out 2) | (go_at_call 32; (with_reducible refine (spec_l33Outage.calls a3_0 a3_1 a3_2 t430 _ A12.out).mono ?_); rintro e w17 ⟨rfl, hb⟩; have n0_ := Ae_q (rO_q (rup HO428.out) hb); have n1_ := Ae_q (bB_q (g := gb424) (o := .cells #[.int .i64 a1_0, .slice A1_1 l1_1.length c1_1] 39 (0, 0)) (bup BK424.out) hb); have n2_ := Ae_q (bB_q (g := gb425) (o := .cells #[.int .i64 a3_0, .int .i64 a3_1, .int .i64 a3_2] 45 (0, 0)) (bup BK425.out) hb); have n3_ := Ae_q (bT_q (by repeat (with_reducible first | exact HB.out | apply bA_q | apply pB_q | apply bD_q | refine bS_q ?_ GE424.out | refine bS_q ?_ GE425.out)) hb); clear HO428; clear BK424; clear BK425; clear HB; have HO428 := n0_; have BK424 := n1_; have BK425 := n2_; have HB := n3_; clear n0_ n1_ n2_ n3_; (try clear hb); (try clear hb2); (try clear hk); (try clear hi)))
   go_meet
   case rel => exact ⟨_, (!t430), (by first | rfl | (simp; done) | (simp [*]; done)), H', ⟨by first | omega | exact nR_q _⟩, ⟨by (with_reducible repeat (first | apply rA_q | apply rN_q | apply rD_q)); exact HO428.out⟩, ⟨by (with_reducible repeat (first | refine bN_q ?_ _ | refine bW_q ?_ | refine bL_q ?_ _)); exact BK424.out⟩, ⟨by (with_reducible repeat (first | refine bN_q ?_ _ | refine bW_q ?_ | refine bL_q ?_ _)); exact BK425.out⟩, ⟨by repeat (with_reducible first | exact HB.out | apply bA_q | apply pB_q | apply bD_q | refine bS_q ?_ GE424.out | refine bS_q ?_ GE425.out)⟩⟩
  replace c11 := fM_q.mpr c11
  subst c11
  have H1 : (spec_OutageRepair.j0 k l0 l2 y426 true a1_0 l1_1 a3_0 a3_1 a3_2) = some (r1, r2) := by rw [if_neg (show ¬ (false = true) by decide)] at H; exact H
  clear H
  have H := H1
  clear H1
  have H' := Ae_q H
  clear H
  have hnb18 := NB424_425.out
  have hnc18 := NB425_424.out
  have hcz19_0 : w8.cell? ⟨gb424, 0, none⟩ = some (.int .i64 a1_0) := (bC_q BK424.out 0).trans rfl
  have hcz19_1 : w8.cell? ⟨gb424, 1, none⟩ = some (.slice A1_1 l1_1.length c1_1) := (bC_q BK424.out 1).trans rfl
  have hfz19_0 := bF_q BK424.out 0
  have hfz19_1 := bF_q BK424.out 1
  go_wp2_with (first | ((with_reducible refine gC_q (f := 31) rfl ?_); refine gL_q (some 17) rfl rfl Try.func31 (by kernel_rfl) rfl #[.slice A0 l0.length c0, .agg #[.int .i64 a1_0, .slice A1_1 l1_1.length c1_1], .slice A2 l2.length c2] rfl (by (try simp only [lM_q, lC_q, lN_q]); first | done | rfl | (simp only [lD_q, lT_q]; rfl)) ?_; (with_reducible refine (spec_PlanValid.calls k _ _ l0 a1_0 _ _ l1_1 _ _ l2 false _ ?side1 ?side2 ?side3 ?side4 ?side5 ?side6 A10.out).mono ?_); (case side1 => exact cup (cB_q HR0.out HB.out)); (case side2 => exact HC0.out); (case side3 => exact cup (cB_q HR1_1.out HB.out)); (case side4 => exact HC1_1.out); (case side5 => exact cup (cB_q HR2.out HB.out)); (case side6 => exact HC2.out); rintro e w20 ⟨rfl, hb⟩; refine ⟨_, rfl, ?_⟩; have n0_ := Ae_q (rO_q (rup HO428.out) hb); have n1_ := Ae_q (bB_q (g := gb424) (o := .cells #[.int .i64 a1_0, .slice A1_1 l1_1.length c1_1] 39 (0, 0)) (bup BK424.out) hb); have n2_ := Ae_q (bB_q (g := gb425) (o := .cells #[.int .i64 a3_0, .int .i64 a3_1, .int .i64 a3_2] 45 (0, 0)) (bup BK425.out) hb); have n3_ := Ae_q (bT_q (by repeat (with_reducible first | exact HB.out | apply bA_q | apply pB_q | apply bD_q | refine bS_q ?_ GE424.out | refine bS_q ?_ GE425.out)) hb); clear HO428; clear BK424; clear BK425; clear HB; have HO428 := n0_; have BK424 := n1_; have BK425 := n2_; have HB := n3_; clear n0_ n1_ n2_ n3_; (try clear hb); (try clear hb2); (try clear hk); (try clear hi)))
  go_meet
  case rel => exact ⟨_, (true), (by first | rfl | (simp; done) | (simp [*]; done)), H', ⟨by first | omega | exact nR_q _⟩, ⟨by (with_reducible repeat (first | apply rA_q | apply rN_q | apply rD_q)); exact HO428.out⟩, ⟨by (with_reducible repeat (first | refine bN_q ?_ _ | refine bW_q ?_ | refine bL_q ?_ _)); exact BK424.out⟩, ⟨by (with_reducible repeat (first | refine bN_q ?_ _ | refine bW_q ?_ | refine bL_q ?_ _)); exact BK425.out⟩, ⟨by repeat (with_reducible first | exact HB.out | apply bA_q | apply pB_q | apply bD_q | refine bS_q ?_ GE424.out | refine bS_q ?_ GE425.out)⟩⟩
 case rest =>
  clear HC5
  try clear c1
  try clear c2
  try clear p2
  try clear c3
  try clear c11
  try clear c13
  try clear c18
  try clear hcz14_0
  try clear hcz14_1
  try clear hcz16_0
  try clear hcz16_1
  try clear hcz16_2
  try clear hcz19_0
  try clear hcz19_1
  try clear hfz14_0
  try clear hfz14_1
  try clear hfz16_0
  try clear hfz16_1
  try clear hfz16_2
  try clear hfz19_0
  try clear hfz19_1
  obtain ⟨kq, x23_4, rfl, HA, HJ4, HO_10, BK424, BK425, HB⟩ := hcut
  cases kq with
  | zero => exact absurd HA.out (by simp [spec_OutageRepair.j0])
  | succ kj4 =>
   have H := HA.out
   clear HA
   simp only [spec_OutageRepair.j0] at H
   by_cases c21 : x23_4 = true
   ·subst c21
    have H1 : (some (y426, false)) = some (r1, r2) := by rw [if_pos rfl] at H; exact H
    clear H
    have H := H1
    clear H1
    simp only [oE_q, pE_q] at H
    obtain ⟨rfl, rfl⟩ := H
    go_wp2
    go_ret2
    exact ⟨_, by first | rfl | (simp [eN_q, eS_q] <;> rfl) | (simp [*, eN_q, eS_q] <;> rfl), by (with_reducible repeat (first | apply rA_q | apply rN_q | apply rD_q)); exact HO_10.out, by repeat (with_reducible first | exact HB.out | apply bA_q | apply pB_q | apply bD_q | refine bS_q ?_ GE424.out | refine bS_q ?_ GE425.out)⟩
   replace c21 := fM_q.mpr c21
   subst c21
   have H1 : (spec_OutageRepair.l0 kj4 l0 l2 y426 0 a1_0 l1_1 a3_0 a3_1 a3_2) = some (r1, r2) := by rw [if_neg (show ¬ (false = true) by decide)] at H; exact H
   clear H
   have H := H1
   clear H1
   have H' := Ae_q H
   clear H
   go_wp2
   go_loopg [10, 11] kj4 (fun kq v10 v11 w' => ∃ (x10_2 : List Int) (x11_2 : Int), v11 = .int .i64 x11_2 ∧ Aside0 (spec_OutageRepair.l0 kq l0 l2 x10_2 x11_2 a1_0 l1_1 a3_0 a3_1 a3_2 = some (r1, r2)) ∧ Aside0 (kq ≤ kj4) ∧ Aside0 (Kd.R kI_q 3 w' w.heap.size (fun _ => True) v10 x10_2) ∧ Aside0 (w'.heap[gb424]? = some (.cells #[.int .i64 a1_0, (.slice A1_1 l1_1.length c1_1)] 39 (0, 0))) ∧ Aside0 (w'.heap[gb425]? = some (.cells #[.int .i64 a3_0, .int .i64 a3_1, .int .i64 a3_2] 45 (0, 0))) ∧ Aside0 (Below w.heap.size w w'))
   case atStart => exact ⟨(y426), (0), (by first | rfl | (simp; done) | (simp [*]; done)), H', ⟨nR_q _⟩, ⟨by (with_reducible repeat (first | apply rA_q | apply rN_q | apply rD_q)); exact HO_10.out⟩, ⟨by (with_reducible repeat (first | refine bN_q ?_ _ | refine bW_q ?_ | refine bL_q ?_ _)); exact BK424.out⟩, ⟨by (with_reducible repeat (first | refine bN_q ?_ _ | refine bW_q ?_ | refine bL_q ?_ _)); exact BK425.out⟩, ⟨by repeat (with_reducible first | exact HB.out | apply bA_q | apply pB_q | apply bD_q | refine bS_q ?_ GE424.out | refine bS_q ?_ GE425.out)⟩⟩
   case round =>
    clear H'
    try clear c1
    try clear c2
    try clear p2
    try clear c3
    try clear c11
    try clear c13
    try clear c18
    try clear c21
    try clear hcz14_0
    try clear hcz14_1
    try clear hcz16_0
    try clear hcz16_1
    try clear hcz16_2
    try clear hcz19_0
    try clear hcz19_1
    try clear hfz14_0
    try clear hfz14_1
    try clear hfz16_0
    try clear hfz16_1
    try clear hfz16_2
    try clear hfz19_0
    try clear hfz19_1
    try clear p2
    obtain ⟨x10_2, x11_2, rfl, HA, HK2, HO_10, BK424, BK425, HB⟩ := hrel
    cases gk with
    | zero => exact absurd HA.out (by simp [spec_OutageRepair.l0])
    | succ k2 =>
     have H := HA.out
     clear HA
     simp only [spec_OutageRepair.l0] at H
     by_cases c22 : x11_2 < (l0.length : Int)
     ·rw [if_pos c22] at H
      have c22b0 : decide (x11_2 < (l0.length : Int)) = true := dT_q c22
      clear c22
      by_cases c23 : 0 ≤ x11_2
      ·rw [if_pos c23] at H
       have c23b0 : decide (0 ≤ x11_2) = true := dT_q c23
       clear c23
       by_cases c24 : x11_2 < (l2.length : Int)
       ·rw [if_pos c24] at H
        have c24b0 : decide (x11_2 < (l2.length : Int)) = true := dT_q c24
        clear c24
        replace H := oB_q.mp H
        obtain ⟨t432, A250, H⟩ := H
        replace H : (spec_OutageRepair.l1 k2 l0 l2 x10_2 x11_2 (mx (rd l2 x11_2) t432) a1_0 l1_1 a3_0 a3_1 a3_2) = some (r1, r2) := H
        have A25 := Ae_q A250
        clear A250
        obtain ⟨ji26, hji26⟩ : ∃ j_ : Int, (mx (rd l2 x11_2) t432) = j_ := ⟨_, rfl⟩
        replace H : (spec_OutageRepair.l1 k2 l0 l2 x10_2 x11_2 ji26 a1_0 l1_1 a3_0 a3_1 a3_2) = some (r1, r2) := by first | (rw [hji26] at H; exact H) | (simp only [hji26] at H ⊢; exact H)
        (try rw [hji26] at A25)
        have hji26_ : (if (rd l2 x11_2) < t432 then t432 else (rd l2 x11_2)) = ji26 := hji26
        have H' := Ae_q H
        clear H
        try go_wp2
        have n0_ := Ae_q (rD_q HO_10.out)
        have n1_ := Ae_q (bW_q BK424.out)
        have n2_ := Ae_q (bW_q BK425.out)
        have n3_ := Ae_q (bD_q HB.out)
        clear HO_10
        clear BK424
        clear BK425
        clear HB
        have HO_10 := n0_
        have BK424 := n1_
        have BK425 := n2_
        have HB := n3_
        clear n0_ n1_ n2_ n3_
        have p431 : 0 ≤ (x11_2 : Int) := oD_q (by assumption)
        have q431 : x11_2 < (l2.length : Int) := oD_q (by assumption)
        obtain ⟨ad431, e431, hx431_0⟩ := aI_q HR2.out x11_2 p431 q431
        have hw431_0 := hx431_0
        cases e431
        replace hx431_0 := cel HB.out hx431_0
        replace p431 := eq_true p431
        replace q431 := eq_true q431
        obtain ⟨Ao28, co28, eo28⟩ := rS_q HO_10.out
        (first | subst eo28 | (injection eo28 with f1_ f2_ f3_; have f4_ := f1_.symm; have f5_ := f3_.symm; clear f1_ f2_ f3_; subst f4_; subst f5_))
        refine start_ (n := 10) (S := fun w' => w'.cell? (ad431.add (x11_2).toNat) = some (.int .i64 (rd l2 x11_2))) (ds := []) #[false, false, false, false, false, false, false, false, false, false] (by kernel_rfl) rfl rfl ((cel HB.out hw431_0)) (fun hHeld => ?_); refine with_tabW spec_OutageRepair.tab7 spec_OutageRepair.bits7 (fun HT_ HW_ => ?_)
        generalize wr.drew = w27 at HO_10 BK424 BK425 HB hx431_0 hHeld ⊢
        refine pure_ (i := 0) (N := some 31) (v := ?_) (a' := ?_) #[true, false, false, false, false, false, false, false, false, false] rfl rfl (any_of HT_.out (by kernel_rfl)) (fun _ _ _ h => h) (Or.inl ⟨by rfl, ?_⟩) ?_ ?_
        rotate_left
        ·intro w'
         go_simp
         with_reducible rfl
        rotate_left
        ·simp only [Act.put, sA_q, sZ_q, sS_q, i64_w, i32_w]
         rfl
        refine pure_ (i := 1) (N := some 32) (v := ?_) (a' := ?_) #[true, true, false, false, false, false, false, false, false, false] rfl rfl (any_of HT_.out (by kernel_rfl)) (fun _ _ _ h => h) (Or.inl ⟨by rfl, ?_⟩) ?_ ?_
        rotate_left
        ·intro w'
         go_simp
         with_reducible rfl
        rotate_left
        ·simp only [Act.put, sA_q, sZ_q, sS_q, i64_w, i32_w]
         rfl
        refine pure_ (i := 2) (N := some 33) (v := ?_) (a' := ?_) #[true, true, true, false, false, false, false, false, false, false] rfl rfl (any_of HT_.out (by kernel_rfl)) (fun _ _ _ h => h) (Or.inl ⟨by rfl, ?_⟩) ?_ ?_
        rotate_left
        ·intro w'
         go_simp
         with_reducible rfl
        rotate_left
        ·simp only [Act.put, sA_q, sZ_q, sS_q, i64_w, i32_w]
         rfl
        refine pure_ (i := 4) (N := some 35) (v := ?_) (a' := ?_) #[true, true, true, false, true, false, false, false, false, false] rfl rfl (any_of HT_.out (by kernel_rfl)) (fun _ _ _ h => h) (Or.inl ⟨by rfl, ?_⟩) ?_ ?_
        rotate_left
        ·intro w'
         go_simp
         with_reducible rfl
        rotate_left
        ·simp only [Act.put, sA_q, sZ_q, sS_q, i64_w, i32_w]
         rfl
        refine pure_ (i := 5) (N := some 36) (v := ?_) (a' := ?_) #[true, true, true, false, true, true, false, false, false, false] rfl rfl (any_of HT_.out (by kernel_rfl)) (fun _ _ _ h => h) (Or.inl ⟨by rfl, ?_⟩) ?_ ?_
        rotate_left
        ·intro w'
         go_simp
         with_reducible rfl
        rotate_left
        ·simp only [Act.put, sA_q, sZ_q, sS_q, i64_w, i32_w]
         rfl
        refine pure_ (i := 6) (N := some 37) (v := ?_) (a' := ?_) #[true, true, true, false, true, true, true, false, false, false] rfl rfl (any_of HT_.out (by kernel_rfl)) (fun _ _ _ h => h) (Or.inl ⟨by rfl, ?_⟩) ?_ ?_
        rotate_left
        ·intro w'
         go_simp
         with_reducible rfl
        rotate_left
        ·simp only [Act.put, sA_q, sZ_q, sS_q, i64_w, i32_w]
         rfl
        refine take_ (i := 3) (N := some 34) (v := ?_) (a' := ?_) #[true, true, true, true, true, true, true, false, false, false] rfl rfl (take_ofW HT_.out HW_.out (by kernel_rfl)) (fun _ _ _ h => h) (Or.inl ⟨by rfl, ?_⟩) hHeld ?_ ?_
        rotate_left
        ·intro w' s0
         go_simp
         with_reducible rfl
        rotate_left
        ·simp only [Act.put, sA_q, sZ_q, sS_q, i64_w, i32_w]
         rfl
        refine one_ (i := 7) (N := some 38) #[true, true, true, true, true, true, true, true, false, false] rfl rfl (one_of HT_.out (by kernel_rfl)) (by decide) (fun K hK => ?_)
        refine goes_ Try.func33 (by kernel_rfl) rfl #[.slice A0 l0.length c0, .slice Ao28 x10_2.length co28, .int .i64 x11_2] (by rfl) rfl rfl (by (try simp only [lM_q, lC_q, lN_q]); first | done | rfl | (simp only [lD_q, lT_q]; rfl)) ?_
        with_reducible refine (spec_l32After.calls k2 _ _ l0 _ _ x10_2 x11_2 t432 _ ?side1 ?side2 ?side3 ?side4 A25.out).mono ?_
        (case side1 => exact cup (cB_q HR0.out HB.out))
        (case side2 => exact HC0.out)
        (case side3 => exact cup (rR_q HO_10.out).2.2)
        (case side4 => exact (rR_q HO_10.out).2.1)
        rintro e w29 ⟨rfl, hb⟩
        refine ⟨_, rfl, ?_⟩
        have n0_ := Ae_q (rO_q (rup HO_10.out) hb)
        have n1_ := Ae_q (bB_q (g := gb424) (o := .cells #[.int .i64 a1_0, .slice A1_1 l1_1.length c1_1] 39 (0, 0)) (bup BK424.out) hb)
        have n2_ := Ae_q (bB_q (g := gb425) (o := .cells #[.int .i64 a3_0, .int .i64 a3_1, .int .i64 a3_2] 45 (0, 0)) (bup BK425.out) hb)
        have n3_ := Ae_q (bT_q (by repeat (with_reducible first | exact HB.out | apply bA_q | apply pB_q | apply bD_q | refine bS_q ?_ GE424.out | refine bS_q ?_ GE425.out)) hb)
        clear HO_10
        clear BK424
        clear BK425
        clear HB
        have HO_10 := n0_
        have BK424 := n1_
        have BK425 := n2_
        have HB := n3_
        clear n0_ n1_ n2_ n3_
        (try clear hb)
        (try clear hb2)
        (try clear hk)
        (try clear hi)
        refine hK.out _ _ ((cel HB.out hw431_0)) (fun hHeld => ?_)
        clear hK K
        refine norm_ (a' := ?_) ?_ ?_
        rotate_left
        ·show Act.put _ (some 38) _ = _
         simp only [Act.put, sA_q, sZ_q, sS_q, i64_w, i32_w]
         rfl
        refine pure_ (i := 8) (N := some 39) (v := ?_) (a' := ?_) #[true, true, true, true, true, true, true, true, true, false] rfl rfl (any_of HT_.out (by kernel_rfl)) (fun _ _ _ h => h) (Or.inl ⟨by rfl, ?_⟩) ?_ ?_
        rotate_left
        ·intro w'
         go_simp
         with_reducible rfl
        rotate_left
        ·simp only [Act.put, sA_q, sZ_q, sS_q, i64_w, i32_w]
         rfl
        refine pure_ (i := 9) (N := some 12) (v := ?_) (a' := ?_) #[true, true, true, true, true, true, true, true, true, true] rfl rfl (any_of HT_.out (by kernel_rfl)) (fun _ _ _ h => h) (Or.inl ⟨by rfl, ?_⟩) ?_ ?_
        rotate_left
        ·intro w'
         go_simp
         with_reducible rfl
        rotate_left
        ·simp only [Act.put, sA_q, sZ_q, sS_q, i64_w, i32_w]
         rfl
        refine done_ (done_of HT_.out (by kernel_rfl)) ?_
        try go_wp2
        go_loopg [12] k2 (fun kq v12 w' => ∃ (x12_3 : Int), v12 = .int .i64 x12_3 ∧ Aside0 (spec_OutageRepair.l1 kq l0 l2 x10_2 x11_2 x12_3 a1_0 l1_1 a3_0 a3_1 a3_2 = some (r1, r2)) ∧ Aside0 (kq ≤ k2) ∧ Aside0 (Kd.R kI_q 3 w' w.heap.size (fun _ => True) (.slice Ao28 x10_2.length co28) x10_2) ∧ Aside0 (w'.heap[gb424]? = some (.cells #[.int .i64 a1_0, (.slice A1_1 l1_1.length c1_1)] 39 (0, 0))) ∧ Aside0 (w'.heap[gb425]? = some (.cells #[.int .i64 a3_0, .int .i64 a3_1, .int .i64 a3_2] 45 (0, 0))) ∧ Aside0 (Below w.heap.size w w'))
        case atStart => exact ⟨(ji26), (by first | rfl | (simp; done) | (simp only [← hji26] <;> (first | rfl | simp)) | (simp [*]; done)), H', ⟨nR_q _⟩, ⟨by (with_reducible repeat (first | apply rA_q | apply rN_q | apply rD_q)); exact HO_10.out⟩, ⟨by (with_reducible repeat (first | refine bN_q ?_ _ | refine bW_q ?_ | refine bL_q ?_ _)); exact BK424.out⟩, ⟨by (with_reducible repeat (first | refine bN_q ?_ _ | refine bW_q ?_ | refine bL_q ?_ _)); exact BK425.out⟩, ⟨by repeat (with_reducible first | exact HB.out | apply bA_q | apply pB_q | apply bD_q | refine bS_q ?_ GE424.out | refine bS_q ?_ GE425.out)⟩⟩
        case round =>
         clear H'
         try clear c1
         try clear c2
         try clear p2
         try clear c3
         try clear p4
         try clear q4
         try clear hx4
         try clear c11
         try clear c13
         try clear c18
         try clear c21
         try clear c22
         try clear c22b0
         try clear c23
         try clear c23b0
         try clear c24
         try clear c24b0
         try clear hcz14_0
         try clear hcz14_1
         try clear hcz16_0
         try clear hcz16_1
         try clear hcz16_2
         try clear hcz19_0
         try clear hcz19_1
         try clear hfz14_0
         try clear hfz14_1
         try clear hfz16_0
         try clear hfz16_1
         try clear hfz16_2
         try clear hfz19_0
         try clear hfz19_1
         try clear hx431_0
         try clear p2
         try clear p431
         try clear q431
         obtain ⟨x12_3, rfl, HA, HK3, HO_10, BK424, BK425, HB⟩ := hrel
         cases gk with
         | zero => exact absurd HA.out (by simp [spec_OutageRepair.l1])
         | succ k3 =>
          have H := HA.out
          clear HA
          simp only [spec_OutageRepair.l1] at H
          by_cases c30 : 0 ≤ x11_2
          ·rw [if_pos c30] at H
           have c30b0 : decide (0 ≤ x11_2) = true := dT_q c30
           clear c30
           by_cases c31 : x11_2 < (l0.length : Int)
           ·rw [if_pos c31] at H
            have c31b0 : decide (x11_2 < (l0.length : Int)) = true := dT_q c31
            clear c31
            replace H := oB_q.mp H
            obtain ⟨t434, A320, H⟩ := H
            replace H : (if t434 = true then (spec_OutageRepair.l1 k3 l0 l2 x10_2 x11_2 (wrap64 (x12_3 + 1)) a1_0 l1_1 a3_0 a3_1 a3_2) else ((some (([] : List Int) : List Int)).bind fun y435 => (if y435.length + x10_2.length < 17592186044416 then ((some (y435 ++ x10_2 : List Int)).bind fun y438 => ((some (([x12_3] : List Int) : List Int)).bind fun y441 => (if y438.length + y441.length < 17592186044416 then ((spec_l32Room.f k3 l0 a1_0 l1_1 (y438 ++ y441)).bind fun t447 => (if t447 = true then (if x12_3 > 999 then (some ((([] : List Int)), false)) else ((some (([x12_3] : List Int) : List Int)).bind fun y451 => (if x10_2.length + y451.length < 17592186044416 then (spec_OutageRepair.l0 k3 l0 l2 (x10_2 ++ y451) (wrap64 (x11_2 + 1)) a1_0 l1_1 a3_0 a3_1 a3_2) else (none)))) else (spec_OutageRepair.l1 k3 l0 l2 x10_2 x11_2 (wrap64 (x12_3 + 1)) a1_0 l1_1 a3_0 a3_1 a3_2))) else (none)))) else (none)))) = some (r1, r2) := H
            have A32 := Ae_q A320
            clear A320
            by_cases c33 : t434 = true
            ·subst c33
             have H1 : (spec_OutageRepair.l1 k3 l0 l2 x10_2 x11_2 (wrap64 (x12_3 + 1)) a1_0 l1_1 a3_0 a3_1 a3_2) = some (r1, r2) := by rw [if_pos rfl] at H; exact H
             clear H
             have H := H1
             clear H1
             have H' := Ae_q H
             clear H
             try go_wp2
             have n0_ := Ae_q (rD_q HO_10.out)
             have n1_ := Ae_q (bW_q BK424.out)
             have n2_ := Ae_q (bW_q BK425.out)
             have n3_ := Ae_q (bD_q HB.out)
             clear HO_10
             clear BK424
             clear BK425
             clear HB
             have HO_10 := n0_
             have BK424 := n1_
             have BK425 := n2_
             have HB := n3_
             clear n0_ n1_ n2_ n3_
             have p433 : 0 ≤ (x11_2 : Int) := oD_q (by assumption)
             have q433 : x11_2 < (l0.length : Int) := oD_q (by assumption)
             obtain ⟨ad433, A433_3, c433_3, e433, hx433_0, hx433_1, hx433_2, hx433_3, hl433_3, hi433_3⟩ := at_T59 HR0.out x11_2 p433 q433
             have hw433_3 := hx433_3
             have hw433_2 := hx433_2
             have hw433_1 := hx433_1
             have hw433_0 := hx433_0
             cases e433
             replace hx433_0 := cel HB.out hx433_0
             replace hx433_1 := cel HB.out hx433_1
             replace hx433_2 := cel HB.out hx433_2
             replace hx433_3 := cel HB.out hx433_3
             have HR433_3 := Ae_q hi433_3
             have HC433_3 := Ae_q hl433_3
             clear hi433_3 hl433_3
             replace p433 := eq_true p433
             replace q433 := eq_true q433
             refine start_ (n := 19) (S := fun w' => w'.cell? ⟨gb425, 0, none⟩ = some (.int .i64 a3_0) ∧ w'.cell? ⟨gb425, 1, none⟩ = some (.int .i64 a3_1) ∧ w'.cell? ⟨gb425, 2, none⟩ = some (.int .i64 a3_2) ∧ w'.cell? (ad433.add ((x11_2).toNat * 4)) = some (.int .i64 ((rd_T59 l0 x11_2).f0)) ∧ w'.cell? ⟨(ad433.add ((x11_2).toNat * 4)).block, (ad433.add ((x11_2).toNat * 4)).off + 1, none⟩ = some (.int .i64 ((rd_T59 l0 x11_2).f1)) ∧ w'.cell? ⟨(ad433.add ((x11_2).toNat * 4)).block, (ad433.add ((x11_2).toNat * 4)).off + 2, none⟩ = some (.int .i64 ((rd_T59 l0 x11_2).f2)) ∧ w'.cell? ⟨(ad433.add ((x11_2).toNat * 4)).block, (ad433.add ((x11_2).toNat * 4)).off + 3, none⟩ = some (.slice A433_3 ((rd_T59 l0 x11_2).f3).length c433_3)) (ds := []) #[false, false, false, false, false, false, false, false, false, false, false, false, false, false, false, false, false, false, false] (by kernel_rfl) rfl rfl ⟨(bC_q BK425.out 0).trans rfl, (bC_q BK425.out 1).trans rfl, (bC_q BK425.out 2).trans rfl, (cel HB.out hw433_0), (cel HB.out hw433_1), (cel HB.out hw433_2), (cel HB.out hw433_3)⟩ (fun hHeld => ?_); refine with_tabW spec_OutageRepair.tab8 spec_OutageRepair.bits8 (fun HT_ HW_ => ?_)
             generalize wr.drew = w34 at HO_10 BK424 BK425 HB HR433_3 hx433_0 hx433_1 hx433_2 hx433_3 hHeld ⊢
             refine pure_ (i := 0) (N := some 40) (v := ?_) (a' := ?_) #[true, false, false, false, false, false, false, false, false, false, false, false, false, false, false, false, false, false, false] rfl rfl (any_of HT_.out (by kernel_rfl)) (fun _ _ _ h => h) (Or.inl ⟨by rfl, ?_⟩) ?_ ?_
             rotate_left
             ·intro w'
              go_simp
              with_reducible rfl
             rotate_left
             ·simp only [Act.put, sA_q, sZ_q, sS_q, i64_w, i32_w]
              rfl
             refine pure_ (i := 1) (N := some 41) (v := ?_) (a' := ?_) #[true, true, false, false, false, false, false, false, false, false, false, false, false, false, false, false, false, false, false] rfl rfl (any_of HT_.out (by kernel_rfl)) (fun _ _ _ h => h) (Or.inl ⟨by rfl, ?_⟩) ?_ ?_
             rotate_left
             ·intro w'
              go_simp
              with_reducible rfl
             rotate_left
             ·simp only [Act.put, sA_q, sZ_q, sS_q, i64_w, i32_w]
              rfl
             refine pure_ (i := 2) (N := some 42) (v := ?_) (a' := ?_) #[true, true, true, false, false, false, false, false, false, false, false, false, false, false, false, false, false, false, false] rfl rfl (any_of HT_.out (by kernel_rfl)) (fun _ _ _ h => h) (Or.inl ⟨by rfl, ?_⟩) ?_ ?_
             rotate_left
             ·intro w'
              go_simp
              with_reducible rfl
             rotate_left
             ·simp only [Act.put, sA_q, sZ_q, sS_q, i64_w, i32_w]
              rfl
             refine pure_ (i := 4) (N := some 44) (v := ?_) (a' := ?_) #[true, true, true, false, true, false, false, false, false, false, false, false, false, false, false, false, false, false, false] rfl rfl (any_of HT_.out (by kernel_rfl)) (fun _ _ _ h => h) (Or.inl ⟨by rfl, ?_⟩) ?_ ?_
             rotate_left
             ·intro w'
              go_simp
              with_reducible rfl
             rotate_left
             ·simp only [Act.put, sA_q, sZ_q, sS_q, i64_w, i32_w]
              rfl
             refine take_ (i := 3) (N := some 43) (v := ?_) (a' := ?_) #[true, true, true, true, true, false, false, false, false, false, false, false, false, false, false, false, false, false, false] rfl rfl (take_ofW HT_.out HW_.out (by kernel_rfl)) (fun _ _ _ h => h) (Or.inl ⟨by rfl, ?_⟩) hHeld ?_ ?_
             rotate_left
             ·rintro w' ⟨s0, s1, s2, s3, s4, s5, s6⟩
              go_simp
              with_reducible rfl
             rotate_left
             ·simp only [Act.put, sA_q, sZ_q, sS_q, i64_w, i32_w]
              rfl
             refine take_ (i := 5) (N := some 45) (v := ?_) (a' := ?_) #[true, true, true, true, true, true, false, false, false, false, false, false, false, false, false, false, false, false, false] rfl rfl (take_ofW HT_.out HW_.out (by kernel_rfl)) (fun _ _ _ h => h) (Or.inl ⟨by rfl, ?_⟩) hHeld ?_ ?_
             rotate_left
             ·rintro w' ⟨s0, s1, s2, s3, s4, s5, s6⟩
              go_simp
              with_reducible rfl
             rotate_left
             ·simp only [Act.put, sA_q, sZ_q, sS_q, i64_w, i32_w]
              rfl
             refine one_ (i := 6) (N := some 46) #[true, true, true, true, true, true, true, false, false, false, false, false, false, false, false, false, false, false, false] rfl rfl (one_of HT_.out (by kernel_rfl)) (by decide) (fun K hK => ?_)
             refine goes_ Try.func34 (by kernel_rfl) rfl #[.agg #[.int .i64 ((rd_T59 l0 x11_2).f0), .int .i64 ((rd_T59 l0 x11_2).f1), .int .i64 ((rd_T59 l0 x11_2).f2), .slice A433_3 ((rd_T59 l0 x11_2).f3).length c433_3], .int .i64 x12_3, .agg #[.int .i64 a3_0, .int .i64 a3_1, .int .i64 a3_2]] (by rfl) rfl rfl (by (try simp only [lM_q, lC_q, lN_q]); first | done | rfl | (simp only [lD_q, lT_q]; rfl)) ?_
             with_reducible refine (spec_l33Hit.calls ((rd_T59 l0 x11_2).f0) ((rd_T59 l0 x11_2).f1) ((rd_T59 l0 x11_2).f2) _ _ ((rd_T59 l0 x11_2).f3) x12_3 a3_0 a3_1 a3_2 true _ ?side1 ?side2 A32.out).mono ?_
             (case side1 => exact cup (cB_q HR433_3.out HB.out))
             (case side2 => exact HC433_3.out)
             rintro e w35 ⟨rfl, hb⟩
             refine ⟨_, rfl, ?_⟩
             have n0_ := Ae_q (rO_q (rup HO_10.out) hb)
             have n1_ := Ae_q (bB_q (g := gb424) (o := .cells #[.int .i64 a1_0, .slice A1_1 l1_1.length c1_1] 39 (0, 0)) (bup BK424.out) hb)
             have n2_ := Ae_q (bB_q (g := gb425) (o := .cells #[.int .i64 a3_0, .int .i64 a3_1, .int .i64 a3_2] 45 (0, 0)) (bup BK425.out) hb)
             have n3_ := Ae_q (bT_q (by repeat (with_reducible first | exact HB.out | apply bA_q | apply pB_q | apply bD_q | refine bS_q ?_ GE424.out | refine bS_q ?_ GE425.out)) hb)
             clear HO_10
             clear BK424
             clear BK425
             clear HB
             have HO_10 := n0_
             have BK424 := n1_
             have BK425 := n2_
             have HB := n3_
             clear n0_ n1_ n2_ n3_
             (try clear hb)
             (try clear hb2)
             (try clear hk)
             (try clear hi)
             refine hK.out _ _ ⟨(bC_q BK425.out 0).trans rfl, (bC_q BK425.out 1).trans rfl, (bC_q BK425.out 2).trans rfl, (cel HB.out hw433_0), (cel HB.out hw433_1), (cel HB.out hw433_2), (cel HB.out hw433_3)⟩ (fun hHeld => ?_)
             clear hK K
             refine norm_ (a' := ?_) ?_ ?_
             rotate_left
             ·show Act.put _ (some 46) _ = _
              simp only [Act.put, sA_q, sZ_q, sS_q, i64_w, i32_w]
              rfl
             refine pure_ (i := 7) (N := some 47) (v := ?_) (a' := ?_) #[true, true, true, true, true, true, true, true, false, false, false, false, false, false, false, false, false, false, false] rfl rfl (any_of HT_.out (by kernel_rfl)) (fun _ _ _ h => h) (Or.inl ⟨by rfl, ?_⟩) ?_ ?_
             rotate_left
             ·intro w'
              go_simp
              with_reducible rfl
             rotate_left
             ·simp only [Act.put, sA_q, sZ_q, sS_q, i64_w, i32_w]
              rfl
             refine pure_ (i := 8) (N := some 48) (v := undef) (a' := ?_) #[true, true, true, true, true, true, true, true, true, false, false, false, false, false, false, false, false, false, false] rfl rfl (any_of HT_.out (by kernel_rfl)) (fun _ _ _ h => h) (Or.inr ⟨by rfl, rfl⟩) ?_ ?_
             rotate_left
             ·simp only [Act.put, sA_q, sZ_q, sS_q, i64_w, i32_w]
              rfl
             refine pure_ (i := 9) (N := some 49) (v := undef) (a' := ?_) #[true, true, true, true, true, true, true, true, true, true, false, false, false, false, false, false, false, false, false] rfl rfl (any_of HT_.out (by kernel_rfl)) (fun _ _ _ h => h) (Or.inr ⟨by rfl, rfl⟩) ?_ ?_
             rotate_left
             ·simp only [Act.put, sA_q, sZ_q, sS_q, i64_w, i32_w]
              rfl
             refine pure_ (i := 10) (N := some 50) (v := undef) (a' := ?_) #[true, true, true, true, true, true, true, true, true, true, true, false, false, false, false, false, false, false, false] rfl rfl (any_of HT_.out (by kernel_rfl)) (fun _ _ _ h => h) (Or.inr ⟨by rfl, rfl⟩) ?_ ?_
             rotate_left
             ·simp only [Act.put, sA_q, sZ_q, sS_q, i64_w, i32_w]
              rfl
             refine pure_ (i := 11) (N := some 51) (v := undef) (a' := ?_) #[true, true, true, true, true, true, true, true, true, true, true, true, false, false, false, false, false, false, false] rfl rfl (any_of HT_.out (by kernel_rfl)) (fun _ _ _ h => h) (Or.inr ⟨by rfl, rfl⟩) ?_ ?_
             rotate_left
             ·simp only [Act.put, sA_q, sZ_q, sS_q, i64_w, i32_w]
              rfl
             refine pure_ (i := 12) (N := some 52) (v := undef) (a' := ?_) #[true, true, true, true, true, true, true, true, true, true, true, true, true, false, false, false, false, false, false] rfl rfl (any_of HT_.out (by kernel_rfl)) (fun _ _ _ h => h) (Or.inr ⟨by rfl, rfl⟩) ?_ ?_
             rotate_left
             ·simp only [Act.put, sA_q, sZ_q, sS_q, i64_w, i32_w]
              rfl
             refine pure_ (i := 13) (N := some 53) (v := undef) (a' := ?_) #[true, true, true, true, true, true, true, true, true, true, true, true, true, true, false, false, false, false, false] rfl rfl (any_of HT_.out (by kernel_rfl)) (fun _ _ _ h => h) (Or.inr ⟨by rfl, rfl⟩) ?_ ?_
             rotate_left
             ·simp only [Act.put, sA_q, sZ_q, sS_q, i64_w, i32_w]
              rfl
             refine pure_ (i := 14) (N := some 54) (v := undef) (a' := ?_) #[true, true, true, true, true, true, true, true, true, true, true, true, true, true, true, false, false, false, false] rfl rfl (any_of HT_.out (by kernel_rfl)) (fun _ _ _ h => h) (Or.inr ⟨by rfl, rfl⟩) ?_ ?_
             rotate_left
             ·simp only [Act.put, sA_q, sZ_q, sS_q, i64_w, i32_w]
              rfl
             refine pure_ (i := 15) (N := some 55) (v := undef) (a' := ?_) #[true, true, true, true, true, true, true, true, true, true, true, true, true, true, true, true, false, false, false] rfl rfl (any_of HT_.out (by kernel_rfl)) (fun _ _ _ h => h) (Or.inr ⟨by rfl, rfl⟩) ?_ ?_
             rotate_left
             ·simp only [Act.put, sA_q, sZ_q, sS_q, i64_w, i32_w]
              rfl
             refine pure_ (i := 16) (N := some 56) (v := undef) (a' := ?_) #[true, true, true, true, true, true, true, true, true, true, true, true, true, true, true, true, true, false, false] rfl rfl (any_of HT_.out (by kernel_rfl)) (fun _ _ _ h => h) (Or.inr ⟨by rfl, rfl⟩) ?_ ?_
             rotate_left
             ·simp only [Act.put, sA_q, sZ_q, sS_q, i64_w, i32_w]
              rfl
             refine pure_ (i := 17) (N := some 57) (v := undef) (a' := ?_) #[true, true, true, true, true, true, true, true, true, true, true, true, true, true, true, true, true, true, false] rfl rfl (any_of HT_.out (by kernel_rfl)) (fun _ _ _ h => h) (Or.inr ⟨by rfl, rfl⟩) ?_ ?_
             rotate_left
             ·simp only [Act.put, sA_q, sZ_q, sS_q, i64_w, i32_w]
              rfl
             refine pure_ (i := 18) (N := some 58) (v := ?_) (a' := ?_) #[true, true, true, true, true, true, true, true, true, true, true, true, true, true, true, true, true, true, true] rfl rfl (any_of HT_.out (by kernel_rfl)) (fun _ _ _ h => h) (Or.inl ⟨by rfl, ?_⟩) ?_ ?_
             rotate_left
             ·intro w'
              go_simp
              with_reducible rfl
             rotate_left
             ·simp only [Act.put, sA_q, sZ_q, sS_q, i64_w, i32_w]
              rfl
             refine done_ (done_of HT_.out (by kernel_rfl)) ?_
             try go_wp2
             go_roundg k3
             case measure => have := HJ4.out; have := HK2.out; have := HK3.out; omega
             case rel => exact ⟨(wrap64 (x12_3 + 1)), (by first | rfl | (simp; done) | (simp [*]; done)), H', ⟨by have := HJ4.out; have := HK2.out; have := HK3.out; omega⟩, ⟨by (with_reducible repeat (first | apply rA_q | apply rN_q | apply rD_q)); exact HO_10.out⟩, ⟨by (with_reducible repeat (first | refine bN_q ?_ _ | refine bW_q ?_ | refine bL_q ?_ _)); exact BK424.out⟩, ⟨by (with_reducible repeat (first | refine bN_q ?_ _ | refine bW_q ?_ | refine bL_q ?_ _)); exact BK425.out⟩, ⟨by repeat (with_reducible first | exact HB.out | apply bA_q | apply pB_q | apply bD_q | refine bS_q ?_ GE424.out | refine bS_q ?_ GE425.out)⟩⟩
            replace c33 := fM_q.mpr c33
            subst c33
            have H1 : ((some (([] : List Int) : List Int)).bind fun y435 => (if y435.length + x10_2.length < 17592186044416 then ((some (y435 ++ x10_2 : List Int)).bind fun y438 => ((some (([x12_3] : List Int) : List Int)).bind fun y441 => (if y438.length + y441.length < 17592186044416 then ((spec_l32Room.f k3 l0 a1_0 l1_1 (y438 ++ y441)).bind fun t447 => (if t447 = true then (if x12_3 > 999 then (some ((([] : List Int)), false)) else ((some (([x12_3] : List Int) : List Int)).bind fun y451 => (if x10_2.length + y451.length < 17592186044416 then (spec_OutageRepair.l0 k3 l0 l2 (x10_2 ++ y451) (wrap64 (x11_2 + 1)) a1_0 l1_1 a3_0 a3_1 a3_2) else (none)))) else (spec_OutageRepair.l1 k3 l0 l2 x10_2 x11_2 (wrap64 (x12_3 + 1)) a1_0 l1_1 a3_0 a3_1 a3_2))) else (none)))) else (none))) = some (r1, r2) := by rw [if_neg (show ¬ (false = true) by decide)] at H; exact H
            clear H
            have H := H1
            clear H1
            obtain ⟨y435, hy435⟩ : ∃ y_ : List Int, y_ = (([] : List Int)) := ⟨_, rfl⟩
            replace H : (if y435.length + x10_2.length < 17592186044416 then ((some (y435 ++ x10_2 : List Int)).bind fun y438 => ((some (([x12_3] : List Int) : List Int)).bind fun y441 => (if y438.length + y441.length < 17592186044416 then ((spec_l32Room.f k3 l0 a1_0 l1_1 (y438 ++ y441)).bind fun t447 => (if t447 = true then (if x12_3 > 999 then (some ((([] : List Int)), false)) else ((some (([x12_3] : List Int) : List Int)).bind fun y451 => (if x10_2.length + y451.length < 17592186044416 then (spec_OutageRepair.l0 k3 l0 l2 (x10_2 ++ y451) (wrap64 (x11_2 + 1)) a1_0 l1_1 a3_0 a3_1 a3_2) else (none)))) else (spec_OutageRepair.l1 k3 l0 l2 x10_2 x11_2 (wrap64 (x12_3 + 1)) a1_0 l1_1 a3_0 a3_1 a3_2))) else (none)))) else (none)) = some (r1, r2) := by first | (rw [hy435]; with_reducible exact H) | (have H2_ := (oS_q _ _).symm.trans H; rw [hy435]; with_reducible exact H2_) | (have H2_ := (oS_q _ _).symm.trans H; with_reducible exact H2_) | with_reducible exact H | (rw [hy435]; exact H) | exact H
            have Ny435 := Ae_q hy435
            clear hy435
            by_cases c36 : y435.length + x10_2.length < 17592186044416
            ·rw [if_pos c36] at H
             have LMc36 := Ae_q c36
             clear c36
             obtain ⟨y438, hy438⟩ : ∃ y_ : List Int, y_ = (y435 ++ x10_2) := ⟨_, rfl⟩
             replace H : ((some (([x12_3] : List Int) : List Int)).bind fun y441 => (if y438.length + y441.length < 17592186044416 then ((spec_l32Room.f k3 l0 a1_0 l1_1 (y438 ++ y441)).bind fun t447 => (if t447 = true then (if x12_3 > 999 then (some ((([] : List Int)), false)) else ((some (([x12_3] : List Int) : List Int)).bind fun y451 => (if x10_2.length + y451.length < 17592186044416 then (spec_OutageRepair.l0 k3 l0 l2 (x10_2 ++ y451) (wrap64 (x11_2 + 1)) a1_0 l1_1 a3_0 a3_1 a3_2) else (none)))) else (spec_OutageRepair.l1 k3 l0 l2 x10_2 x11_2 (wrap64 (x12_3 + 1)) a1_0 l1_1 a3_0 a3_1 a3_2))) else (none))) = some (r1, r2) := by first | (rw [hy438]; with_reducible exact H) | (have H2_ := (oS_q _ _).symm.trans H; rw [hy438]; with_reducible exact H2_) | (have H2_ := (oS_q _ _).symm.trans H; with_reducible exact H2_) | with_reducible exact H | (rw [hy438]; exact H) | exact H
             have Ny438 := Ae_q hy438
             clear hy438
             obtain ⟨y441, hy441⟩ : ∃ y_ : List Int, y_ = (([x12_3] : List Int)) := ⟨_, rfl⟩
             replace H : (if y438.length + y441.length < 17592186044416 then ((spec_l32Room.f k3 l0 a1_0 l1_1 (y438 ++ y441)).bind fun t447 => (if t447 = true then (if x12_3 > 999 then (some ((([] : List Int)), false)) else ((some (([x12_3] : List Int) : List Int)).bind fun y451 => (if x10_2.length + y451.length < 17592186044416 then (spec_OutageRepair.l0 k3 l0 l2 (x10_2 ++ y451) (wrap64 (x11_2 + 1)) a1_0 l1_1 a3_0 a3_1 a3_2) else (none)))) else (spec_OutageRepair.l1 k3 l0 l2 x10_2 x11_2 (wrap64 (x12_3 + 1)) a1_0 l1_1 a3_0 a3_1 a3_2))) else (none)) = some (r1, r2) := by first | (rw [hy441]; with_reducible exact H) | (have H2_ := (oS_q _ _).symm.trans H; rw [hy441]; with_reducible exact H2_) | (have H2_ := (oS_q _ _).symm.trans H; with_reducible exact H2_) | with_reducible exact H | (rw [hy441]; exact H) | exact H
             have Ny441 := Ae_q hy441
             clear hy441
             by_cases c37 : y438.length + y441.length < 17592186044416
             ·rw [if_pos c37] at H
              have LMc37 := Ae_q c37
              clear c37
              obtain ⟨y444, hy444⟩ : ∃ y_ : List Int, y_ = (y438 ++ y441) := ⟨_, rfl⟩
              replace H : ((spec_l32Room.f k3 l0 a1_0 l1_1 y444).bind fun t447 => (if t447 = true then (if x12_3 > 999 then (some ((([] : List Int)), false)) else ((some (([x12_3] : List Int) : List Int)).bind fun y451 => (if x10_2.length + y451.length < 17592186044416 then (spec_OutageRepair.l0 k3 l0 l2 (x10_2 ++ y451) (wrap64 (x11_2 + 1)) a1_0 l1_1 a3_0 a3_1 a3_2) else (none)))) else (spec_OutageRepair.l1 k3 l0 l2 x10_2 x11_2 (wrap64 (x12_3 + 1)) a1_0 l1_1 a3_0 a3_1 a3_2))) = some (r1, r2) := by first | (rw [hy444]; with_reducible exact H) | (have H2_ := (oS_q _ _).symm.trans H; rw [hy444]; with_reducible exact H2_) | (have H2_ := (oS_q _ _).symm.trans H; with_reducible exact H2_) | with_reducible exact H | (rw [hy444]; exact H) | exact H
              have Ny444 := Ae_q hy444
              clear hy444
              replace H := oB_q.mp H
              obtain ⟨t447, A380, H⟩ := H
              replace H : (if t447 = true then (if x12_3 > 999 then (some ((([] : List Int)), false)) else ((some (([x12_3] : List Int) : List Int)).bind fun y451 => (if x10_2.length + y451.length < 17592186044416 then (spec_OutageRepair.l0 k3 l0 l2 (x10_2 ++ y451) (wrap64 (x11_2 + 1)) a1_0 l1_1 a3_0 a3_1 a3_2) else (none)))) else (spec_OutageRepair.l1 k3 l0 l2 x10_2 x11_2 (wrap64 (x12_3 + 1)) a1_0 l1_1 a3_0 a3_1 a3_2)) = some (r1, r2) := H
              have A38 := Ae_q A380
              clear A380
              by_cases c39 : t447 = true
              ·subst c39
               have H1 : (if x12_3 > 999 then (some ((([] : List Int)), false)) else ((some (([x12_3] : List Int) : List Int)).bind fun y451 => (if x10_2.length + y451.length < 17592186044416 then (spec_OutageRepair.l0 k3 l0 l2 (x10_2 ++ y451) (wrap64 (x11_2 + 1)) a1_0 l1_1 a3_0 a3_1 a3_2) else (none)))) = some (r1, r2) := by rw [if_pos rfl] at H; exact H
               clear H
               have H := H1
               clear H1
               by_cases c40 : x12_3 > 999
               ·rw [if_pos c40] at H
                have c40b0 : decide (999 < x12_3) = true := dT_q c40
                clear c40
                obtain ⟨y448, hy448⟩ : ∃ y_ : List Int, y_ = (([] : List Int)) := ⟨_, rfl⟩
                replace H : (some (y448, false)) = some (r1, r2) := by first | (rw [hy448]; with_reducible exact H) | (have H2_ := (oS_q _ _).symm.trans H; rw [hy448]; with_reducible exact H2_) | (have H2_ := (oS_q _ _).symm.trans H; with_reducible exact H2_) | with_reducible exact H | (rw [hy448]; exact H) | exact H
                have Ny448 := Ae_q hy448
                clear hy448
                simp only [oE_q, pE_q] at H
                obtain ⟨rfl, rfl⟩ := H
                try go_wp2
                have n0_ := Ae_q (rD_q HO_10.out)
                have n1_ := Ae_q (bW_q BK424.out)
                have n2_ := Ae_q (bW_q BK425.out)
                have n3_ := Ae_q (bD_q HB.out)
                clear HO_10
                clear BK424
                clear BK425
                clear HB
                have HO_10 := n0_
                have BK424 := n1_
                have BK425 := n2_
                have HB := n3_
                clear n0_ n1_ n2_ n3_
                have p433 : 0 ≤ (x11_2 : Int) := oD_q (by assumption)
                have q433 : x11_2 < (l0.length : Int) := oD_q (by assumption)
                obtain ⟨ad433, A433_3, c433_3, e433, hx433_0, hx433_1, hx433_2, hx433_3, hl433_3, hi433_3⟩ := at_T59 HR0.out x11_2 p433 q433
                have hw433_3 := hx433_3
                have hw433_2 := hx433_2
                have hw433_1 := hx433_1
                have hw433_0 := hx433_0
                cases e433
                replace hx433_0 := cel HB.out hx433_0
                replace hx433_1 := cel HB.out hx433_1
                replace hx433_2 := cel HB.out hx433_2
                replace hx433_3 := cel HB.out hx433_3
                have HR433_3 := Ae_q hi433_3
                have HC433_3 := Ae_q hl433_3
                clear hi433_3 hl433_3
                replace p433 := eq_true p433
                replace q433 := eq_true q433
                refine start_ (n := 19) (S := fun w' => w'.cell? ⟨gb425, 0, none⟩ = some (.int .i64 a3_0) ∧ w'.cell? ⟨gb425, 1, none⟩ = some (.int .i64 a3_1) ∧ w'.cell? ⟨gb425, 2, none⟩ = some (.int .i64 a3_2) ∧ w'.cell? ⟨gb424, 0, none⟩ = some (.int .i64 a1_0) ∧ w'.cell? ⟨gb424, 1, none⟩ = some (.slice A1_1 l1_1.length c1_1) ∧ w'.cell? (ad433.add ((x11_2).toNat * 4)) = some (.int .i64 ((rd_T59 l0 x11_2).f0)) ∧ w'.cell? ⟨(ad433.add ((x11_2).toNat * 4)).block, (ad433.add ((x11_2).toNat * 4)).off + 1, none⟩ = some (.int .i64 ((rd_T59 l0 x11_2).f1)) ∧ w'.cell? ⟨(ad433.add ((x11_2).toNat * 4)).block, (ad433.add ((x11_2).toNat * 4)).off + 2, none⟩ = some (.int .i64 ((rd_T59 l0 x11_2).f2)) ∧ w'.cell? ⟨(ad433.add ((x11_2).toNat * 4)).block, (ad433.add ((x11_2).toNat * 4)).off + 3, none⟩ = some (.slice A433_3 ((rd_T59 l0 x11_2).f3).length c433_3)) (ds := []) #[false, false, false, false, false, false, false, false, false, false, false, false, false, false, false, false, false, false, false] (by kernel_rfl) rfl rfl ⟨(bC_q BK425.out 0).trans rfl, (bC_q BK425.out 1).trans rfl, (bC_q BK425.out 2).trans rfl, (bC_q BK424.out 0).trans rfl, (bC_q BK424.out 1).trans rfl, (cel HB.out hw433_0), (cel HB.out hw433_1), (cel HB.out hw433_2), (cel HB.out hw433_3)⟩ (fun hHeld => ?_); refine with_tabW spec_OutageRepair.tab8 spec_OutageRepair.bits8 (fun HT_ HW_ => ?_)
                generalize wr.drew = w41 at HO_10 BK424 BK425 HB HR433_3 hx433_0 hx433_1 hx433_2 hx433_3 hHeld ⊢
                refine pure_ (i := 0) (N := some 40) (v := ?_) (a' := ?_) #[true, false, false, false, false, false, false, false, false, false, false, false, false, false, false, false, false, false, false] rfl rfl (any_of HT_.out (by kernel_rfl)) (fun _ _ _ h => h) (Or.inl ⟨by rfl, ?_⟩) ?_ ?_
                rotate_left
                ·intro w'
                 go_simp
                 with_reducible rfl
                rotate_left
                ·simp only [Act.put, sA_q, sZ_q, sS_q, i64_w, i32_w]
                 rfl
                refine pure_ (i := 1) (N := some 41) (v := ?_) (a' := ?_) #[true, true, false, false, false, false, false, false, false, false, false, false, false, false, false, false, false, false, false] rfl rfl (any_of HT_.out (by kernel_rfl)) (fun _ _ _ h => h) (Or.inl ⟨by rfl, ?_⟩) ?_ ?_
                rotate_left
                ·intro w'
                 go_simp
                 with_reducible rfl
                rotate_left
                ·simp only [Act.put, sA_q, sZ_q, sS_q, i64_w, i32_w]
                 rfl
                refine pure_ (i := 2) (N := some 42) (v := ?_) (a' := ?_) #[true, true, true, false, false, false, false, false, false, false, false, false, false, false, false, false, false, false, false] rfl rfl (any_of HT_.out (by kernel_rfl)) (fun _ _ _ h => h) (Or.inl ⟨by rfl, ?_⟩) ?_ ?_
                rotate_left
                ·intro w'
                 go_simp
                 with_reducible rfl
                rotate_left
                ·simp only [Act.put, sA_q, sZ_q, sS_q, i64_w, i32_w]
                 rfl
                refine pure_ (i := 4) (N := some 44) (v := ?_) (a' := ?_) #[true, true, true, false, true, false, false, false, false, false, false, false, false, false, false, false, false, false, false] rfl rfl (any_of HT_.out (by kernel_rfl)) (fun _ _ _ h => h) (Or.inl ⟨by rfl, ?_⟩) ?_ ?_
                rotate_left
                ·intro w'
                 go_simp
                 with_reducible rfl
                rotate_left
                ·simp only [Act.put, sA_q, sZ_q, sS_q, i64_w, i32_w]
                 rfl
                refine take_ (i := 3) (N := some 43) (v := ?_) (a' := ?_) #[true, true, true, true, true, false, false, false, false, false, false, false, false, false, false, false, false, false, false] rfl rfl (take_ofW HT_.out HW_.out (by kernel_rfl)) (fun _ _ _ h => h) (Or.inl ⟨by rfl, ?_⟩) hHeld ?_ ?_
                rotate_left
                ·rintro w' ⟨s0, s1, s2, s3, s4, s5, s6, s7, s8⟩
                 go_simp
                 with_reducible rfl
                rotate_left
                ·simp only [Act.put, sA_q, sZ_q, sS_q, i64_w, i32_w]
                 rfl
                refine take_ (i := 5) (N := some 45) (v := ?_) (a' := ?_) #[true, true, true, true, true, true, false, false, false, false, false, false, false, false, false, false, false, false, false] rfl rfl (take_ofW HT_.out HW_.out (by kernel_rfl)) (fun _ _ _ h => h) (Or.inl ⟨by rfl, ?_⟩) hHeld ?_ ?_
                rotate_left
                ·rintro w' ⟨s0, s1, s2, s3, s4, s5, s6, s7, s8⟩
                 go_simp
                 with_reducible rfl
                rotate_left
                ·simp only [Act.put, sA_q, sZ_q, sS_q, i64_w, i32_w]
                 rfl
                refine one_ (i := 6) (N := some 46) #[true, true, true, true, true, true, true, false, false, false, false, false, false, false, false, false, false, false, false] rfl rfl (one_of HT_.out (by kernel_rfl)) (by decide) (fun K hK => ?_)
                refine goes_ Try.func34 (by kernel_rfl) rfl #[.agg #[.int .i64 ((rd_T59 l0 x11_2).f0), .int .i64 ((rd_T59 l0 x11_2).f1), .int .i64 ((rd_T59 l0 x11_2).f2), .slice A433_3 ((rd_T59 l0 x11_2).f3).length c433_3], .int .i64 x12_3, .agg #[.int .i64 a3_0, .int .i64 a3_1, .int .i64 a3_2]] (by rfl) rfl rfl (by (try simp only [lM_q, lC_q, lN_q]); first | done | rfl | (simp only [lD_q, lT_q]; rfl)) ?_
                with_reducible refine (spec_l33Hit.calls ((rd_T59 l0 x11_2).f0) ((rd_T59 l0 x11_2).f1) ((rd_T59 l0 x11_2).f2) _ _ ((rd_T59 l0 x11_2).f3) x12_3 a3_0 a3_1 a3_2 false _ ?side1 ?side2 A32.out).mono ?_
                (case side1 => exact cup (cB_q HR433_3.out HB.out))
                (case side2 => exact HC433_3.out)
                rintro e w42 ⟨rfl, hb⟩
                refine ⟨_, rfl, ?_⟩
                have n0_ := Ae_q (rO_q (rup HO_10.out) hb)
                have n1_ := Ae_q (bB_q (g := gb424) (o := .cells #[.int .i64 a1_0, .slice A1_1 l1_1.length c1_1] 39 (0, 0)) (bup BK424.out) hb)
                have n2_ := Ae_q (bB_q (g := gb425) (o := .cells #[.int .i64 a3_0, .int .i64 a3_1, .int .i64 a3_2] 45 (0, 0)) (bup BK425.out) hb)
                have n3_ := Ae_q (bT_q (by repeat (with_reducible first | exact HB.out | apply bA_q | apply pB_q | apply bD_q | refine bS_q ?_ GE424.out | refine bS_q ?_ GE425.out)) hb)
                clear HO_10
                clear BK424
                clear BK425
                clear HB
                have HO_10 := n0_
                have BK424 := n1_
                have BK425 := n2_
                have HB := n3_
                clear n0_ n1_ n2_ n3_
                (try clear hb)
                (try clear hb2)
                (try clear hk)
                (try clear hi)
                refine hK.out _ _ ⟨(bC_q BK425.out 0).trans rfl, (bC_q BK425.out 1).trans rfl, (bC_q BK425.out 2).trans rfl, (bC_q BK424.out 0).trans rfl, (bC_q BK424.out 1).trans rfl, (cel HB.out hw433_0), (cel HB.out hw433_1), (cel HB.out hw433_2), (cel HB.out hw433_3)⟩ (fun hHeld => ?_)
                clear hK K
                refine norm_ (a' := ?_) ?_ ?_
                rotate_left
                ·show Act.put _ (some 46) _ = _
                 simp only [Act.put, sA_q, sZ_q, sS_q, i64_w, i32_w]
                 rfl
                refine pure_ (i := 7) (N := some 47) (v := ?_) (a' := ?_) #[true, true, true, true, true, true, true, true, false, false, false, false, false, false, false, false, false, false, false] rfl rfl (any_of HT_.out (by kernel_rfl)) (fun _ _ _ h => h) (Or.inl ⟨by rfl, ?_⟩) ?_ ?_
                rotate_left
                ·intro w'
                 go_simp
                 with_reducible rfl
                rotate_left
                ·simp only [Act.put, sA_q, sZ_q, sS_q, i64_w, i32_w]
                 rfl
                refine pure_ (i := 8) (N := some 48) (v := ?_) (a' := ?_) #[true, true, true, true, true, true, true, true, true, false, false, false, false, false, false, false, false, false, false] rfl rfl (any_of HT_.out (by kernel_rfl)) (fun _ _ _ h => h) (Or.inl ⟨by rfl, ?_⟩) ?_ ?_
                rotate_left
                ·intro w'
                 go_simp
                 with_reducible rfl
                rotate_left
                ·simp only [Act.put, sA_q, sZ_q, sS_q, i64_w, i32_w]
                 rfl
                refine pure_ (i := 11) (N := some 51) (v := ?_) (a' := ?_) #[true, true, true, true, true, true, true, true, true, false, false, true, false, false, false, false, false, false, false] rfl rfl (any_of HT_.out (by kernel_rfl)) (fun _ _ _ h => h) (Or.inl ⟨by rfl, ?_⟩) ?_ ?_
                rotate_left
                ·intro w'
                 go_simp
                 with_reducible rfl
                rotate_left
                ·simp only [Act.put, sA_q, sZ_q, sS_q, i64_w, i32_w]
                 rfl
                refine pure_ (i := 13) (N := some 53) (v := ?_) (a' := ?_) #[true, true, true, true, true, true, true, true, true, false, false, true, false, true, false, false, false, false, false] rfl rfl (any_of HT_.out (by kernel_rfl)) (fun _ _ _ h => h) (Or.inl ⟨by rfl, ?_⟩) ?_ ?_
                rotate_left
                ·intro w'
                 go_simp
                 with_reducible rfl
                rotate_left
                ·simp only [Act.put, sA_q, sZ_q, sS_q, i64_w, i32_w]
                 rfl
                refine take_ (i := 9) (N := some 49) (v := ?_) (a' := ?_) #[true, true, true, true, true, true, true, true, true, true, false, true, false, true, false, false, false, false, false] rfl rfl (take_ofW HT_.out HW_.out (by kernel_rfl)) (fun _ _ _ h => h) (Or.inl ⟨by rfl, ?_⟩) hHeld ?_ ?_
                rotate_left
                ·rintro w' ⟨s0, s1, s2, s3, s4, s5, s6, s7, s8⟩
                 go_simp
                 with_reducible rfl
                rotate_left
                ·simp only [Act.put, sA_q, sZ_q, sS_q, i64_w, i32_w]
                 rfl
                refine join_ (σ := Value × Value × Value) 4 #[true, true, true, true, true, true, true, true, true, true, true, true, true, true, true, false, false, false, false] (fun s_ => [(50, s_.1), (52, s_.2.1), (54, s_.2.2)]) (fun s_ w' => (w'.cell? ⟨gb425, 0, none⟩ = some (.int .i64 a3_0) ∧ w'.cell? ⟨gb425, 1, none⟩ = some (.int .i64 a3_1) ∧ w'.cell? ⟨gb425, 2, none⟩ = some (.int .i64 a3_2) ∧ w'.cell? ⟨gb424, 0, none⟩ = some (.int .i64 a1_0) ∧ w'.cell? ⟨gb424, 1, none⟩ = some (.slice A1_1 l1_1.length c1_1) ∧ w'.cell? (ad433.add ((x11_2).toNat * 4)) = some (.int .i64 ((rd_T59 l0 x11_2).f0)) ∧ w'.cell? ⟨(ad433.add ((x11_2).toNat * 4)).block, (ad433.add ((x11_2).toNat * 4)).off + 1, none⟩ = some (.int .i64 ((rd_T59 l0 x11_2).f1)) ∧ w'.cell? ⟨(ad433.add ((x11_2).toNat * 4)).block, (ad433.add ((x11_2).toNat * 4)).off + 2, none⟩ = some (.int .i64 ((rd_T59 l0 x11_2).f2)) ∧ w'.cell? ⟨(ad433.add ((x11_2).toNat * 4)).block, (ad433.add ((x11_2).toNat * 4)).off + 3, none⟩ = some (.slice A433_3 ((rd_T59 l0 x11_2).f3).length c433_3)) ∧ (Kd.R kI_q 3 w' w.heap.size (fun k_ => some k_ ≠ (s_.2.2 : Value).ownBlock ∧ some k_ ≠ (.slice Ao28 x10_2.length co28 : Value).ownBlock) s_.2.1 y438) ∧ (Kd.R kI_q 3 w' w.heap.size (fun k_ => some k_ ≠ (s_.2.1 : Value).ownBlock ∧ some k_ ≠ (.slice Ao28 x10_2.length co28 : Value).ownBlock) s_.2.2 y441) ∧ (Kd.R kI_q 3 w' w.heap.size (fun k_ => some k_ ≠ (s_.2.1 : Value).ownBlock ∧ some k_ ≠ (s_.2.2 : Value).ownBlock) (.slice Ao28 x10_2.length co28) x10_2) ∧ (w'.heap[gb424]? = some (.cells #[.int .i64 a1_0, .slice A1_1 l1_1.length c1_1] 39 (0, 0))) ∧ (w'.heap[gb425]? = some (.cells #[.int .i64 a3_0, .int .i64 a3_1, .int .i64 a3_2] 45 (0, 0))) ∧ (Below w.heap.size w w')) ?_ ?_
                rotate_left
                ·intro hCont
                 refine two_ (i := 10) (j := 14) (Ni := some 50) (Nj := some 54) #[true, true, true, true, true, true, true, true, true, true, true, true, false, true, false, false, false, false, false] #[true, true, true, true, true, true, true, true, true, true, false, true, false, true, true, false, false, false, false] rfl rfl rfl rfl (two_of HT_.out (by kernel_rfl)) (by decide) (by decide) (fun K hK => ?_) (fun K hK => ?_)
                 ·skip
                  refine rI_q kI_q _ 3 ?hg (N := 50) ?hd (xs := ([] : List Int)) (inner := []) (ok := fun _ => True) (okp := fun _ => True) ?hr ?hp (fun _ hk => hk) trivial (bR_q _ _) (nR_q _) (by simp) ?_; (case hd => rfl); (case hg => rfl); (case hr => first | (go_simp; done) | (go_simp; rfl)); (case hp => exact (Reps.none _ _))
                  intro v436 w43 ho44 hb hg_ hnew_
                  clear hg_ hnew_
                  (first | rw [← Ny435.out] at ho44 | (simp only [Int.reduceToNat] at ho44; rw [← Ny435.out] at ho44))
                  have n0_ := Ae_q (rE_q (rup HO_10.out) (rB_q ho44) hb)
                  have n1_ := Ae_q (rL_q (rW_q ho44 (rT_q (rup HO_10.out))) (bZ_q (by repeat (with_reducible first | exact HB.out | apply bA_q | apply pB_q | apply bD_q | refine bS_q ?_ GE424.out | refine bS_q ?_ GE425.out))))
                  have n2_ := Ae_q (bB_q (g := gb424) (o := .cells #[.int .i64 a1_0, .slice A1_1 l1_1.length c1_1] 39 (0, 0)) (bup BK424.out) hb)
                  have n3_ := Ae_q (bB_q (g := gb425) (o := .cells #[.int .i64 a3_0, .int .i64 a3_1, .int .i64 a3_2] 45 (0, 0)) (bup BK425.out) hb)
                  have n4_ := Ae_q (bT_q (by repeat (with_reducible first | exact HB.out | apply bA_q | apply pB_q | apply bD_q | refine bS_q ?_ GE424.out | refine bS_q ?_ GE425.out)) hb)
                  clear HO_10
                  clear BK424
                  clear BK425
                  clear HB
                  have HO_10 := n0_
                  have HO437 := n1_
                  have BK424 := n2_
                  have BK425 := n3_
                  have HB := n4_
                  clear n0_ n1_ n2_ n3_ n4_
                  clear hb ho44
                  refine hK.out _ _ ⟨(bC_q BK425.out 0).trans rfl, (bC_q BK425.out 1).trans rfl, (bC_q BK425.out 2).trans rfl, (bC_q BK424.out 0).trans rfl, (bC_q BK424.out 1).trans rfl, (cel HB.out hw433_0), (cel HB.out hw433_1), (cel HB.out hw433_2), (cel HB.out hw433_3)⟩ (fun hHeld => ?_)
                  clear hK K
                  refine norm_ (a' := ?_) ?_ ?_
                  rotate_left
                  ·show Act.put _ (some 50) _ = _
                   simp only [Act.put, sA_q, sZ_q, sS_q, i64_w, i32_w]
                   rfl
                  refine two_ (i := 12) (j := 14) (Ni := some 52) (Nj := some 54) #[true, true, true, true, true, true, true, true, true, true, true, true, true, true, false, false, false, false, false] #[true, true, true, true, true, true, true, true, true, true, true, true, false, true, true, false, false, false, false] rfl rfl rfl rfl (two_of HT_.out (by kernel_rfl)) (by decide) (by decide) (fun K hK => ?_) (fun K hK => ?_)
                  ·skip
                   refine rP_q kI_q (w0 := w) w.heap.size (by rfl) (.tmp 50) (.tmp 51) 22 3 (.int .i64 0) 8 rfl Try.underlying22 info3 rfl (by decide) (by omega) v436 y435 x10_2 _ _ _ (fun k_ => some k_ ≠ (.slice Ao28 x10_2.length co28 : Value).ownBlock) (fun _ => False) rfl rfl ?aO ?aR (fun _ _ h => h) (fun _ h => h.elim) ?aF ?aB ?aS ?aL ?_
                   (case aR => exact cup (rR_q HO_10.out).2.2)
                   (case aB => exact (by repeat (with_reducible first | exact HB.out | apply bA_q | apply pB_q | apply bD_q | refine bS_q ?_ GE424.out | refine bS_q ?_ GE425.out)))
                   (case aF => exact (fun k_ hk => Kd.fresh' (rT_q (rup HO_10.out)) k_ hk))
                   (case aO => exact (by (with_reducible repeat (first | apply rA_q | apply rN_q | apply rD_q)); exact rM_q HO437.out (fun _ hk => hk.2)))
                   (case aS => exact (bZ_q (by repeat (with_reducible first | exact HB.out | apply bA_q | apply pB_q | apply bD_q | refine bS_q ?_ GE424.out | refine bS_q ?_ GE425.out))))
                   (case aL => have := LMc36.out; omega)
                   intro v439 w45 ho hb hg hat
                   rw [← Ny438.out] at ho
                   have n0_ := Ae_q (rF_q (ok := (fun _ => True)) (rup HO_10.out) hg hat)
                   have n1_ := Ae_q (bG_q (g := gb424) (o := .cells #[.int .i64 a1_0, .slice A1_1 l1_1.length c1_1] 39 (0, 0)) (bup BK424.out) hg (Kd.R_ne HO437.out BK424.out (by decide)))
                   have n2_ := Ae_q (bG_q (g := gb425) (o := .cells #[.int .i64 a3_0, .int .i64 a3_1, .int .i64 a3_2] 45 (0, 0)) (bup BK425.out) hg (Kd.R_ne HO437.out BK425.out (by decide)))
                   have n3_ := Ae_q (hb)
                   have n4_ := Ae_q (ho)
                   clear HO_10
                   clear BK424
                   clear BK425
                   clear HB
                   clear HO437
                   have HO_10 := n0_
                   have BK424 := n1_
                   have BK425 := n2_
                   have HB := n3_
                   have HO440 := n4_
                   clear n0_ n1_ n2_ n3_ n4_
                   clear ho hb hg hat
                   refine hK.out _ _ ⟨(bC_q BK425.out 0).trans rfl, (bC_q BK425.out 1).trans rfl, (bC_q BK425.out 2).trans rfl, (bC_q BK424.out 0).trans rfl, (bC_q BK424.out 1).trans rfl, (cel HB.out hw433_0), (cel HB.out hw433_1), (cel HB.out hw433_2), (cel HB.out hw433_3)⟩ (fun hHeld => ?_)
                   clear hK K
                   refine norm_ (a' := ?_) ?_ ?_
                   rotate_left
                   ·show Act.put _ (some 52) _ = _
                    simp only [Act.put, sA_q, sZ_q, sS_q, i64_w, i32_w]
                    rfl
                   refine one_ (i := 14) (N := some 54) #[true, true, true, true, true, true, true, true, true, true, true, true, true, true, true, false, false, false, false] rfl rfl (one_of HT_.out (by kernel_rfl)) (by decide) (fun K hK => ?_)
                   refine rI_q kI_q _ 3 ?hg (N := 54) ?hd (xs := ([x12_3] : List Int)) (inner := [.int .i64 x12_3]) (ok := fun _ => True) (okp := fun _ => True) ?hr ?hp (fun _ hk => hk) trivial (bR_q _ _) (nR_q _) (by simp) ?_; (case hd => rfl); (case hg => rfl); (case hr => first | (go_simp; done) | (go_simp; rfl)); (case hp => exact (Reps.one (show Kd.M kI_q _ _ _ x12_3 [.int .i64 x12_3] from rfl) (Reps.none _ _)))
                   intro v442 w46 ho47 hb hg_ hnew_
                   clear hg_ hnew_
                   (first | rw [← Ny441.out] at ho47 | (simp only [Int.reduceToNat] at ho47; rw [← Ny441.out] at ho47))
                   have n0_ := Ae_q (rE_q (rup HO_10.out) (rB_q ho47) hb)
                   have n1_ := Ae_q (rE_q (rup HO440.out) (rB_q ho47) hb)
                   have n2_ := Ae_q (rL_q (rW_q (rW_q ho47 (rT_q (rup HO_10.out))) (rT_q (rup HO440.out))) (bZ_q (by repeat (with_reducible first | exact HB.out | apply bA_q | apply pB_q | apply bD_q | refine bS_q ?_ GE424.out | refine bS_q ?_ GE425.out))))
                   have n3_ := Ae_q (bB_q (g := gb424) (o := .cells #[.int .i64 a1_0, .slice A1_1 l1_1.length c1_1] 39 (0, 0)) (bup BK424.out) hb)
                   have n4_ := Ae_q (bB_q (g := gb425) (o := .cells #[.int .i64 a3_0, .int .i64 a3_1, .int .i64 a3_2] 45 (0, 0)) (bup BK425.out) hb)
                   have n5_ := Ae_q (bT_q (by repeat (with_reducible first | exact HB.out | apply bA_q | apply pB_q | apply bD_q | refine bS_q ?_ GE424.out | refine bS_q ?_ GE425.out)) hb)
                   clear HO_10
                   clear HO440
                   clear BK424
                   clear BK425
                   clear HB
                   have HO_10 := n0_
                   have HO440 := n1_
                   have HO443 := n2_
                   have BK424 := n3_
                   have BK425 := n4_
                   have HB := n5_
                   clear n0_ n1_ n2_ n3_ n4_ n5_
                   clear hb ho47
                   refine hK.out _ _ ⟨(bC_q BK425.out 0).trans rfl, (bC_q BK425.out 1).trans rfl, (bC_q BK425.out 2).trans rfl, (bC_q BK424.out 0).trans rfl, (bC_q BK424.out 1).trans rfl, (cel HB.out hw433_0), (cel HB.out hw433_1), (cel HB.out hw433_2), (cel HB.out hw433_3)⟩ (fun hHeld => ?_)
                   clear hK K
                   refine norm_ (a' := ?_) ?_ ?_
                   rotate_left
                   ·show Act.put _ (some 54) _ = _
                    simp only [Act.put, sA_q, sZ_q, sS_q, i64_w, i32_w]
                    rfl
                   exact norm_ (by simp only [putAll, Act.put, sA_q, sZ_q, sS_q]) (hCont (v436, v439, v442) _ ⟨hHeld, (by (with_reducible repeat (first | apply rA_q | apply rN_q | apply rD_q)); exact rM_q HO440.out (fun _ hk => ⟨hk.2, hk.1⟩)), (by (with_reducible repeat (first | apply rA_q | apply rN_q | apply rD_q)); exact rM_q HO443.out (fun _ hk => ⟨hk.2, hk.1.2⟩)), (by (with_reducible repeat (first | apply rA_q | apply rN_q | apply rD_q)); exact rM_q HO_10.out (fun _ hk => ⟨hk.1.2, hk.2⟩)), (bup BK424.out), (bup BK425.out), (by repeat (with_reducible first | exact HB.out | apply bA_q | apply pB_q | apply bD_q | refine bS_q ?_ GE424.out | refine bS_q ?_ GE425.out))⟩)
                  skip
                  refine rI_q kI_q _ 3 ?hg (N := 54) ?hd (xs := ([x12_3] : List Int)) (inner := [.int .i64 x12_3]) (ok := fun _ => True) (okp := fun _ => True) ?hr ?hp (fun _ hk => hk) trivial (bR_q _ _) (nR_q _) (by simp) ?_; (case hd => rfl); (case hg => rfl); (case hr => first | (go_simp; done) | (go_simp; rfl)); (case hp => exact (Reps.one (show Kd.M kI_q _ _ _ x12_3 [.int .i64 x12_3] from rfl) (Reps.none _ _)))
                  intro v442 w45 ho46 hb hg_ hnew_
                  clear hg_ hnew_
                  (first | rw [← Ny441.out] at ho46 | (simp only [Int.reduceToNat] at ho46; rw [← Ny441.out] at ho46))
                  have n0_ := Ae_q (rE_q (rup HO_10.out) (rB_q ho46) hb)
                  have n1_ := Ae_q (rE_q (rup HO437.out) (rB_q ho46) hb)
                  have n2_ := Ae_q (rL_q (rW_q (rW_q ho46 (rT_q (rup HO_10.out))) (rT_q (rup HO437.out))) (bZ_q (by repeat (with_reducible first | exact HB.out | apply bA_q | apply pB_q | apply bD_q | refine bS_q ?_ GE424.out | refine bS_q ?_ GE425.out))))
                  have n3_ := Ae_q (bB_q (g := gb424) (o := .cells #[.int .i64 a1_0, .slice A1_1 l1_1.length c1_1] 39 (0, 0)) (bup BK424.out) hb)
                  have n4_ := Ae_q (bB_q (g := gb425) (o := .cells #[.int .i64 a3_0, .int .i64 a3_1, .int .i64 a3_2] 45 (0, 0)) (bup BK425.out) hb)
                  have n5_ := Ae_q (bT_q (by repeat (with_reducible first | exact HB.out | apply bA_q | apply pB_q | apply bD_q | refine bS_q ?_ GE424.out | refine bS_q ?_ GE425.out)) hb)
                  clear HO_10
                  clear HO437
                  clear BK424
                  clear BK425
                  clear HB
                  have HO_10 := n0_
                  have HO437 := n1_
                  have HO443 := n2_
                  have BK424 := n3_
                  have BK425 := n4_
                  have HB := n5_
                  clear n0_ n1_ n2_ n3_ n4_ n5_
                  clear hb ho46
                  refine hK.out _ _ ⟨(bC_q BK425.out 0).trans rfl, (bC_q BK425.out 1).trans rfl, (bC_q BK425.out 2).trans rfl, (bC_q BK424.out 0).trans rfl, (bC_q BK424.out 1).trans rfl, (cel HB.out hw433_0), (cel HB.out hw433_1), (cel HB.out hw433_2), (cel HB.out hw433_3)⟩ (fun hHeld => ?_)
                  clear hK K
                  refine norm_ (a' := ?_) ?_ ?_
                  rotate_left
                  ·show Act.put _ (some 54) _ = _
                   simp only [Act.put, sA_q, sZ_q, sS_q, i64_w, i32_w]
                   rfl
                  refine one_ (i := 12) (N := some 52) #[true, true, true, true, true, true, true, true, true, true, true, true, true, true, true, false, false, false, false] rfl rfl (one_of HT_.out (by kernel_rfl)) (by decide) (fun K hK => ?_)
                  refine rP_q kI_q (w0 := w) w.heap.size (by rfl) (.tmp 50) (.tmp 51) 22 3 (.int .i64 0) 8 rfl Try.underlying22 info3 rfl (by decide) (by omega) v436 y435 x10_2 _ _ _ (fun k_ => some k_ ≠ (.slice Ao28 x10_2.length co28 : Value).ownBlock ∧ some k_ ≠ (v442 : Value).ownBlock) (fun _ => False) rfl rfl ?aO ?aR (fun _ _ h => h) (fun _ h => h.elim) ?aF ?aB ?aS ?aL ?_
                  (case aR => exact cup (rR_q HO_10.out).2.2)
                  (case aB => exact (by repeat (with_reducible first | exact HB.out | apply bA_q | apply pB_q | apply bD_q | refine bS_q ?_ GE424.out | refine bS_q ?_ GE425.out)))
                  (case aF => exact (fun k_ hk => ⟨Kd.fresh' (rT_q (rup HO_10.out)) k_ hk, Kd.fresh' (rT_q (rup HO443.out)) k_ hk⟩))
                  (case aO => exact (by (with_reducible repeat (first | apply rA_q | apply rN_q | apply rD_q)); exact rM_q HO437.out (fun _ hk => ⟨hk.1.2, hk.2⟩)))
                  (case aS => exact (bZ_q (by repeat (with_reducible first | exact HB.out | apply bA_q | apply pB_q | apply bD_q | refine bS_q ?_ GE424.out | refine bS_q ?_ GE425.out))))
                  (case aL => have := LMc36.out; omega)
                  intro v439 w47 ho hb hg hat
                  rw [← Ny438.out] at ho
                  have n0_ := Ae_q (rF_q (ok := (fun k_ => some k_ ≠ (v442 : Value).ownBlock)) (by (with_reducible repeat (first | apply rA_q | apply rN_q | apply rD_q)); exact rM_q HO_10.out (fun _ hk => ⟨hk.2, hk.1.2⟩)) hg hat)
                  have n1_ := Ae_q (bG_q (g := gb424) (o := .cells #[.int .i64 a1_0, .slice A1_1 l1_1.length c1_1] 39 (0, 0)) (bup BK424.out) hg (Kd.R_ne HO437.out BK424.out (by decide)))
                  have n2_ := Ae_q (bG_q (g := gb425) (o := .cells #[.int .i64 a3_0, .int .i64 a3_1, .int .i64 a3_2] 45 (0, 0)) (bup BK425.out) hg (Kd.R_ne HO437.out BK425.out (by decide)))
                  have n3_ := Ae_q (rF_q (ok := (fun k_ => some k_ ≠ (.slice Ao28 x10_2.length co28 : Value).ownBlock)) (by (with_reducible repeat (first | apply rA_q | apply rN_q | apply rD_q)); exact rM_q HO443.out (fun _ hk => ⟨hk.1.2, hk.2⟩)) hg hat)
                  have n4_ := Ae_q (hb)
                  have n5_ := Ae_q (ho)
                  clear HO_10
                  clear BK424
                  clear BK425
                  clear HO443
                  clear HB
                  clear HO437
                  have HO_10 := n0_
                  have BK424 := n1_
                  have BK425 := n2_
                  have HO443 := n3_
                  have HB := n4_
                  have HO440 := n5_
                  clear n0_ n1_ n2_ n3_ n4_ n5_
                  clear ho hb hg hat
                  refine hK.out _ _ ⟨(bC_q BK425.out 0).trans rfl, (bC_q BK425.out 1).trans rfl, (bC_q BK425.out 2).trans rfl, (bC_q BK424.out 0).trans rfl, (bC_q BK424.out 1).trans rfl, (cel HB.out hw433_0), (cel HB.out hw433_1), (cel HB.out hw433_2), (cel HB.out hw433_3)⟩ (fun hHeld => ?_)
                  clear hK K
                  refine norm_ (a' := ?_) ?_ ?_
                  rotate_left
                  ·show Act.put _ (some 52) _ = _
                   simp only [Act.put, sA_q, sZ_q, sS_q, i64_w, i32_w]
                   rfl
                  exact norm_ (by simp only [putAll, Act.put, sA_q, sZ_q, sS_q]) (hCont (v436, v439, v442) _ ⟨hHeld, (by (with_reducible repeat (first | apply rA_q | apply rN_q | apply rD_q)); exact rM_q HO440.out (fun _ hk => ⟨hk.2, hk.1⟩)), (by (with_reducible repeat (first | apply rA_q | apply rN_q | apply rD_q)); exact rM_q HO443.out (fun _ hk => ⟨hk.2, hk.1⟩)), (by (with_reducible repeat (first | apply rA_q | apply rN_q | apply rD_q)); exact rM_q HO_10.out (fun _ hk => ⟨hk.2, hk.1⟩)), (bup BK424.out), (bup BK425.out), (by repeat (with_reducible first | exact HB.out | apply bA_q | apply pB_q | apply bD_q | refine bS_q ?_ GE424.out | refine bS_q ?_ GE425.out))⟩)
                 skip
                 refine rI_q kI_q _ 3 ?hg (N := 54) ?hd (xs := ([x12_3] : List Int)) (inner := [.int .i64 x12_3]) (ok := fun _ => True) (okp := fun _ => True) ?hr ?hp (fun _ hk => hk) trivial (bR_q _ _) (nR_q _) (by simp) ?_; (case hd => rfl); (case hg => rfl); (case hr => first | (go_simp; done) | (go_simp; rfl)); (case hp => exact (Reps.one (show Kd.M kI_q _ _ _ x12_3 [.int .i64 x12_3] from rfl) (Reps.none _ _)))
                 intro v442 w43 ho44 hb hg_ hnew_
                 clear hg_ hnew_
                 (first | rw [← Ny441.out] at ho44 | (simp only [Int.reduceToNat] at ho44; rw [← Ny441.out] at ho44))
                 have n0_ := Ae_q (rE_q (rup HO_10.out) (rB_q ho44) hb)
                 have n1_ := Ae_q (rL_q (rW_q ho44 (rT_q (rup HO_10.out))) (bZ_q (by repeat (with_reducible first | exact HB.out | apply bA_q | apply pB_q | apply bD_q | refine bS_q ?_ GE424.out | refine bS_q ?_ GE425.out))))
                 have n2_ := Ae_q (bB_q (g := gb424) (o := .cells #[.int .i64 a1_0, .slice A1_1 l1_1.length c1_1] 39 (0, 0)) (bup BK424.out) hb)
                 have n3_ := Ae_q (bB_q (g := gb425) (o := .cells #[.int .i64 a3_0, .int .i64 a3_1, .int .i64 a3_2] 45 (0, 0)) (bup BK425.out) hb)
                 have n4_ := Ae_q (bT_q (by repeat (with_reducible first | exact HB.out | apply bA_q | apply pB_q | apply bD_q | refine bS_q ?_ GE424.out | refine bS_q ?_ GE425.out)) hb)
                 clear HO_10
                 clear BK424
                 clear BK425
                 clear HB
                 have HO_10 := n0_
                 have HO443 := n1_
                 have BK424 := n2_
                 have BK425 := n3_
                 have HB := n4_
                 clear n0_ n1_ n2_ n3_ n4_
                 clear hb ho44
                 refine hK.out _ _ ⟨(bC_q BK425.out 0).trans rfl, (bC_q BK425.out 1).trans rfl, (bC_q BK425.out 2).trans rfl, (bC_q BK424.out 0).trans rfl, (bC_q BK424.out 1).trans rfl, (cel HB.out hw433_0), (cel HB.out hw433_1), (cel HB.out hw433_2), (cel HB.out hw433_3)⟩ (fun hHeld => ?_)
                 clear hK K
                 refine norm_ (a' := ?_) ?_ ?_
                 rotate_left
                 ·show Act.put _ (some 54) _ = _
                  simp only [Act.put, sA_q, sZ_q, sS_q, i64_w, i32_w]
                  rfl
                 refine one_ (i := 10) (N := some 50) #[true, true, true, true, true, true, true, true, true, true, true, true, false, true, true, false, false, false, false] rfl rfl (one_of HT_.out (by kernel_rfl)) (by decide) (fun K hK => ?_)
                 refine rI_q kI_q _ 3 ?hg (N := 50) ?hd (xs := ([] : List Int)) (inner := []) (ok := fun _ => True) (okp := fun _ => True) ?hr ?hp (fun _ hk => hk) trivial (bR_q _ _) (nR_q _) (by simp) ?_; (case hd => rfl); (case hg => rfl); (case hr => first | (go_simp; done) | (go_simp; rfl)); (case hp => exact (Reps.none _ _))
                 intro v436 w45 ho46 hb hg_ hnew_
                 clear hg_ hnew_
                 (first | rw [← Ny435.out] at ho46 | (simp only [Int.reduceToNat] at ho46; rw [← Ny435.out] at ho46))
                 have n0_ := Ae_q (rE_q (rup HO_10.out) (rB_q ho46) hb)
                 have n1_ := Ae_q (rE_q (rup HO443.out) (rB_q ho46) hb)
                 have n2_ := Ae_q (rL_q (rW_q (rW_q ho46 (rT_q (rup HO_10.out))) (rT_q (rup HO443.out))) (bZ_q (by repeat (with_reducible first | exact HB.out | apply bA_q | apply pB_q | apply bD_q | refine bS_q ?_ GE424.out | refine bS_q ?_ GE425.out))))
                 have n3_ := Ae_q (bB_q (g := gb424) (o := .cells #[.int .i64 a1_0, .slice A1_1 l1_1.length c1_1] 39 (0, 0)) (bup BK424.out) hb)
                 have n4_ := Ae_q (bB_q (g := gb425) (o := .cells #[.int .i64 a3_0, .int .i64 a3_1, .int .i64 a3_2] 45 (0, 0)) (bup BK425.out) hb)
                 have n5_ := Ae_q (bT_q (by repeat (with_reducible first | exact HB.out | apply bA_q | apply pB_q | apply bD_q | refine bS_q ?_ GE424.out | refine bS_q ?_ GE425.out)) hb)
                 clear HO_10
                 clear HO443
                 clear BK424
                 clear BK425
                 clear HB
                 have HO_10 := n0_
                 have HO443 := n1_
                 have HO437 := n2_
                 have BK424 := n3_
                 have BK425 := n4_
                 have HB := n5_
                 clear n0_ n1_ n2_ n3_ n4_ n5_
                 clear hb ho46
                 refine hK.out _ _ ⟨(bC_q BK425.out 0).trans rfl, (bC_q BK425.out 1).trans rfl, (bC_q BK425.out 2).trans rfl, (bC_q BK424.out 0).trans rfl, (bC_q BK424.out 1).trans rfl, (cel HB.out hw433_0), (cel HB.out hw433_1), (cel HB.out hw433_2), (cel HB.out hw433_3)⟩ (fun hHeld => ?_)
                 clear hK K
                 refine norm_ (a' := ?_) ?_ ?_
                 rotate_left
                 ·show Act.put _ (some 50) _ = _
                  simp only [Act.put, sA_q, sZ_q, sS_q, i64_w, i32_w]
                  rfl
                 refine one_ (i := 12) (N := some 52) #[true, true, true, true, true, true, true, true, true, true, true, true, true, true, true, false, false, false, false] rfl rfl (one_of HT_.out (by kernel_rfl)) (by decide) (fun K hK => ?_)
                 refine rP_q kI_q (w0 := w) w.heap.size (by rfl) (.tmp 50) (.tmp 51) 22 3 (.int .i64 0) 8 rfl Try.underlying22 info3 rfl (by decide) (by omega) v436 y435 x10_2 _ _ _ (fun k_ => some k_ ≠ (.slice Ao28 x10_2.length co28 : Value).ownBlock ∧ some k_ ≠ (v442 : Value).ownBlock) (fun _ => False) rfl rfl ?aO ?aR (fun _ _ h => h) (fun _ h => h.elim) ?aF ?aB ?aS ?aL ?_
                 (case aR => exact cup (rR_q HO_10.out).2.2)
                 (case aB => exact (by repeat (with_reducible first | exact HB.out | apply bA_q | apply pB_q | apply bD_q | refine bS_q ?_ GE424.out | refine bS_q ?_ GE425.out)))
                 (case aF => exact (fun k_ hk => ⟨Kd.fresh' (rT_q (rup HO_10.out)) k_ hk, Kd.fresh' (rT_q (rup HO443.out)) k_ hk⟩))
                 (case aO => exact (by (with_reducible repeat (first | apply rA_q | apply rN_q | apply rD_q)); exact rM_q HO437.out (fun _ hk => ⟨hk.1.2, hk.2⟩)))
                 (case aS => exact (bZ_q (by repeat (with_reducible first | exact HB.out | apply bA_q | apply pB_q | apply bD_q | refine bS_q ?_ GE424.out | refine bS_q ?_ GE425.out))))
                 (case aL => have := LMc36.out; omega)
                 intro v439 w47 ho hb hg hat
                 rw [← Ny438.out] at ho
                 have n0_ := Ae_q (rF_q (ok := (fun k_ => some k_ ≠ (v442 : Value).ownBlock)) (by (with_reducible repeat (first | apply rA_q | apply rN_q | apply rD_q)); exact rM_q HO_10.out (fun _ hk => ⟨hk.1.2, hk.2⟩)) hg hat)
                 have n1_ := Ae_q (bG_q (g := gb424) (o := .cells #[.int .i64 a1_0, .slice A1_1 l1_1.length c1_1] 39 (0, 0)) (bup BK424.out) hg (Kd.R_ne HO437.out BK424.out (by decide)))
                 have n2_ := Ae_q (bG_q (g := gb425) (o := .cells #[.int .i64 a3_0, .int .i64 a3_1, .int .i64 a3_2] 45 (0, 0)) (bup BK425.out) hg (Kd.R_ne HO437.out BK425.out (by decide)))
                 have n3_ := Ae_q (rF_q (ok := (fun k_ => some k_ ≠ (.slice Ao28 x10_2.length co28 : Value).ownBlock)) (by (with_reducible repeat (first | apply rA_q | apply rN_q | apply rD_q)); exact rM_q HO443.out (fun _ hk => ⟨hk.1.2, hk.2⟩)) hg hat)
                 have n4_ := Ae_q (hb)
                 have n5_ := Ae_q (ho)
                 clear HO_10
                 clear BK424
                 clear BK425
                 clear HO443
                 clear HB
                 clear HO437
                 have HO_10 := n0_
                 have BK424 := n1_
                 have BK425 := n2_
                 have HO443 := n3_
                 have HB := n4_
                 have HO440 := n5_
                 clear n0_ n1_ n2_ n3_ n4_ n5_
                 clear ho hb hg hat
                 refine hK.out _ _ ⟨(bC_q BK425.out 0).trans rfl, (bC_q BK425.out 1).trans rfl, (bC_q BK425.out 2).trans rfl, (bC_q BK424.out 0).trans rfl, (bC_q BK424.out 1).trans rfl, (cel HB.out hw433_0), (cel HB.out hw433_1), (cel HB.out hw433_2), (cel HB.out hw433_3)⟩ (fun hHeld => ?_)
                 clear hK K
                 refine norm_ (a' := ?_) ?_ ?_
                 rotate_left
                 ·show Act.put _ (some 52) _ = _
                  simp only [Act.put, sA_q, sZ_q, sS_q, i64_w, i32_w]
                  rfl
                 exact norm_ (by simp only [putAll, Act.put, sA_q, sZ_q, sS_q]) (hCont (v436, v439, v442) _ ⟨hHeld, (by (with_reducible repeat (first | apply rA_q | apply rN_q | apply rD_q)); exact rM_q HO440.out (fun _ hk => ⟨hk.2, hk.1⟩)), (by (with_reducible repeat (first | apply rA_q | apply rN_q | apply rD_q)); exact rM_q HO443.out (fun _ hk => ⟨hk.2, hk.1⟩)), (by (with_reducible repeat (first | apply rA_q | apply rN_q | apply rD_q)); exact rM_q HO_10.out (fun _ hk => ⟨hk.2, hk.1⟩)), (bup BK424.out), (bup BK425.out), (by repeat (with_reducible first | exact HB.out | apply bA_q | apply pB_q | apply bD_q | refine bS_q ?_ GE424.out | refine bS_q ?_ GE425.out))⟩)
                rintro ⟨v436, v439, v442⟩ w48 ⟨hS_, h0_, h1_, h2_, h3_, h4_, h5_⟩
                have n0_ : Aside0 (Kd.R kI_q 3 w48 w.heap.size (fun k_ => some k_ ≠ (v442 : Value).ownBlock ∧ some k_ ≠ (.slice Ao28 x10_2.length co28 : Value).ownBlock) v439 y438) := ⟨h0_⟩
                have n1_ : Aside0 (Kd.R kI_q 3 w48 w.heap.size (fun k_ => some k_ ≠ (v439 : Value).ownBlock ∧ some k_ ≠ (.slice Ao28 x10_2.length co28 : Value).ownBlock) v442 y441) := ⟨h1_⟩
                have n2_ : Aside0 (Kd.R kI_q 3 w48 w.heap.size (fun k_ => some k_ ≠ (v439 : Value).ownBlock ∧ some k_ ≠ (v442 : Value).ownBlock) (.slice Ao28 x10_2.length co28) x10_2) := ⟨h2_⟩
                have n3_ : Aside0 (w48.heap[gb424]? = some (.cells #[.int .i64 a1_0, .slice A1_1 l1_1.length c1_1] 39 (0, 0))) := ⟨h3_⟩
                have n4_ : Aside0 (w48.heap[gb425]? = some (.cells #[.int .i64 a3_0, .int .i64 a3_1, .int .i64 a3_2] 45 (0, 0))) := ⟨h4_⟩
                have n5_ : Aside0 (Below w.heap.size w w48) := ⟨h5_⟩
                clear HO_10
                clear BK424
                clear BK425
                clear HB
                clear h0_ h1_ h2_ h3_ h4_ h5_
                have HO440 := n0_
                have HO443 := n1_
                have HO_10 := n2_
                have BK424 := n3_
                have BK425 := n4_
                have HB := n5_
                clear n0_ n1_ n2_ n3_ n4_ n5_
                have hHeld : w48.cell? ⟨gb425, 0, none⟩ = some (.int .i64 a3_0) ∧ w48.cell? ⟨gb425, 1, none⟩ = some (.int .i64 a3_1) ∧ w48.cell? ⟨gb425, 2, none⟩ = some (.int .i64 a3_2) ∧ w48.cell? ⟨gb424, 0, none⟩ = some (.int .i64 a1_0) ∧ w48.cell? ⟨gb424, 1, none⟩ = some (.slice A1_1 l1_1.length c1_1) ∧ w48.cell? (ad433.add ((x11_2).toNat * 4)) = some (.int .i64 ((rd_T59 l0 x11_2).f0)) ∧ w48.cell? ⟨(ad433.add ((x11_2).toNat * 4)).block, (ad433.add ((x11_2).toNat * 4)).off + 1, none⟩ = some (.int .i64 ((rd_T59 l0 x11_2).f1)) ∧ w48.cell? ⟨(ad433.add ((x11_2).toNat * 4)).block, (ad433.add ((x11_2).toNat * 4)).off + 2, none⟩ = some (.int .i64 ((rd_T59 l0 x11_2).f2)) ∧ w48.cell? ⟨(ad433.add ((x11_2).toNat * 4)).block, (ad433.add ((x11_2).toNat * 4)).off + 3, none⟩ = some (.slice A433_3 ((rd_T59 l0 x11_2).f3).length c433_3) := hS_
                obtain ⟨Ao50, co50, eo50⟩ := rS_q HO443.out
                (first | subst eo50 | (injection eo50 with f1_ f2_ f3_; have f4_ := f1_.symm; have f5_ := f3_.symm; clear f1_ f2_ f3_; subst f4_; subst f5_))
                refine norm_ (a' := ?_) ?_ ?_
                rotate_left
                ·simp only [putAll, Act.put, sA_q, sZ_q, sS_q]
                 rfl
                refine one_ (i := 15) (N := some 55) #[true, true, true, true, true, true, true, true, true, true, true, true, true, true, true, true, false, false, false] rfl rfl (one_of HT_.out (by kernel_rfl)) (by decide) (fun K hK => ?_)
                refine rP_q kI_q (w0 := w) w.heap.size (by rfl) (.tmp 52) (.tmp 54) 22 3 (.int .i64 0) 8 rfl Try.underlying22 info3 rfl (by decide) (by omega) v439 y438 y441 _ _ _ (fun k_ => some k_ ≠ (.slice Ao28 x10_2.length co28 : Value).ownBlock ∧ some k_ ≠ (.slice Ao50 y441.length co50 : Value).ownBlock) (fun _ => False) rfl rfl ?aO ?aR (fun _ _ h => h) (fun _ h => h.elim) ?aF ?aB ?aS ?aL ?_
                (case aR => exact cup (rR_q HO443.out).2.2)
                (case aB => exact (by repeat (with_reducible first | exact HB.out | apply bA_q | apply pB_q | apply bD_q | refine bS_q ?_ GE424.out | refine bS_q ?_ GE425.out)))
                (case aF => exact (fun k_ hk => ⟨Kd.fresh' (rT_q (rup HO_10.out)) k_ hk, Kd.fresh' (rT_q (rup HO443.out)) k_ hk⟩))
                (case aO => exact (by (with_reducible repeat (first | apply rA_q | apply rN_q | apply rD_q)); exact rM_q HO440.out (fun _ hk => ⟨hk.2, hk.1⟩)))
                (case aS => exact (bZ_q (by repeat (with_reducible first | exact HB.out | apply bA_q | apply pB_q | apply bD_q | refine bS_q ?_ GE424.out | refine bS_q ?_ GE425.out))))
                (case aL => have := LMc37.out; omega)
                intro v445 w49 ho hb hg hat
                rw [← Ny444.out] at ho
                have n0_ := Ae_q (rF_q (ok := (fun k_ => some k_ ≠ (.slice Ao50 y441.length co50 : Value).ownBlock)) (by (with_reducible repeat (first | apply rA_q | apply rN_q | apply rD_q)); exact rM_q HO_10.out (fun _ hk => ⟨hk.2, hk.1⟩)) hg hat)
                have n1_ := Ae_q (bG_q (g := gb424) (o := .cells #[.int .i64 a1_0, .slice A1_1 l1_1.length c1_1] 39 (0, 0)) (bup BK424.out) hg (Kd.R_ne HO440.out BK424.out (by decide)))
                have n2_ := Ae_q (bG_q (g := gb425) (o := .cells #[.int .i64 a3_0, .int .i64 a3_1, .int .i64 a3_2] 45 (0, 0)) (bup BK425.out) hg (Kd.R_ne HO440.out BK425.out (by decide)))
                have n3_ := Ae_q (rF_q (ok := (fun k_ => some k_ ≠ (.slice Ao28 x10_2.length co28 : Value).ownBlock)) (by (with_reducible repeat (first | apply rA_q | apply rN_q | apply rD_q)); exact rM_q HO443.out (fun _ hk => ⟨hk.2, hk.1⟩)) hg hat)
                have n4_ := Ae_q (hb)
                have n5_ := Ae_q (ho)
                clear HO_10
                clear BK424
                clear BK425
                clear HO443
                clear HB
                clear HO440
                have HO_10 := n0_
                have BK424 := n1_
                have BK425 := n2_
                have HO443 := n3_
                have HB := n4_
                have HO446 := n5_
                clear n0_ n1_ n2_ n3_ n4_ n5_
                clear ho hb hg hat
                obtain ⟨Ao51, co51, eo51⟩ := rS_q HO446.out
                (first | subst eo51 | (injection eo51 with f1_ f2_ f3_; have f4_ := f1_.symm; have f5_ := f3_.symm; clear f1_ f2_ f3_; subst f4_; subst f5_))
                refine hK.out _ _ ⟨(bC_q BK425.out 0).trans rfl, (bC_q BK425.out 1).trans rfl, (bC_q BK425.out 2).trans rfl, (bC_q BK424.out 0).trans rfl, (bC_q BK424.out 1).trans rfl, (cel HB.out hw433_0), (cel HB.out hw433_1), (cel HB.out hw433_2), (cel HB.out hw433_3)⟩ (fun hHeld => ?_)
                clear hK K
                refine norm_ (a' := ?_) ?_ ?_
                rotate_left
                ·show Act.put _ (some 55) _ = _
                 simp only [Act.put, sA_q, sZ_q, sS_q, i64_w, i32_w]
                 rfl
                refine one_ (i := 16) (N := some 56) #[true, true, true, true, true, true, true, true, true, true, true, true, true, true, true, true, true, false, false] rfl rfl (one_of HT_.out (by kernel_rfl)) (by decide) (fun K hK => ?_)
                refine goes_ Try.func35 (by kernel_rfl) rfl #[.slice (some ad433) l0.length c0, .agg #[.int .i64 a1_0, .slice A1_1 l1_1.length c1_1], .slice Ao51 y444.length co51] (by rfl) rfl rfl (by (try simp only [lM_q, lC_q, lN_q]); first | done | rfl | (simp only [lD_q, lT_q]; rfl)) ?_
                with_reducible refine (spec_l32Room.calls k3 _ _ l0 a1_0 _ _ l1_1 _ _ y444 true _ ?side1 ?side2 ?side3 ?side4 ?side5 ?side6 A38.out).mono ?_
                (case side1 => exact cup (cB_q HR0.out HB.out))
                (case side2 => exact HC0.out)
                (case side3 => exact cup (cB_q HR1_1.out HB.out))
                (case side4 => exact HC1_1.out)
                (case side5 => exact cup (rR_q HO446.out).2.2)
                (case side6 => exact (rR_q HO446.out).2.1)
                rintro e w52 ⟨rfl, hb⟩
                refine ⟨_, rfl, ?_⟩
                have n0_ := Ae_q (rO_q (rup HO_10.out) hb)
                have n1_ := Ae_q (rO_q (rup HO443.out) hb)
                have n2_ := Ae_q (rO_q (rup HO446.out) hb)
                have n3_ := Ae_q (bB_q (g := gb424) (o := .cells #[.int .i64 a1_0, .slice A1_1 l1_1.length c1_1] 39 (0, 0)) (bup BK424.out) hb)
                have n4_ := Ae_q (bB_q (g := gb425) (o := .cells #[.int .i64 a3_0, .int .i64 a3_1, .int .i64 a3_2] 45 (0, 0)) (bup BK425.out) hb)
                have n5_ := Ae_q (bT_q (by repeat (with_reducible first | exact HB.out | apply bA_q | apply pB_q | apply bD_q | refine bS_q ?_ GE424.out | refine bS_q ?_ GE425.out)) hb)
                clear HO_10
                clear HO443
                clear HO446
                clear BK424
                clear BK425
                clear HB
                have HO_10 := n0_
                have HO443 := n1_
                have HO446 := n2_
                have BK424 := n3_
                have BK425 := n4_
                have HB := n5_
                clear n0_ n1_ n2_ n3_ n4_ n5_
                (try clear hb)
                (try clear hb2)
                (try clear hk)
                (try clear hi)
                refine hK.out _ _ ⟨(bC_q BK425.out 0).trans rfl, (bC_q BK425.out 1).trans rfl, (bC_q BK425.out 2).trans rfl, (bC_q BK424.out 0).trans rfl, (bC_q BK424.out 1).trans rfl, (cel HB.out hw433_0), (cel HB.out hw433_1), (cel HB.out hw433_2), (cel HB.out hw433_3)⟩ (fun hHeld => ?_)
                clear hK K
                refine norm_ (a' := ?_) ?_ ?_
                rotate_left
                ·show Act.put _ (some 56) _ = _
                 simp only [Act.put, sA_q, sZ_q, sS_q, i64_w, i32_w]
                 rfl
                refine pure_ (i := 17) (N := some 57) (v := ?_) (a' := ?_) #[true, true, true, true, true, true, true, true, true, true, true, true, true, true, true, true, true, true, false] rfl rfl (any_of HT_.out (by kernel_rfl)) (fun _ _ _ h => h) (Or.inl ⟨by rfl, ?_⟩) ?_ ?_
                rotate_left
                ·intro w'
                 go_simp
                 with_reducible rfl
                rotate_left
                ·simp only [Act.put, sA_q, sZ_q, sS_q, i64_w, i32_w]
                 rfl
                refine pure_ (i := 18) (N := some 58) (v := ?_) (a' := ?_) #[true, true, true, true, true, true, true, true, true, true, true, true, true, true, true, true, true, true, true] rfl rfl (any_of HT_.out (by kernel_rfl)) (fun _ _ _ h => h) (Or.inl ⟨by rfl, ?_⟩) ?_ ?_
                rotate_left
                ·intro w'
                 go_simp
                 with_reducible rfl
                rotate_left
                ·simp only [Act.put, sA_q, sZ_q, sS_q, i64_w, i32_w]
                 rfl
                refine done_ (done_of HT_.out (by kernel_rfl)) ?_
                try go_wp2_with (first | ((with_reducible refine gD_q (N := 63) rfl ?_); (try (refine gate_guard (by rfl) ?_; dsimp only)); refine Kd.R_lit kI_q _ 3 ?hg (N := 63) ?hd (xs := ([] : List Int)) (inner := []) (ok := fun _ => True) (okp := fun _ => True) ?hr ?hp (fun _ hk => hk) trivial (bR_q _ _) (nR_q _) (by simp) ?_; (case hd => rfl); (case hg => rfl); (case hr => first | (go_simp; done) | (go_simp; rfl)); (case hp => exact (Reps.none _ _)); intro v449 w53 ho54 hb hg_ hnew_; clear hg_ hnew_; (first | rw [← Ny448.out] at ho54 | (simp only [Int.reduceToNat] at ho54; rw [← Ny448.out] at ho54)); have n0_ := Ae_q (rE_q (rup HO_10.out) (rB_q ho54) hb); have n1_ := Ae_q (rE_q (rup HO443.out) (rB_q ho54) hb); have n2_ := Ae_q (rE_q (rup HO446.out) (rB_q ho54) hb); have n3_ := Ae_q (rL_q (rW_q (rW_q (rW_q ho54 (rT_q (rup HO_10.out))) (rT_q (rup HO443.out))) (rT_q (rup HO446.out))) (bZ_q (by repeat (with_reducible first | exact HB.out | apply bA_q | apply pB_q | apply bD_q | refine bS_q ?_ GE424.out | refine bS_q ?_ GE425.out)))); have n4_ := Ae_q (bB_q (g := gb424) (o := .cells #[.int .i64 a1_0, .slice A1_1 l1_1.length c1_1] 39 (0, 0)) (bup BK424.out) hb); have n5_ := Ae_q (bB_q (g := gb425) (o := .cells #[.int .i64 a3_0, .int .i64 a3_1, .int .i64 a3_2] 45 (0, 0)) (bup BK425.out) hb); have n6_ := Ae_q (bT_q (by repeat (with_reducible first | exact HB.out | apply bA_q | apply pB_q | apply bD_q | refine bS_q ?_ GE424.out | refine bS_q ?_ GE425.out)) hb); clear HO_10; clear HO443; clear HO446; clear BK424; clear BK425; clear HB; have HO_10 := n0_; have HO443 := n1_; have HO446 := n2_; have HO450 := n3_; have BK424 := n4_; have BK425 := n5_; have HB := n6_; clear n0_ n1_ n2_ n3_ n4_ n5_ n6_; clear hb ho54))
                go_ret2
                exact ⟨_, by first | rfl | (simp [eN_q, eS_q] <;> rfl) | (simp only [← hji26]; first | rfl | (simp [eN_q, eS_q] <;> rfl)) | (simp [*, eN_q, eS_q] <;> rfl), by (with_reducible repeat (first | apply rA_q | apply rN_q | apply rD_q)); exact rM_q HO450.out (fun _ hk => trivial), by repeat (with_reducible first | exact HB.out | apply bA_q | apply pB_q | apply bD_q | refine bS_q ?_ GE424.out | refine bS_q ?_ GE425.out)⟩
               rw [if_neg c40] at H
               have c40b0 : decide (999 < x12_3) = false := dF_q c40
               clear c40
               obtain ⟨y451, hy451⟩ : ∃ y_ : List Int, y_ = (([x12_3] : List Int)) := ⟨_, rfl⟩
               replace H : (if x10_2.length + y451.length < 17592186044416 then (spec_OutageRepair.l0 k3 l0 l2 (x10_2 ++ y451) (wrap64 (x11_2 + 1)) a1_0 l1_1 a3_0 a3_1 a3_2) else (none)) = some (r1, r2) := by first | (rw [hy451]; with_reducible exact H) | (have H2_ := (oS_q _ _).symm.trans H; rw [hy451]; with_reducible exact H2_) | (have H2_ := (oS_q _ _).symm.trans H; with_reducible exact H2_) | with_reducible exact H | (rw [hy451]; exact H) | exact H
               have Ny451 := Ae_q hy451
               clear hy451
               by_cases c55 : x10_2.length + y451.length < 17592186044416
               ·rw [if_pos c55] at H
                have LMc55 := Ae_q c55
                clear c55
                obtain ⟨y454, hy454⟩ : ∃ y_ : List Int, y_ = (x10_2 ++ y451) := ⟨_, rfl⟩
                replace H : (spec_OutageRepair.l0 k3 l0 l2 y454 (wrap64 (x11_2 + 1)) a1_0 l1_1 a3_0 a3_1 a3_2) = some (r1, r2) := by first | (rw [hy454]; with_reducible exact H) | (have H2_ := (oS_q _ _).symm.trans H; rw [hy454]; with_reducible exact H2_) | (have H2_ := (oS_q _ _).symm.trans H; with_reducible exact H2_) | with_reducible exact H | (rw [hy454]; exact H) | exact H
                have Ny454 := Ae_q hy454
                clear hy454
                have H' := Ae_q H
                clear H
                try go_wp2
                have n0_ := Ae_q (rD_q HO_10.out)
                have n1_ := Ae_q (bW_q BK424.out)
                have n2_ := Ae_q (bW_q BK425.out)
                have n3_ := Ae_q (bD_q HB.out)
                clear HO_10
                clear BK424
                clear BK425
                clear HB
                have HO_10 := n0_
                have BK424 := n1_
                have BK425 := n2_
                have HB := n3_
                clear n0_ n1_ n2_ n3_
                have p433 : 0 ≤ (x11_2 : Int) := oD_q (by assumption)
                have q433 : x11_2 < (l0.length : Int) := oD_q (by assumption)
                obtain ⟨ad433, A433_3, c433_3, e433, hx433_0, hx433_1, hx433_2, hx433_3, hl433_3, hi433_3⟩ := at_T59 HR0.out x11_2 p433 q433
                have hw433_3 := hx433_3
                have hw433_2 := hx433_2
                have hw433_1 := hx433_1
                have hw433_0 := hx433_0
                cases e433
                replace hx433_0 := cel HB.out hx433_0
                replace hx433_1 := cel HB.out hx433_1
                replace hx433_2 := cel HB.out hx433_2
                replace hx433_3 := cel HB.out hx433_3
                have HR433_3 := Ae_q hi433_3
                have HC433_3 := Ae_q hl433_3
                clear hi433_3 hl433_3
                replace p433 := eq_true p433
                replace q433 := eq_true q433
                refine start_ (n := 19) (S := fun w' => w'.cell? ⟨gb425, 0, none⟩ = some (.int .i64 a3_0) ∧ w'.cell? ⟨gb425, 1, none⟩ = some (.int .i64 a3_1) ∧ w'.cell? ⟨gb425, 2, none⟩ = some (.int .i64 a3_2) ∧ w'.cell? ⟨gb424, 0, none⟩ = some (.int .i64 a1_0) ∧ w'.cell? ⟨gb424, 1, none⟩ = some (.slice A1_1 l1_1.length c1_1) ∧ w'.cell? (ad433.add ((x11_2).toNat * 4)) = some (.int .i64 ((rd_T59 l0 x11_2).f0)) ∧ w'.cell? ⟨(ad433.add ((x11_2).toNat * 4)).block, (ad433.add ((x11_2).toNat * 4)).off + 1, none⟩ = some (.int .i64 ((rd_T59 l0 x11_2).f1)) ∧ w'.cell? ⟨(ad433.add ((x11_2).toNat * 4)).block, (ad433.add ((x11_2).toNat * 4)).off + 2, none⟩ = some (.int .i64 ((rd_T59 l0 x11_2).f2)) ∧ w'.cell? ⟨(ad433.add ((x11_2).toNat * 4)).block, (ad433.add ((x11_2).toNat * 4)).off + 3, none⟩ = some (.slice A433_3 ((rd_T59 l0 x11_2).f3).length c433_3)) (ds := []) #[false, false, false, false, false, false, false, false, false, false, false, false, false, false, false, false, false, false, false] (by kernel_rfl) rfl rfl ⟨(bC_q BK425.out 0).trans rfl, (bC_q BK425.out 1).trans rfl, (bC_q BK425.out 2).trans rfl, (bC_q BK424.out 0).trans rfl, (bC_q BK424.out 1).trans rfl, (cel HB.out hw433_0), (cel HB.out hw433_1), (cel HB.out hw433_2), (cel HB.out hw433_3)⟩ (fun hHeld => ?_); refine with_tabW spec_OutageRepair.tab8 spec_OutageRepair.bits8 (fun HT_ HW_ => ?_)
                generalize wr.drew = w56 at HO_10 BK424 BK425 HB HR433_3 hx433_0 hx433_1 hx433_2 hx433_3 hHeld ⊢
                refine pure_ (i := 0) (N := some 40) (v := ?_) (a' := ?_) #[true, false, false, false, false, false, false, false, false, false, false, false, false, false, false, false, false, false, false] rfl rfl (any_of HT_.out (by kernel_rfl)) (fun _ _ _ h => h) (Or.inl ⟨by rfl, ?_⟩) ?_ ?_
                rotate_left
                ·intro w'
                 go_simp
                 with_reducible rfl
                rotate_left
                ·simp only [Act.put, sA_q, sZ_q, sS_q, i64_w, i32_w]
                 rfl
                refine pure_ (i := 1) (N := some 41) (v := ?_) (a' := ?_) #[true, true, false, false, false, false, false, false, false, false, false, false, false, false, false, false, false, false, false] rfl rfl (any_of HT_.out (by kernel_rfl)) (fun _ _ _ h => h) (Or.inl ⟨by rfl, ?_⟩) ?_ ?_
                rotate_left
                ·intro w'
                 go_simp
                 with_reducible rfl
                rotate_left
                ·simp only [Act.put, sA_q, sZ_q, sS_q, i64_w, i32_w]
                 rfl
                refine pure_ (i := 2) (N := some 42) (v := ?_) (a' := ?_) #[true, true, true, false, false, false, false, false, false, false, false, false, false, false, false, false, false, false, false] rfl rfl (any_of HT_.out (by kernel_rfl)) (fun _ _ _ h => h) (Or.inl ⟨by rfl, ?_⟩) ?_ ?_
                rotate_left
                ·intro w'
                 go_simp
                 with_reducible rfl
                rotate_left
                ·simp only [Act.put, sA_q, sZ_q, sS_q, i64_w, i32_w]
                 rfl
                refine pure_ (i := 4) (N := some 44) (v := ?_) (a' := ?_) #[true, true, true, false, true, false, false, false, false, false, false, false, false, false, false, false, false, false, false] rfl rfl (any_of HT_.out (by kernel_rfl)) (fun _ _ _ h => h) (Or.inl ⟨by rfl, ?_⟩) ?_ ?_
                rotate_left
                ·intro w'
                 go_simp
                 with_reducible rfl
                rotate_left
                ·simp only [Act.put, sA_q, sZ_q, sS_q, i64_w, i32_w]
                 rfl
                refine take_ (i := 3) (N := some 43) (v := ?_) (a' := ?_) #[true, true, true, true, true, false, false, false, false, false, false, false, false, false, false, false, false, false, false] rfl rfl (take_ofW HT_.out HW_.out (by kernel_rfl)) (fun _ _ _ h => h) (Or.inl ⟨by rfl, ?_⟩) hHeld ?_ ?_
                rotate_left
                ·rintro w' ⟨s0, s1, s2, s3, s4, s5, s6, s7, s8⟩
                 go_simp
                 with_reducible rfl
                rotate_left
                ·simp only [Act.put, sA_q, sZ_q, sS_q, i64_w, i32_w]
                 rfl
                refine take_ (i := 5) (N := some 45) (v := ?_) (a' := ?_) #[true, true, true, true, true, true, false, false, false, false, false, false, false, false, false, false, false, false, false] rfl rfl (take_ofW HT_.out HW_.out (by kernel_rfl)) (fun _ _ _ h => h) (Or.inl ⟨by rfl, ?_⟩) hHeld ?_ ?_
                rotate_left
                ·rintro w' ⟨s0, s1, s2, s3, s4, s5, s6, s7, s8⟩
                 go_simp
                 with_reducible rfl
                rotate_left
                ·simp only [Act.put, sA_q, sZ_q, sS_q, i64_w, i32_w]
                 rfl
                refine one_ (i := 6) (N := some 46) #[true, true, true, true, true, true, true, false, false, false, false, false, false, false, false, false, false, false, false] rfl rfl (one_of HT_.out (by kernel_rfl)) (by decide) (fun K hK => ?_)
                refine goes_ Try.func34 (by kernel_rfl) rfl #[.agg #[.int .i64 ((rd_T59 l0 x11_2).f0), .int .i64 ((rd_T59 l0 x11_2).f1), .int .i64 ((rd_T59 l0 x11_2).f2), .slice A433_3 ((rd_T59 l0 x11_2).f3).length c433_3], .int .i64 x12_3, .agg #[.int .i64 a3_0, .int .i64 a3_1, .int .i64 a3_2]] (by rfl) rfl rfl (by (try simp only [lM_q, lC_q, lN_q]); first | done | rfl | (simp only [lD_q, lT_q]; rfl)) ?_
                with_reducible refine (spec_l33Hit.calls ((rd_T59 l0 x11_2).f0) ((rd_T59 l0 x11_2).f1) ((rd_T59 l0 x11_2).f2) _ _ ((rd_T59 l0 x11_2).f3) x12_3 a3_0 a3_1 a3_2 false _ ?side1 ?side2 A32.out).mono ?_
                (case side1 => exact cup (cB_q HR433_3.out HB.out))
                (case side2 => exact HC433_3.out)
                rintro e w57 ⟨rfl, hb⟩
                refine ⟨_, rfl, ?_⟩
                have n0_ := Ae_q (rO_q (rup HO_10.out) hb)
                have n1_ := Ae_q (bB_q (g := gb424) (o := .cells #[.int .i64 a1_0, .slice A1_1 l1_1.length c1_1] 39 (0, 0)) (bup BK424.out) hb)
                have n2_ := Ae_q (bB_q (g := gb425) (o := .cells #[.int .i64 a3_0, .int .i64 a3_1, .int .i64 a3_2] 45 (0, 0)) (bup BK425.out) hb)
                have n3_ := Ae_q (bT_q (by repeat (with_reducible first | exact HB.out | apply bA_q | apply pB_q | apply bD_q | refine bS_q ?_ GE424.out | refine bS_q ?_ GE425.out)) hb)
                clear HO_10
                clear BK424
                clear BK425
                clear HB
                have HO_10 := n0_
                have BK424 := n1_
                have BK425 := n2_
                have HB := n3_
                clear n0_ n1_ n2_ n3_
                (try clear hb)
                (try clear hb2)
                (try clear hk)
                (try clear hi)
                refine hK.out _ _ ⟨(bC_q BK425.out 0).trans rfl, (bC_q BK425.out 1).trans rfl, (bC_q BK425.out 2).trans rfl, (bC_q BK424.out 0).trans rfl, (bC_q BK424.out 1).trans rfl, (cel HB.out hw433_0), (cel HB.out hw433_1), (cel HB.out hw433_2), (cel HB.out hw433_3)⟩ (fun hHeld => ?_)
                clear hK K
                refine norm_ (a' := ?_) ?_ ?_
                rotate_left
                ·show Act.put _ (some 46) _ = _
                 simp only [Act.put, sA_q, sZ_q, sS_q, i64_w, i32_w]
                 rfl
                refine pure_ (i := 7) (N := some 47) (v := ?_) (a' := ?_) #[true, true, true, true, true, true, true, true, false, false, false, false, false, false, false, false, false, false, false] rfl rfl (any_of HT_.out (by kernel_rfl)) (fun _ _ _ h => h) (Or.inl ⟨by rfl, ?_⟩) ?_ ?_
                rotate_left
                ·intro w'
                 go_simp
                 with_reducible rfl
                rotate_left
                ·simp only [Act.put, sA_q, sZ_q, sS_q, i64_w, i32_w]
                 rfl
                refine pure_ (i := 8) (N := some 48) (v := ?_) (a' := ?_) #[true, true, true, true, true, true, true, true, true, false, false, false, false, false, false, false, false, false, false] rfl rfl (any_of HT_.out (by kernel_rfl)) (fun _ _ _ h => h) (Or.inl ⟨by rfl, ?_⟩) ?_ ?_
                rotate_left
                ·intro w'
                 go_simp
                 with_reducible rfl
                rotate_left
                ·simp only [Act.put, sA_q, sZ_q, sS_q, i64_w, i32_w]
                 rfl
                refine pure_ (i := 11) (N := some 51) (v := ?_) (a' := ?_) #[true, true, true, true, true, true, true, true, true, false, false, true, false, false, false, false, false, false, false] rfl rfl (any_of HT_.out (by kernel_rfl)) (fun _ _ _ h => h) (Or.inl ⟨by rfl, ?_⟩) ?_ ?_
                rotate_left
                ·intro w'
                 go_simp
                 with_reducible rfl
                rotate_left
                ·simp only [Act.put, sA_q, sZ_q, sS_q, i64_w, i32_w]
                 rfl
                refine pure_ (i := 13) (N := some 53) (v := ?_) (a' := ?_) #[true, true, true, true, true, true, true, true, true, false, false, true, false, true, false, false, false, false, false] rfl rfl (any_of HT_.out (by kernel_rfl)) (fun _ _ _ h => h) (Or.inl ⟨by rfl, ?_⟩) ?_ ?_
                rotate_left
                ·intro w'
                 go_simp
                 with_reducible rfl
                rotate_left
                ·simp only [Act.put, sA_q, sZ_q, sS_q, i64_w, i32_w]
                 rfl
                refine take_ (i := 9) (N := some 49) (v := ?_) (a' := ?_) #[true, true, true, true, true, true, true, true, true, true, false, true, false, true, false, false, false, false, false] rfl rfl (take_ofW HT_.out HW_.out (by kernel_rfl)) (fun _ _ _ h => h) (Or.inl ⟨by rfl, ?_⟩) hHeld ?_ ?_
                rotate_left
                ·rintro w' ⟨s0, s1, s2, s3, s4, s5, s6, s7, s8⟩
                 go_simp
                 with_reducible rfl
                rotate_left
                ·simp only [Act.put, sA_q, sZ_q, sS_q, i64_w, i32_w]
                 rfl
                refine join_ (σ := Value × Value × Value) 4 #[true, true, true, true, true, true, true, true, true, true, true, true, true, true, true, false, false, false, false] (fun s_ => [(50, s_.1), (52, s_.2.1), (54, s_.2.2)]) (fun s_ w' => (w'.cell? ⟨gb425, 0, none⟩ = some (.int .i64 a3_0) ∧ w'.cell? ⟨gb425, 1, none⟩ = some (.int .i64 a3_1) ∧ w'.cell? ⟨gb425, 2, none⟩ = some (.int .i64 a3_2) ∧ w'.cell? ⟨gb424, 0, none⟩ = some (.int .i64 a1_0) ∧ w'.cell? ⟨gb424, 1, none⟩ = some (.slice A1_1 l1_1.length c1_1) ∧ w'.cell? (ad433.add ((x11_2).toNat * 4)) = some (.int .i64 ((rd_T59 l0 x11_2).f0)) ∧ w'.cell? ⟨(ad433.add ((x11_2).toNat * 4)).block, (ad433.add ((x11_2).toNat * 4)).off + 1, none⟩ = some (.int .i64 ((rd_T59 l0 x11_2).f1)) ∧ w'.cell? ⟨(ad433.add ((x11_2).toNat * 4)).block, (ad433.add ((x11_2).toNat * 4)).off + 2, none⟩ = some (.int .i64 ((rd_T59 l0 x11_2).f2)) ∧ w'.cell? ⟨(ad433.add ((x11_2).toNat * 4)).block, (ad433.add ((x11_2).toNat * 4)).off + 3, none⟩ = some (.slice A433_3 ((rd_T59 l0 x11_2).f3).length c433_3)) ∧ (Kd.R kI_q 3 w' w.heap.size (fun k_ => some k_ ≠ (s_.2.2 : Value).ownBlock ∧ some k_ ≠ (.slice Ao28 x10_2.length co28 : Value).ownBlock) s_.2.1 y438) ∧ (Kd.R kI_q 3 w' w.heap.size (fun k_ => some k_ ≠ (s_.2.1 : Value).ownBlock ∧ some k_ ≠ (.slice Ao28 x10_2.length co28 : Value).ownBlock) s_.2.2 y441) ∧ (Kd.R kI_q 3 w' w.heap.size (fun k_ => some k_ ≠ (s_.2.1 : Value).ownBlock ∧ some k_ ≠ (s_.2.2 : Value).ownBlock) (.slice Ao28 x10_2.length co28) x10_2) ∧ (w'.heap[gb424]? = some (.cells #[.int .i64 a1_0, .slice A1_1 l1_1.length c1_1] 39 (0, 0))) ∧ (w'.heap[gb425]? = some (.cells #[.int .i64 a3_0, .int .i64 a3_1, .int .i64 a3_2] 45 (0, 0))) ∧ (Below w.heap.size w w')) ?_ ?_
                rotate_left
                ·intro hCont
                 refine two_ (i := 10) (j := 14) (Ni := some 50) (Nj := some 54) #[true, true, true, true, true, true, true, true, true, true, true, true, false, true, false, false, false, false, false] #[true, true, true, true, true, true, true, true, true, true, false, true, false, true, true, false, false, false, false] rfl rfl rfl rfl (two_of HT_.out (by kernel_rfl)) (by decide) (by decide) (fun K hK => ?_) (fun K hK => ?_)
                 ·skip
                  refine rI_q kI_q _ 3 ?hg (N := 50) ?hd (xs := ([] : List Int)) (inner := []) (ok := fun _ => True) (okp := fun _ => True) ?hr ?hp (fun _ hk => hk) trivial (bR_q _ _) (nR_q _) (by simp) ?_; (case hd => rfl); (case hg => rfl); (case hr => first | (go_simp; done) | (go_simp; rfl)); (case hp => exact (Reps.none _ _))
                  intro v436 w58 ho59 hb hg_ hnew_
                  clear hg_ hnew_
                  (first | rw [← Ny435.out] at ho59 | (simp only [Int.reduceToNat] at ho59; rw [← Ny435.out] at ho59))
                  have n0_ := Ae_q (rE_q (rup HO_10.out) (rB_q ho59) hb)
                  have n1_ := Ae_q (rL_q (rW_q ho59 (rT_q (rup HO_10.out))) (bZ_q (by repeat (with_reducible first | exact HB.out | apply bA_q | apply pB_q | apply bD_q | refine bS_q ?_ GE424.out | refine bS_q ?_ GE425.out))))
                  have n2_ := Ae_q (bB_q (g := gb424) (o := .cells #[.int .i64 a1_0, .slice A1_1 l1_1.length c1_1] 39 (0, 0)) (bup BK424.out) hb)
                  have n3_ := Ae_q (bB_q (g := gb425) (o := .cells #[.int .i64 a3_0, .int .i64 a3_1, .int .i64 a3_2] 45 (0, 0)) (bup BK425.out) hb)
                  have n4_ := Ae_q (bT_q (by repeat (with_reducible first | exact HB.out | apply bA_q | apply pB_q | apply bD_q | refine bS_q ?_ GE424.out | refine bS_q ?_ GE425.out)) hb)
                  clear HO_10
                  clear BK424
                  clear BK425
                  clear HB
                  have HO_10 := n0_
                  have HO437 := n1_
                  have BK424 := n2_
                  have BK425 := n3_
                  have HB := n4_
                  clear n0_ n1_ n2_ n3_ n4_
                  clear hb ho59
                  refine hK.out _ _ ⟨(bC_q BK425.out 0).trans rfl, (bC_q BK425.out 1).trans rfl, (bC_q BK425.out 2).trans rfl, (bC_q BK424.out 0).trans rfl, (bC_q BK424.out 1).trans rfl, (cel HB.out hw433_0), (cel HB.out hw433_1), (cel HB.out hw433_2), (cel HB.out hw433_3)⟩ (fun hHeld => ?_)
                  clear hK K
                  refine norm_ (a' := ?_) ?_ ?_
                  rotate_left
                  ·show Act.put _ (some 50) _ = _
                   simp only [Act.put, sA_q, sZ_q, sS_q, i64_w, i32_w]
                   rfl
                  refine two_ (i := 12) (j := 14) (Ni := some 52) (Nj := some 54) #[true, true, true, true, true, true, true, true, true, true, true, true, true, true, false, false, false, false, false] #[true, true, true, true, true, true, true, true, true, true, true, true, false, true, true, false, false, false, false] rfl rfl rfl rfl (two_of HT_.out (by kernel_rfl)) (by decide) (by decide) (fun K hK => ?_) (fun K hK => ?_)
                  ·skip
                   refine rP_q kI_q (w0 := w) w.heap.size (by rfl) (.tmp 50) (.tmp 51) 22 3 (.int .i64 0) 8 rfl Try.underlying22 info3 rfl (by decide) (by omega) v436 y435 x10_2 _ _ _ (fun k_ => some k_ ≠ (.slice Ao28 x10_2.length co28 : Value).ownBlock) (fun _ => False) rfl rfl ?aO ?aR (fun _ _ h => h) (fun _ h => h.elim) ?aF ?aB ?aS ?aL ?_
                   (case aR => exact cup (rR_q HO_10.out).2.2)
                   (case aB => exact (by repeat (with_reducible first | exact HB.out | apply bA_q | apply pB_q | apply bD_q | refine bS_q ?_ GE424.out | refine bS_q ?_ GE425.out)))
                   (case aF => exact (fun k_ hk => Kd.fresh' (rT_q (rup HO_10.out)) k_ hk))
                   (case aO => exact (by (with_reducible repeat (first | apply rA_q | apply rN_q | apply rD_q)); exact rM_q HO437.out (fun _ hk => hk.2)))
                   (case aS => exact (bZ_q (by repeat (with_reducible first | exact HB.out | apply bA_q | apply pB_q | apply bD_q | refine bS_q ?_ GE424.out | refine bS_q ?_ GE425.out))))
                   (case aL => have := LMc36.out; omega)
                   intro v439 w60 ho hb hg hat
                   rw [← Ny438.out] at ho
                   have n0_ := Ae_q (rF_q (ok := (fun _ => True)) (rup HO_10.out) hg hat)
                   have n1_ := Ae_q (bG_q (g := gb424) (o := .cells #[.int .i64 a1_0, .slice A1_1 l1_1.length c1_1] 39 (0, 0)) (bup BK424.out) hg (Kd.R_ne HO437.out BK424.out (by decide)))
                   have n2_ := Ae_q (bG_q (g := gb425) (o := .cells #[.int .i64 a3_0, .int .i64 a3_1, .int .i64 a3_2] 45 (0, 0)) (bup BK425.out) hg (Kd.R_ne HO437.out BK425.out (by decide)))
                   have n3_ := Ae_q (hb)
                   have n4_ := Ae_q (ho)
                   clear HO_10
                   clear BK424
                   clear BK425
                   clear HB
                   clear HO437
                   have HO_10 := n0_
                   have BK424 := n1_
                   have BK425 := n2_
                   have HB := n3_
                   have HO440 := n4_
                   clear n0_ n1_ n2_ n3_ n4_
                   clear ho hb hg hat
                   refine hK.out _ _ ⟨(bC_q BK425.out 0).trans rfl, (bC_q BK425.out 1).trans rfl, (bC_q BK425.out 2).trans rfl, (bC_q BK424.out 0).trans rfl, (bC_q BK424.out 1).trans rfl, (cel HB.out hw433_0), (cel HB.out hw433_1), (cel HB.out hw433_2), (cel HB.out hw433_3)⟩ (fun hHeld => ?_)
                   clear hK K
                   refine norm_ (a' := ?_) ?_ ?_
                   rotate_left
                   ·show Act.put _ (some 52) _ = _
                    simp only [Act.put, sA_q, sZ_q, sS_q, i64_w, i32_w]
                    rfl
                   refine one_ (i := 14) (N := some 54) #[true, true, true, true, true, true, true, true, true, true, true, true, true, true, true, false, false, false, false] rfl rfl (one_of HT_.out (by kernel_rfl)) (by decide) (fun K hK => ?_)
                   refine rI_q kI_q _ 3 ?hg (N := 54) ?hd (xs := ([x12_3] : List Int)) (inner := [.int .i64 x12_3]) (ok := fun _ => True) (okp := fun _ => True) ?hr ?hp (fun _ hk => hk) trivial (bR_q _ _) (nR_q _) (by simp) ?_; (case hd => rfl); (case hg => rfl); (case hr => first | (go_simp; done) | (go_simp; rfl)); (case hp => exact (Reps.one (show Kd.M kI_q _ _ _ x12_3 [.int .i64 x12_3] from rfl) (Reps.none _ _)))
                   intro v442 w61 ho62 hb hg_ hnew_
                   clear hg_ hnew_
                   (first | rw [← Ny441.out] at ho62 | (simp only [Int.reduceToNat] at ho62; rw [← Ny441.out] at ho62))
                   have n0_ := Ae_q (rE_q (rup HO_10.out) (rB_q ho62) hb)
                   have n1_ := Ae_q (rE_q (rup HO440.out) (rB_q ho62) hb)
                   have n2_ := Ae_q (rL_q (rW_q (rW_q ho62 (rT_q (rup HO_10.out))) (rT_q (rup HO440.out))) (bZ_q (by repeat (with_reducible first | exact HB.out | apply bA_q | apply pB_q | apply bD_q | refine bS_q ?_ GE424.out | refine bS_q ?_ GE425.out))))
                   have n3_ := Ae_q (bB_q (g := gb424) (o := .cells #[.int .i64 a1_0, .slice A1_1 l1_1.length c1_1] 39 (0, 0)) (bup BK424.out) hb)
                   have n4_ := Ae_q (bB_q (g := gb425) (o := .cells #[.int .i64 a3_0, .int .i64 a3_1, .int .i64 a3_2] 45 (0, 0)) (bup BK425.out) hb)
                   have n5_ := Ae_q (bT_q (by repeat (with_reducible first | exact HB.out | apply bA_q | apply pB_q | apply bD_q | refine bS_q ?_ GE424.out | refine bS_q ?_ GE425.out)) hb)
                   clear HO_10
                   clear HO440
                   clear BK424
                   clear BK425
                   clear HB
                   have HO_10 := n0_
                   have HO440 := n1_
                   have HO443 := n2_
                   have BK424 := n3_
                   have BK425 := n4_
                   have HB := n5_
                   clear n0_ n1_ n2_ n3_ n4_ n5_
                   clear hb ho62
                   refine hK.out _ _ ⟨(bC_q BK425.out 0).trans rfl, (bC_q BK425.out 1).trans rfl, (bC_q BK425.out 2).trans rfl, (bC_q BK424.out 0).trans rfl, (bC_q BK424.out 1).trans rfl, (cel HB.out hw433_0), (cel HB.out hw433_1), (cel HB.out hw433_2), (cel HB.out hw433_3)⟩ (fun hHeld => ?_)
                   clear hK K
                   refine norm_ (a' := ?_) ?_ ?_
                   rotate_left
                   ·show Act.put _ (some 54) _ = _
                    simp only [Act.put, sA_q, sZ_q, sS_q, i64_w, i32_w]
                    rfl
                   exact norm_ (by simp only [putAll, Act.put, sA_q, sZ_q, sS_q]) (hCont (v436, v439, v442) _ ⟨hHeld, (by (with_reducible repeat (first | apply rA_q | apply rN_q | apply rD_q)); exact rM_q HO440.out (fun _ hk => ⟨hk.2, hk.1⟩)), (by (with_reducible repeat (first | apply rA_q | apply rN_q | apply rD_q)); exact rM_q HO443.out (fun _ hk => ⟨hk.2, hk.1.2⟩)), (by (with_reducible repeat (first | apply rA_q | apply rN_q | apply rD_q)); exact rM_q HO_10.out (fun _ hk => ⟨hk.1.2, hk.2⟩)), (bup BK424.out), (bup BK425.out), (by repeat (with_reducible first | exact HB.out | apply bA_q | apply pB_q | apply bD_q | refine bS_q ?_ GE424.out | refine bS_q ?_ GE425.out))⟩)
                  skip
                  refine rI_q kI_q _ 3 ?hg (N := 54) ?hd (xs := ([x12_3] : List Int)) (inner := [.int .i64 x12_3]) (ok := fun _ => True) (okp := fun _ => True) ?hr ?hp (fun _ hk => hk) trivial (bR_q _ _) (nR_q _) (by simp) ?_; (case hd => rfl); (case hg => rfl); (case hr => first | (go_simp; done) | (go_simp; rfl)); (case hp => exact (Reps.one (show Kd.M kI_q _ _ _ x12_3 [.int .i64 x12_3] from rfl) (Reps.none _ _)))
                  intro v442 w60 ho61 hb hg_ hnew_
                  clear hg_ hnew_
                  (first | rw [← Ny441.out] at ho61 | (simp only [Int.reduceToNat] at ho61; rw [← Ny441.out] at ho61))
                  have n0_ := Ae_q (rE_q (rup HO_10.out) (rB_q ho61) hb)
                  have n1_ := Ae_q (rE_q (rup HO437.out) (rB_q ho61) hb)
                  have n2_ := Ae_q (rL_q (rW_q (rW_q ho61 (rT_q (rup HO_10.out))) (rT_q (rup HO437.out))) (bZ_q (by repeat (with_reducible first | exact HB.out | apply bA_q | apply pB_q | apply bD_q | refine bS_q ?_ GE424.out | refine bS_q ?_ GE425.out))))
                  have n3_ := Ae_q (bB_q (g := gb424) (o := .cells #[.int .i64 a1_0, .slice A1_1 l1_1.length c1_1] 39 (0, 0)) (bup BK424.out) hb)
                  have n4_ := Ae_q (bB_q (g := gb425) (o := .cells #[.int .i64 a3_0, .int .i64 a3_1, .int .i64 a3_2] 45 (0, 0)) (bup BK425.out) hb)
                  have n5_ := Ae_q (bT_q (by repeat (with_reducible first | exact HB.out | apply bA_q | apply pB_q | apply bD_q | refine bS_q ?_ GE424.out | refine bS_q ?_ GE425.out)) hb)
                  clear HO_10
                  clear HO437
                  clear BK424
                  clear BK425
                  clear HB
                  have HO_10 := n0_
                  have HO437 := n1_
                  have HO443 := n2_
                  have BK424 := n3_
                  have BK425 := n4_
                  have HB := n5_
                  clear n0_ n1_ n2_ n3_ n4_ n5_
                  clear hb ho61
                  refine hK.out _ _ ⟨(bC_q BK425.out 0).trans rfl, (bC_q BK425.out 1).trans rfl, (bC_q BK425.out 2).trans rfl, (bC_q BK424.out 0).trans rfl, (bC_q BK424.out 1).trans rfl, (cel HB.out hw433_0), (cel HB.out hw433_1), (cel HB.out hw433_2), (cel HB.out hw433_3)⟩ (fun hHeld => ?_)
                  clear hK K
                  refine norm_ (a' := ?_) ?_ ?_
                  rotate_left
                  ·show Act.put _ (some 54) _ = _
                   simp only [Act.put, sA_q, sZ_q, sS_q, i64_w, i32_w]
                   rfl
                  refine one_ (i := 12) (N := some 52) #[true, true, true, true, true, true, true, true, true, true, true, true, true, true, true, false, false, false, false] rfl rfl (one_of HT_.out (by kernel_rfl)) (by decide) (fun K hK => ?_)
                  refine rP_q kI_q (w0 := w) w.heap.size (by rfl) (.tmp 50) (.tmp 51) 22 3 (.int .i64 0) 8 rfl Try.underlying22 info3 rfl (by decide) (by omega) v436 y435 x10_2 _ _ _ (fun k_ => some k_ ≠ (.slice Ao28 x10_2.length co28 : Value).ownBlock ∧ some k_ ≠ (v442 : Value).ownBlock) (fun _ => False) rfl rfl ?aO ?aR (fun _ _ h => h) (fun _ h => h.elim) ?aF ?aB ?aS ?aL ?_
                  (case aR => exact cup (rR_q HO_10.out).2.2)
                  (case aB => exact (by repeat (with_reducible first | exact HB.out | apply bA_q | apply pB_q | apply bD_q | refine bS_q ?_ GE424.out | refine bS_q ?_ GE425.out)))
                  (case aF => exact (fun k_ hk => ⟨Kd.fresh' (rT_q (rup HO_10.out)) k_ hk, Kd.fresh' (rT_q (rup HO443.out)) k_ hk⟩))
                  (case aO => exact (by (with_reducible repeat (first | apply rA_q | apply rN_q | apply rD_q)); exact rM_q HO437.out (fun _ hk => ⟨hk.1.2, hk.2⟩)))
                  (case aS => exact (bZ_q (by repeat (with_reducible first | exact HB.out | apply bA_q | apply pB_q | apply bD_q | refine bS_q ?_ GE424.out | refine bS_q ?_ GE425.out))))
                  (case aL => have := LMc36.out; omega)
                  intro v439 w62 ho hb hg hat
                  rw [← Ny438.out] at ho
                  have n0_ := Ae_q (rF_q (ok := (fun k_ => some k_ ≠ (v442 : Value).ownBlock)) (by (with_reducible repeat (first | apply rA_q | apply rN_q | apply rD_q)); exact rM_q HO_10.out (fun _ hk => ⟨hk.2, hk.1.2⟩)) hg hat)
                  have n1_ := Ae_q (bG_q (g := gb424) (o := .cells #[.int .i64 a1_0, .slice A1_1 l1_1.length c1_1] 39 (0, 0)) (bup BK424.out) hg (Kd.R_ne HO437.out BK424.out (by decide)))
                  have n2_ := Ae_q (bG_q (g := gb425) (o := .cells #[.int .i64 a3_0, .int .i64 a3_1, .int .i64 a3_2] 45 (0, 0)) (bup BK425.out) hg (Kd.R_ne HO437.out BK425.out (by decide)))
                  have n3_ := Ae_q (rF_q (ok := (fun k_ => some k_ ≠ (.slice Ao28 x10_2.length co28 : Value).ownBlock)) (by (with_reducible repeat (first | apply rA_q | apply rN_q | apply rD_q)); exact rM_q HO443.out (fun _ hk => ⟨hk.1.2, hk.2⟩)) hg hat)
                  have n4_ := Ae_q (hb)
                  have n5_ := Ae_q (ho)
                  clear HO_10
                  clear BK424
                  clear BK425
                  clear HO443
                  clear HB
                  clear HO437
                  have HO_10 := n0_
                  have BK424 := n1_
                  have BK425 := n2_
                  have HO443 := n3_
                  have HB := n4_
                  have HO440 := n5_
                  clear n0_ n1_ n2_ n3_ n4_ n5_
                  clear ho hb hg hat
                  refine hK.out _ _ ⟨(bC_q BK425.out 0).trans rfl, (bC_q BK425.out 1).trans rfl, (bC_q BK425.out 2).trans rfl, (bC_q BK424.out 0).trans rfl, (bC_q BK424.out 1).trans rfl, (cel HB.out hw433_0), (cel HB.out hw433_1), (cel HB.out hw433_2), (cel HB.out hw433_3)⟩ (fun hHeld => ?_)
                  clear hK K
                  refine norm_ (a' := ?_) ?_ ?_
                  rotate_left
                  ·show Act.put _ (some 52) _ = _
                   simp only [Act.put, sA_q, sZ_q, sS_q, i64_w, i32_w]
                   rfl
                  exact norm_ (by simp only [putAll, Act.put, sA_q, sZ_q, sS_q]) (hCont (v436, v439, v442) _ ⟨hHeld, (by (with_reducible repeat (first | apply rA_q | apply rN_q | apply rD_q)); exact rM_q HO440.out (fun _ hk => ⟨hk.2, hk.1⟩)), (by (with_reducible repeat (first | apply rA_q | apply rN_q | apply rD_q)); exact rM_q HO443.out (fun _ hk => ⟨hk.2, hk.1⟩)), (by (with_reducible repeat (first | apply rA_q | apply rN_q | apply rD_q)); exact rM_q HO_10.out (fun _ hk => ⟨hk.2, hk.1⟩)), (bup BK424.out), (bup BK425.out), (by repeat (with_reducible first | exact HB.out | apply bA_q | apply pB_q | apply bD_q | refine bS_q ?_ GE424.out | refine bS_q ?_ GE425.out))⟩)
                 skip
                 refine rI_q kI_q _ 3 ?hg (N := 54) ?hd (xs := ([x12_3] : List Int)) (inner := [.int .i64 x12_3]) (ok := fun _ => True) (okp := fun _ => True) ?hr ?hp (fun _ hk => hk) trivial (bR_q _ _) (nR_q _) (by simp) ?_; (case hd => rfl); (case hg => rfl); (case hr => first | (go_simp; done) | (go_simp; rfl)); (case hp => exact (Reps.one (show Kd.M kI_q _ _ _ x12_3 [.int .i64 x12_3] from rfl) (Reps.none _ _)))
                 intro v442 w58 ho59 hb hg_ hnew_
                 clear hg_ hnew_
                 (first | rw [← Ny441.out] at ho59 | (simp only [Int.reduceToNat] at ho59; rw [← Ny441.out] at ho59))
                 have n0_ := Ae_q (rE_q (rup HO_10.out) (rB_q ho59) hb)
                 have n1_ := Ae_q (rL_q (rW_q ho59 (rT_q (rup HO_10.out))) (bZ_q (by repeat (with_reducible first | exact HB.out | apply bA_q | apply pB_q | apply bD_q | refine bS_q ?_ GE424.out | refine bS_q ?_ GE425.out))))
                 have n2_ := Ae_q (bB_q (g := gb424) (o := .cells #[.int .i64 a1_0, .slice A1_1 l1_1.length c1_1] 39 (0, 0)) (bup BK424.out) hb)
                 have n3_ := Ae_q (bB_q (g := gb425) (o := .cells #[.int .i64 a3_0, .int .i64 a3_1, .int .i64 a3_2] 45 (0, 0)) (bup BK425.out) hb)
                 have n4_ := Ae_q (bT_q (by repeat (with_reducible first | exact HB.out | apply bA_q | apply pB_q | apply bD_q | refine bS_q ?_ GE424.out | refine bS_q ?_ GE425.out)) hb)
                 clear HO_10
                 clear BK424
                 clear BK425
                 clear HB
                 have HO_10 := n0_
                 have HO443 := n1_
                 have BK424 := n2_
                 have BK425 := n3_
                 have HB := n4_
                 clear n0_ n1_ n2_ n3_ n4_
                 clear hb ho59
                 refine hK.out _ _ ⟨(bC_q BK425.out 0).trans rfl, (bC_q BK425.out 1).trans rfl, (bC_q BK425.out 2).trans rfl, (bC_q BK424.out 0).trans rfl, (bC_q BK424.out 1).trans rfl, (cel HB.out hw433_0), (cel HB.out hw433_1), (cel HB.out hw433_2), (cel HB.out hw433_3)⟩ (fun hHeld => ?_)
                 clear hK K
                 refine norm_ (a' := ?_) ?_ ?_
                 rotate_left
                 ·show Act.put _ (some 54) _ = _
                  simp only [Act.put, sA_q, sZ_q, sS_q, i64_w, i32_w]
                  rfl
                 refine one_ (i := 10) (N := some 50) #[true, true, true, true, true, true, true, true, true, true, true, true, false, true, true, false, false, false, false] rfl rfl (one_of HT_.out (by kernel_rfl)) (by decide) (fun K hK => ?_)
                 refine rI_q kI_q _ 3 ?hg (N := 50) ?hd (xs := ([] : List Int)) (inner := []) (ok := fun _ => True) (okp := fun _ => True) ?hr ?hp (fun _ hk => hk) trivial (bR_q _ _) (nR_q _) (by simp) ?_; (case hd => rfl); (case hg => rfl); (case hr => first | (go_simp; done) | (go_simp; rfl)); (case hp => exact (Reps.none _ _))
                 intro v436 w60 ho61 hb hg_ hnew_
                 clear hg_ hnew_
                 (first | rw [← Ny435.out] at ho61 | (simp only [Int.reduceToNat] at ho61; rw [← Ny435.out] at ho61))
                 have n0_ := Ae_q (rE_q (rup HO_10.out) (rB_q ho61) hb)
                 have n1_ := Ae_q (rE_q (rup HO443.out) (rB_q ho61) hb)
                 have n2_ := Ae_q (rL_q (rW_q (rW_q ho61 (rT_q (rup HO_10.out))) (rT_q (rup HO443.out))) (bZ_q (by repeat (with_reducible first | exact HB.out | apply bA_q | apply pB_q | apply bD_q | refine bS_q ?_ GE424.out | refine bS_q ?_ GE425.out))))
                 have n3_ := Ae_q (bB_q (g := gb424) (o := .cells #[.int .i64 a1_0, .slice A1_1 l1_1.length c1_1] 39 (0, 0)) (bup BK424.out) hb)
                 have n4_ := Ae_q (bB_q (g := gb425) (o := .cells #[.int .i64 a3_0, .int .i64 a3_1, .int .i64 a3_2] 45 (0, 0)) (bup BK425.out) hb)
                 have n5_ := Ae_q (bT_q (by repeat (with_reducible first | exact HB.out | apply bA_q | apply pB_q | apply bD_q | refine bS_q ?_ GE424.out | refine bS_q ?_ GE425.out)) hb)
                 clear HO_10
                 clear HO443
                 clear BK424
                 clear BK425
                 clear HB
                 have HO_10 := n0_
                 have HO443 := n1_
                 have HO437 := n2_
                 have BK424 := n3_
                 have BK425 := n4_
                 have HB := n5_
                 clear n0_ n1_ n2_ n3_ n4_ n5_
                 clear hb ho61
                 refine hK.out _ _ ⟨(bC_q BK425.out 0).trans rfl, (bC_q BK425.out 1).trans rfl, (bC_q BK425.out 2).trans rfl, (bC_q BK424.out 0).trans rfl, (bC_q BK424.out 1).trans rfl, (cel HB.out hw433_0), (cel HB.out hw433_1), (cel HB.out hw433_2), (cel HB.out hw433_3)⟩ (fun hHeld => ?_)
                 clear hK K
                 refine norm_ (a' := ?_) ?_ ?_
                 rotate_left
                 ·show Act.put _ (some 50) _ = _
                  simp only [Act.put, sA_q, sZ_q, sS_q, i64_w, i32_w]
                  rfl
                 refine one_ (i := 12) (N := some 52) #[true, true, true, true, true, true, true, true, true, true, true, true, true, true, true, false, false, false, false] rfl rfl (one_of HT_.out (by kernel_rfl)) (by decide) (fun K hK => ?_)
                 refine rP_q kI_q (w0 := w) w.heap.size (by rfl) (.tmp 50) (.tmp 51) 22 3 (.int .i64 0) 8 rfl Try.underlying22 info3 rfl (by decide) (by omega) v436 y435 x10_2 _ _ _ (fun k_ => some k_ ≠ (.slice Ao28 x10_2.length co28 : Value).ownBlock ∧ some k_ ≠ (v442 : Value).ownBlock) (fun _ => False) rfl rfl ?aO ?aR (fun _ _ h => h) (fun _ h => h.elim) ?aF ?aB ?aS ?aL ?_
                 (case aR => exact cup (rR_q HO_10.out).2.2)
                 (case aB => exact (by repeat (with_reducible first | exact HB.out | apply bA_q | apply pB_q | apply bD_q | refine bS_q ?_ GE424.out | refine bS_q ?_ GE425.out)))
                 (case aF => exact (fun k_ hk => ⟨Kd.fresh' (rT_q (rup HO_10.out)) k_ hk, Kd.fresh' (rT_q (rup HO443.out)) k_ hk⟩))
                 (case aO => exact (by (with_reducible repeat (first | apply rA_q | apply rN_q | apply rD_q)); exact rM_q HO437.out (fun _ hk => ⟨hk.1.2, hk.2⟩)))
                 (case aS => exact (bZ_q (by repeat (with_reducible first | exact HB.out | apply bA_q | apply pB_q | apply bD_q | refine bS_q ?_ GE424.out | refine bS_q ?_ GE425.out))))
                 (case aL => have := LMc36.out; omega)
                 intro v439 w62 ho hb hg hat
                 rw [← Ny438.out] at ho
                 have n0_ := Ae_q (rF_q (ok := (fun k_ => some k_ ≠ (v442 : Value).ownBlock)) (by (with_reducible repeat (first | apply rA_q | apply rN_q | apply rD_q)); exact rM_q HO_10.out (fun _ hk => ⟨hk.1.2, hk.2⟩)) hg hat)
                 have n1_ := Ae_q (bG_q (g := gb424) (o := .cells #[.int .i64 a1_0, .slice A1_1 l1_1.length c1_1] 39 (0, 0)) (bup BK424.out) hg (Kd.R_ne HO437.out BK424.out (by decide)))
                 have n2_ := Ae_q (bG_q (g := gb425) (o := .cells #[.int .i64 a3_0, .int .i64 a3_1, .int .i64 a3_2] 45 (0, 0)) (bup BK425.out) hg (Kd.R_ne HO437.out BK425.out (by decide)))
                 have n3_ := Ae_q (rF_q (ok := (fun k_ => some k_ ≠ (.slice Ao28 x10_2.length co28 : Value).ownBlock)) (by (with_reducible repeat (first | apply rA_q | apply rN_q | apply rD_q)); exact rM_q HO443.out (fun _ hk => ⟨hk.1.2, hk.2⟩)) hg hat)
                 have n4_ := Ae_q (hb)
                 have n5_ := Ae_q (ho)
                 clear HO_10
                 clear BK424
                 clear BK425
                 clear HO443
                 clear HB
                 clear HO437
                 have HO_10 := n0_
                 have BK424 := n1_
                 have BK425 := n2_
                 have HO443 := n3_
                 have HB := n4_
                 have HO440 := n5_
                 clear n0_ n1_ n2_ n3_ n4_ n5_
                 clear ho hb hg hat
                 refine hK.out _ _ ⟨(bC_q BK425.out 0).trans rfl, (bC_q BK425.out 1).trans rfl, (bC_q BK425.out 2).trans rfl, (bC_q BK424.out 0).trans rfl, (bC_q BK424.out 1).trans rfl, (cel HB.out hw433_0), (cel HB.out hw433_1), (cel HB.out hw433_2), (cel HB.out hw433_3)⟩ (fun hHeld => ?_)
                 clear hK K
                 refine norm_ (a' := ?_) ?_ ?_
                 rotate_left
                 ·show Act.put _ (some 52) _ = _
                  simp only [Act.put, sA_q, sZ_q, sS_q, i64_w, i32_w]
                  rfl
                 exact norm_ (by simp only [putAll, Act.put, sA_q, sZ_q, sS_q]) (hCont (v436, v439, v442) _ ⟨hHeld, (by (with_reducible repeat (first | apply rA_q | apply rN_q | apply rD_q)); exact rM_q HO440.out (fun _ hk => ⟨hk.2, hk.1⟩)), (by (with_reducible repeat (first | apply rA_q | apply rN_q | apply rD_q)); exact rM_q HO443.out (fun _ hk => ⟨hk.2, hk.1⟩)), (by (with_reducible repeat (first | apply rA_q | apply rN_q | apply rD_q)); exact rM_q HO_10.out (fun _ hk => ⟨hk.2, hk.1⟩)), (bup BK424.out), (bup BK425.out), (by repeat (with_reducible first | exact HB.out | apply bA_q | apply pB_q | apply bD_q | refine bS_q ?_ GE424.out | refine bS_q ?_ GE425.out))⟩)
                rintro ⟨v436, v439, v442⟩ w63 ⟨hS_, h0_, h1_, h2_, h3_, h4_, h5_⟩
                have n0_ : Aside0 (Kd.R kI_q 3 w63 w.heap.size (fun k_ => some k_ ≠ (v442 : Value).ownBlock ∧ some k_ ≠ (.slice Ao28 x10_2.length co28 : Value).ownBlock) v439 y438) := ⟨h0_⟩
                have n1_ : Aside0 (Kd.R kI_q 3 w63 w.heap.size (fun k_ => some k_ ≠ (v439 : Value).ownBlock ∧ some k_ ≠ (.slice Ao28 x10_2.length co28 : Value).ownBlock) v442 y441) := ⟨h1_⟩
                have n2_ : Aside0 (Kd.R kI_q 3 w63 w.heap.size (fun k_ => some k_ ≠ (v439 : Value).ownBlock ∧ some k_ ≠ (v442 : Value).ownBlock) (.slice Ao28 x10_2.length co28) x10_2) := ⟨h2_⟩
                have n3_ : Aside0 (w63.heap[gb424]? = some (.cells #[.int .i64 a1_0, .slice A1_1 l1_1.length c1_1] 39 (0, 0))) := ⟨h3_⟩
                have n4_ : Aside0 (w63.heap[gb425]? = some (.cells #[.int .i64 a3_0, .int .i64 a3_1, .int .i64 a3_2] 45 (0, 0))) := ⟨h4_⟩
                have n5_ : Aside0 (Below w.heap.size w w63) := ⟨h5_⟩
                clear HO_10
                clear BK424
                clear BK425
                clear HB
                clear h0_ h1_ h2_ h3_ h4_ h5_
                have HO440 := n0_
                have HO443 := n1_
                have HO_10 := n2_
                have BK424 := n3_
                have BK425 := n4_
                have HB := n5_
                clear n0_ n1_ n2_ n3_ n4_ n5_
                have hHeld : w63.cell? ⟨gb425, 0, none⟩ = some (.int .i64 a3_0) ∧ w63.cell? ⟨gb425, 1, none⟩ = some (.int .i64 a3_1) ∧ w63.cell? ⟨gb425, 2, none⟩ = some (.int .i64 a3_2) ∧ w63.cell? ⟨gb424, 0, none⟩ = some (.int .i64 a1_0) ∧ w63.cell? ⟨gb424, 1, none⟩ = some (.slice A1_1 l1_1.length c1_1) ∧ w63.cell? (ad433.add ((x11_2).toNat * 4)) = some (.int .i64 ((rd_T59 l0 x11_2).f0)) ∧ w63.cell? ⟨(ad433.add ((x11_2).toNat * 4)).block, (ad433.add ((x11_2).toNat * 4)).off + 1, none⟩ = some (.int .i64 ((rd_T59 l0 x11_2).f1)) ∧ w63.cell? ⟨(ad433.add ((x11_2).toNat * 4)).block, (ad433.add ((x11_2).toNat * 4)).off + 2, none⟩ = some (.int .i64 ((rd_T59 l0 x11_2).f2)) ∧ w63.cell? ⟨(ad433.add ((x11_2).toNat * 4)).block, (ad433.add ((x11_2).toNat * 4)).off + 3, none⟩ = some (.slice A433_3 ((rd_T59 l0 x11_2).f3).length c433_3) := hS_
                obtain ⟨Ao65, co65, eo65⟩ := rS_q HO443.out
                (first | subst eo65 | (injection eo65 with f1_ f2_ f3_; have f4_ := f1_.symm; have f5_ := f3_.symm; clear f1_ f2_ f3_; subst f4_; subst f5_))
                refine norm_ (a' := ?_) ?_ ?_
                rotate_left
                ·simp only [putAll, Act.put, sA_q, sZ_q, sS_q]
                 rfl
                refine one_ (i := 15) (N := some 55) #[true, true, true, true, true, true, true, true, true, true, true, true, true, true, true, true, false, false, false] rfl rfl (one_of HT_.out (by kernel_rfl)) (by decide) (fun K hK => ?_)
                refine rP_q kI_q (w0 := w) w.heap.size (by rfl) (.tmp 52) (.tmp 54) 22 3 (.int .i64 0) 8 rfl Try.underlying22 info3 rfl (by decide) (by omega) v439 y438 y441 _ _ _ (fun k_ => some k_ ≠ (.slice Ao28 x10_2.length co28 : Value).ownBlock ∧ some k_ ≠ (.slice Ao65 y441.length co65 : Value).ownBlock) (fun _ => False) rfl rfl ?aO ?aR (fun _ _ h => h) (fun _ h => h.elim) ?aF ?aB ?aS ?aL ?_
                (case aR => exact cup (rR_q HO443.out).2.2)
                (case aB => exact (by repeat (with_reducible first | exact HB.out | apply bA_q | apply pB_q | apply bD_q | refine bS_q ?_ GE424.out | refine bS_q ?_ GE425.out)))
                (case aF => exact (fun k_ hk => ⟨Kd.fresh' (rT_q (rup HO_10.out)) k_ hk, Kd.fresh' (rT_q (rup HO443.out)) k_ hk⟩))
                (case aO => exact (by (with_reducible repeat (first | apply rA_q | apply rN_q | apply rD_q)); exact rM_q HO440.out (fun _ hk => ⟨hk.2, hk.1⟩)))
                (case aS => exact (bZ_q (by repeat (with_reducible first | exact HB.out | apply bA_q | apply pB_q | apply bD_q | refine bS_q ?_ GE424.out | refine bS_q ?_ GE425.out))))
                (case aL => have := LMc37.out; omega)
                intro v445 w64 ho hb hg hat
                rw [← Ny444.out] at ho
                have n0_ := Ae_q (rF_q (ok := (fun k_ => some k_ ≠ (.slice Ao65 y441.length co65 : Value).ownBlock)) (by (with_reducible repeat (first | apply rA_q | apply rN_q | apply rD_q)); exact rM_q HO_10.out (fun _ hk => ⟨hk.2, hk.1⟩)) hg hat)
                have n1_ := Ae_q (bG_q (g := gb424) (o := .cells #[.int .i64 a1_0, .slice A1_1 l1_1.length c1_1] 39 (0, 0)) (bup BK424.out) hg (Kd.R_ne HO440.out BK424.out (by decide)))
                have n2_ := Ae_q (bG_q (g := gb425) (o := .cells #[.int .i64 a3_0, .int .i64 a3_1, .int .i64 a3_2] 45 (0, 0)) (bup BK425.out) hg (Kd.R_ne HO440.out BK425.out (by decide)))
                have n3_ := Ae_q (rF_q (ok := (fun k_ => some k_ ≠ (.slice Ao28 x10_2.length co28 : Value).ownBlock)) (by (with_reducible repeat (first | apply rA_q | apply rN_q | apply rD_q)); exact rM_q HO443.out (fun _ hk => ⟨hk.2, hk.1⟩)) hg hat)
                have n4_ := Ae_q (hb)
                have n5_ := Ae_q (ho)
                clear HO_10
                clear BK424
                clear BK425
                clear HO443
                clear HB
                clear HO440
                have HO_10 := n0_
                have BK424 := n1_
                have BK425 := n2_
                have HO443 := n3_
                have HB := n4_
                have HO446 := n5_
                clear n0_ n1_ n2_ n3_ n4_ n5_
                clear ho hb hg hat
                obtain ⟨Ao66, co66, eo66⟩ := rS_q HO446.out
                (first | subst eo66 | (injection eo66 with f1_ f2_ f3_; have f4_ := f1_.symm; have f5_ := f3_.symm; clear f1_ f2_ f3_; subst f4_; subst f5_))
                refine hK.out _ _ ⟨(bC_q BK425.out 0).trans rfl, (bC_q BK425.out 1).trans rfl, (bC_q BK425.out 2).trans rfl, (bC_q BK424.out 0).trans rfl, (bC_q BK424.out 1).trans rfl, (cel HB.out hw433_0), (cel HB.out hw433_1), (cel HB.out hw433_2), (cel HB.out hw433_3)⟩ (fun hHeld => ?_)
                clear hK K
                refine norm_ (a' := ?_) ?_ ?_
                rotate_left
                ·show Act.put _ (some 55) _ = _
                 simp only [Act.put, sA_q, sZ_q, sS_q, i64_w, i32_w]
                 rfl
                refine one_ (i := 16) (N := some 56) #[true, true, true, true, true, true, true, true, true, true, true, true, true, true, true, true, true, false, false] rfl rfl (one_of HT_.out (by kernel_rfl)) (by decide) (fun K hK => ?_)
                refine goes_ Try.func35 (by kernel_rfl) rfl #[.slice (some ad433) l0.length c0, .agg #[.int .i64 a1_0, .slice A1_1 l1_1.length c1_1], .slice Ao66 y444.length co66] (by rfl) rfl rfl (by (try simp only [lM_q, lC_q, lN_q]); first | done | rfl | (simp only [lD_q, lT_q]; rfl)) ?_
                with_reducible refine (spec_l32Room.calls k3 _ _ l0 a1_0 _ _ l1_1 _ _ y444 true _ ?side1 ?side2 ?side3 ?side4 ?side5 ?side6 A38.out).mono ?_
                (case side1 => exact cup (cB_q HR0.out HB.out))
                (case side2 => exact HC0.out)
                (case side3 => exact cup (cB_q HR1_1.out HB.out))
                (case side4 => exact HC1_1.out)
                (case side5 => exact cup (rR_q HO446.out).2.2)
                (case side6 => exact (rR_q HO446.out).2.1)
                rintro e w67 ⟨rfl, hb⟩
                refine ⟨_, rfl, ?_⟩
                have n0_ := Ae_q (rO_q (rup HO_10.out) hb)
                have n1_ := Ae_q (rO_q (rup HO443.out) hb)
                have n2_ := Ae_q (rO_q (rup HO446.out) hb)
                have n3_ := Ae_q (bB_q (g := gb424) (o := .cells #[.int .i64 a1_0, .slice A1_1 l1_1.length c1_1] 39 (0, 0)) (bup BK424.out) hb)
                have n4_ := Ae_q (bB_q (g := gb425) (o := .cells #[.int .i64 a3_0, .int .i64 a3_1, .int .i64 a3_2] 45 (0, 0)) (bup BK425.out) hb)
                have n5_ := Ae_q (bT_q (by repeat (with_reducible first | exact HB.out | apply bA_q | apply pB_q | apply bD_q | refine bS_q ?_ GE424.out | refine bS_q ?_ GE425.out)) hb)
                clear HO_10
                clear HO443
                clear HO446
                clear BK424
                clear BK425
                clear HB
                have HO_10 := n0_
                have HO443 := n1_
                have HO446 := n2_
                have BK424 := n3_
                have BK425 := n4_
                have HB := n5_
                clear n0_ n1_ n2_ n3_ n4_ n5_
                (try clear hb)
                (try clear hb2)
                (try clear hk)
                (try clear hi)
                refine hK.out _ _ ⟨(bC_q BK425.out 0).trans rfl, (bC_q BK425.out 1).trans rfl, (bC_q BK425.out 2).trans rfl, (bC_q BK424.out 0).trans rfl, (bC_q BK424.out 1).trans rfl, (cel HB.out hw433_0), (cel HB.out hw433_1), (cel HB.out hw433_2), (cel HB.out hw433_3)⟩ (fun hHeld => ?_)
                clear hK K
                refine norm_ (a' := ?_) ?_ ?_
                rotate_left
                ·show Act.put _ (some 56) _ = _
                 simp only [Act.put, sA_q, sZ_q, sS_q, i64_w, i32_w]
                 rfl
                refine pure_ (i := 17) (N := some 57) (v := ?_) (a' := ?_) #[true, true, true, true, true, true, true, true, true, true, true, true, true, true, true, true, true, true, false] rfl rfl (any_of HT_.out (by kernel_rfl)) (fun _ _ _ h => h) (Or.inl ⟨by rfl, ?_⟩) ?_ ?_
                rotate_left
                ·intro w'
                 go_simp
                 with_reducible rfl
                rotate_left
                ·simp only [Act.put, sA_q, sZ_q, sS_q, i64_w, i32_w]
                 rfl
                refine pure_ (i := 18) (N := some 58) (v := ?_) (a' := ?_) #[true, true, true, true, true, true, true, true, true, true, true, true, true, true, true, true, true, true, true] rfl rfl (any_of HT_.out (by kernel_rfl)) (fun _ _ _ h => h) (Or.inl ⟨by rfl, ?_⟩) ?_ ?_
                rotate_left
                ·intro w'
                 go_simp
                 with_reducible rfl
                rotate_left
                ·simp only [Act.put, sA_q, sZ_q, sS_q, i64_w, i32_w]
                 rfl
                refine done_ (done_of HT_.out (by kernel_rfl)) ?_
                try go_wp2_with (first | ((with_reducible refine gD_q (N := 66) rfl ?_); (try (refine gate_guard (by rfl) ?_; dsimp only)); refine Kd.R_lit kI_q _ 3 ?hg (N := 66) ?hd (xs := ([x12_3] : List Int)) (inner := [.int .i64 x12_3]) (ok := fun _ => True) (okp := fun _ => True) ?hr ?hp (fun _ hk => hk) trivial (bR_q _ _) (nR_q _) (by simp) ?_; (case hd => rfl); (case hg => rfl); (case hr => first | (go_simp; done) | (go_simp; rfl)); (case hp => exact (Reps.one (show Kd.M kI_q _ _ _ x12_3 [.int .i64 x12_3] from rfl) (Reps.none _ _))); intro v452 w68 ho69 hb hg_ hnew_; clear hg_ hnew_; (first | rw [← Ny451.out] at ho69 | (simp only [Int.reduceToNat] at ho69; rw [← Ny451.out] at ho69)); have n0_ := Ae_q (rE_q (rup HO_10.out) (rB_q ho69) hb); have n1_ := Ae_q (rE_q (rup HO443.out) (rB_q ho69) hb); have n2_ := Ae_q (rE_q (rup HO446.out) (rB_q ho69) hb); have n3_ := Ae_q (rL_q (rW_q (rW_q (rW_q ho69 (rT_q (rup HO_10.out))) (rT_q (rup HO443.out))) (rT_q (rup HO446.out))) (bZ_q (by repeat (with_reducible first | exact HB.out | apply bA_q | apply pB_q | apply bD_q | refine bS_q ?_ GE424.out | refine bS_q ?_ GE425.out)))); have n4_ := Ae_q (bB_q (g := gb424) (o := .cells #[.int .i64 a1_0, .slice A1_1 l1_1.length c1_1] 39 (0, 0)) (bup BK424.out) hb); have n5_ := Ae_q (bB_q (g := gb425) (o := .cells #[.int .i64 a3_0, .int .i64 a3_1, .int .i64 a3_2] 45 (0, 0)) (bup BK425.out) hb); have n6_ := Ae_q (bT_q (by repeat (with_reducible first | exact HB.out | apply bA_q | apply pB_q | apply bD_q | refine bS_q ?_ GE424.out | refine bS_q ?_ GE425.out)) hb); clear HO_10; clear HO443; clear HO446; clear BK424; clear BK425; clear HB; have HO_10 := n0_; have HO443 := n1_; have HO446 := n2_; have HO453 := n3_; have BK424 := n4_; have BK425 := n5_; have HB := n6_; clear n0_ n1_ n2_ n3_ n4_ n5_ n6_; clear hb ho69; obtain ⟨Ao71, co71, eo71⟩ := rS_q HO453.out; subst eo71) | ((with_reducible refine gate_builtin (b := .append) (xs := #[.tmp 64, .tmp 66]) rfl ?_); (try (refine gate_guard (by rfl) ?_; dsimp only)); at_builtin; refine Kd.R_append_rows kI_q (w0 := w) w.heap.size rfl (.tmp 64) (.tmp 66) 22 3 (.int .i64 0) 8 rfl Try.underlying22 info3 rfl (by decide) (by omega) (.slice Ao28 x10_2.length co28) x10_2 y451 _ _ _ (fun k_ => some k_ ≠ (.slice Ao65 y441.length co65 : Value).ownBlock ∧ some k_ ≠ (.slice Ao66 y444.length co66 : Value).ownBlock ∧ some k_ ≠ (.slice Ao71 y451.length co71 : Value).ownBlock) (fun _ => False) rfl rfl ?aO ?aR (fun _ _ h => h) (fun _ h => h.elim) ?aF ?aB ?aS ?aL ?_; (case aR => exact cup (rR_q HO453.out).2.2); (case aB => exact (by repeat (with_reducible first | exact HB.out | apply bA_q | apply pB_q | apply bD_q | refine bS_q ?_ GE424.out | refine bS_q ?_ GE425.out))); (case aF => exact (fun k_ hk => ⟨Kd.fresh' (rT_q (rup HO443.out)) k_ hk, Kd.fresh' (rT_q (rup HO446.out)) k_ hk, Kd.fresh' (rT_q (rup HO453.out)) k_ hk⟩)); (case aO => exact (by (with_reducible repeat (first | apply rA_q | apply rN_q | apply rD_q)); exact rM_q HO_10.out (fun _ hk => ⟨hk.1.1, ⟨hk.1.2, hk.2⟩⟩))); (case aS => exact (bZ_q (by repeat (with_reducible first | exact HB.out | apply bA_q | apply pB_q | apply bD_q | refine bS_q ?_ GE424.out | refine bS_q ?_ GE425.out)))); (case aL => have := LMc55.out; omega); intro v455 w70 ho hb hg hat; rw [← Ny454.out] at ho; have n0_ := Ae_q (bG_q (g := gb424) (o := .cells #[.int .i64 a1_0, .slice A1_1 l1_1.length c1_1] 39 (0, 0)) (bup BK424.out) hg (Kd.R_ne HO_10.out BK424.out (by decide))); have n1_ := Ae_q (bG_q (g := gb425) (o := .cells #[.int .i64 a3_0, .int .i64 a3_1, .int .i64 a3_2] 45 (0, 0)) (bup BK425.out) hg (Kd.R_ne HO_10.out BK425.out (by decide))); have n2_ := Ae_q (rF_q (ok := (fun k_ => some k_ ≠ (.slice Ao66 y444.length co66 : Value).ownBlock ∧ some k_ ≠ (.slice Ao71 y451.length co71 : Value).ownBlock)) (by (with_reducible repeat (first | apply rA_q | apply rN_q | apply rD_q)); exact rM_q HO443.out (fun _ hk => ⟨⟨hk.1.2, hk.2⟩, hk.1.1⟩)) hg hat); have n3_ := Ae_q (rF_q (ok := (fun k_ => some k_ ≠ (.slice Ao65 y441.length co65 : Value).ownBlock ∧ some k_ ≠ (.slice Ao71 y451.length co71 : Value).ownBlock)) (by (with_reducible repeat (first | apply rA_q | apply rN_q | apply rD_q)); exact rM_q HO446.out (fun _ hk => ⟨⟨hk.1.2, hk.2⟩, hk.1.1⟩)) hg hat); have n4_ := Ae_q (rF_q (ok := (fun k_ => some k_ ≠ (.slice Ao65 y441.length co65 : Value).ownBlock ∧ some k_ ≠ (.slice Ao66 y444.length co66 : Value).ownBlock)) (by (with_reducible repeat (first | apply rA_q | apply rN_q | apply rD_q)); exact rM_q HO453.out (fun _ hk => ⟨⟨hk.1.2, hk.2⟩, hk.1.1.2⟩)) hg hat); have n5_ := Ae_q (hb); have n6_ := Ae_q (ho); clear BK424; clear BK425; clear HO443; clear HO446; clear HO453; clear HB; clear HO_10; have BK424 := n0_; have BK425 := n1_; have HO443 := n2_; have HO446 := n3_; have HO453 := n4_; have HB := n5_; have HO456 := n6_; clear n0_ n1_ n2_ n3_ n4_ n5_ n6_; clear ho hb hg hat))
                go_roundg k3
                case measure => have := HJ4.out; have := HK2.out; have := HK3.out; omega
                case rel => exact ⟨(y454), (wrap64 (x11_2 + 1)), (by first | rfl | (simp; done) | (simp [*]; done)), H', ⟨by have := HJ4.out; have := HK2.out; have := HK3.out; omega⟩, ⟨by (with_reducible repeat (first | apply rA_q | apply rN_q | apply rD_q)); exact rM_q HO456.out (fun _ hk => trivial)⟩, ⟨by (with_reducible repeat (first | refine bN_q ?_ _ | refine bW_q ?_ | refine bL_q ?_ _)); exact BK424.out⟩, ⟨by (with_reducible repeat (first | refine bN_q ?_ _ | refine bW_q ?_ | refine bL_q ?_ _)); exact BK425.out⟩, ⟨by repeat (with_reducible first | exact HB.out | apply bA_q | apply pB_q | apply bD_q | refine bS_q ?_ GE424.out | refine bS_q ?_ GE425.out)⟩⟩
               rw [if_neg c55] at H
               exact absurd H (by simp)
              replace c39 := fM_q.mpr c39
              subst c39
              have H1 : (spec_OutageRepair.l1 k3 l0 l2 x10_2 x11_2 (wrap64 (x12_3 + 1)) a1_0 l1_1 a3_0 a3_1 a3_2) = some (r1, r2) := by rw [if_neg (show ¬ (false = true) by decide)] at H; exact H
              clear H
              have H := H1
              clear H1
              have H' := Ae_q H
              clear H
              try go_wp2
              have n0_ := Ae_q (rD_q HO_10.out)
              have n1_ := Ae_q (bW_q BK424.out)
              have n2_ := Ae_q (bW_q BK425.out)
              have n3_ := Ae_q (bD_q HB.out)
              clear HO_10
              clear BK424
              clear BK425
              clear HB
              have HO_10 := n0_
              have BK424 := n1_
              have BK425 := n2_
              have HB := n3_
              clear n0_ n1_ n2_ n3_
              have p433 : 0 ≤ (x11_2 : Int) := oD_q (by assumption)
              have q433 : x11_2 < (l0.length : Int) := oD_q (by assumption)
              obtain ⟨ad433, A433_3, c433_3, e433, hx433_0, hx433_1, hx433_2, hx433_3, hl433_3, hi433_3⟩ := at_T59 HR0.out x11_2 p433 q433
              have hw433_3 := hx433_3
              have hw433_2 := hx433_2
              have hw433_1 := hx433_1
              have hw433_0 := hx433_0
              cases e433
              replace hx433_0 := cel HB.out hx433_0
              replace hx433_1 := cel HB.out hx433_1
              replace hx433_2 := cel HB.out hx433_2
              replace hx433_3 := cel HB.out hx433_3
              have HR433_3 := Ae_q hi433_3
              have HC433_3 := Ae_q hl433_3
              clear hi433_3 hl433_3
              replace p433 := eq_true p433
              replace q433 := eq_true q433
              refine start_ (n := 19) (S := fun w' => w'.cell? ⟨gb425, 0, none⟩ = some (.int .i64 a3_0) ∧ w'.cell? ⟨gb425, 1, none⟩ = some (.int .i64 a3_1) ∧ w'.cell? ⟨gb425, 2, none⟩ = some (.int .i64 a3_2) ∧ w'.cell? ⟨gb424, 0, none⟩ = some (.int .i64 a1_0) ∧ w'.cell? ⟨gb424, 1, none⟩ = some (.slice A1_1 l1_1.length c1_1) ∧ w'.cell? (ad433.add ((x11_2).toNat * 4)) = some (.int .i64 ((rd_T59 l0 x11_2).f0)) ∧ w'.cell? ⟨(ad433.add ((x11_2).toNat * 4)).block, (ad433.add ((x11_2).toNat * 4)).off + 1, none⟩ = some (.int .i64 ((rd_T59 l0 x11_2).f1)) ∧ w'.cell? ⟨(ad433.add ((x11_2).toNat * 4)).block, (ad433.add ((x11_2).toNat * 4)).off + 2, none⟩ = some (.int .i64 ((rd_T59 l0 x11_2).f2)) ∧ w'.cell? ⟨(ad433.add ((x11_2).toNat * 4)).block, (ad433.add ((x11_2).toNat * 4)).off + 3, none⟩ = some (.slice A433_3 ((rd_T59 l0 x11_2).f3).length c433_3)) (ds := []) #[false, false, false, false, false, false, false, false, false, false, false, false, false, false, false, false, false, false, false] (by kernel_rfl) rfl rfl ⟨(bC_q BK425.out 0).trans rfl, (bC_q BK425.out 1).trans rfl, (bC_q BK425.out 2).trans rfl, (bC_q BK424.out 0).trans rfl, (bC_q BK424.out 1).trans rfl, (cel HB.out hw433_0), (cel HB.out hw433_1), (cel HB.out hw433_2), (cel HB.out hw433_3)⟩ (fun hHeld => ?_); refine with_tabW spec_OutageRepair.tab8 spec_OutageRepair.bits8 (fun HT_ HW_ => ?_)
              generalize wr.drew = w72 at HO_10 BK424 BK425 HB HR433_3 hx433_0 hx433_1 hx433_2 hx433_3 hHeld ⊢
              refine pure_ (i := 0) (N := some 40) (v := ?_) (a' := ?_) #[true, false, false, false, false, false, false, false, false, false, false, false, false, false, false, false, false, false, false] rfl rfl (any_of HT_.out (by kernel_rfl)) (fun _ _ _ h => h) (Or.inl ⟨by rfl, ?_⟩) ?_ ?_
              rotate_left
              ·intro w'
               go_simp
               with_reducible rfl
              rotate_left
              ·simp only [Act.put, sA_q, sZ_q, sS_q, i64_w, i32_w]
               rfl
              refine pure_ (i := 1) (N := some 41) (v := ?_) (a' := ?_) #[true, true, false, false, false, false, false, false, false, false, false, false, false, false, false, false, false, false, false] rfl rfl (any_of HT_.out (by kernel_rfl)) (fun _ _ _ h => h) (Or.inl ⟨by rfl, ?_⟩) ?_ ?_
              rotate_left
              ·intro w'
               go_simp
               with_reducible rfl
              rotate_left
              ·simp only [Act.put, sA_q, sZ_q, sS_q, i64_w, i32_w]
               rfl
              refine pure_ (i := 2) (N := some 42) (v := ?_) (a' := ?_) #[true, true, true, false, false, false, false, false, false, false, false, false, false, false, false, false, false, false, false] rfl rfl (any_of HT_.out (by kernel_rfl)) (fun _ _ _ h => h) (Or.inl ⟨by rfl, ?_⟩) ?_ ?_
              rotate_left
              ·intro w'
               go_simp
               with_reducible rfl
              rotate_left
              ·simp only [Act.put, sA_q, sZ_q, sS_q, i64_w, i32_w]
               rfl
              refine pure_ (i := 4) (N := some 44) (v := ?_) (a' := ?_) #[true, true, true, false, true, false, false, false, false, false, false, false, false, false, false, false, false, false, false] rfl rfl (any_of HT_.out (by kernel_rfl)) (fun _ _ _ h => h) (Or.inl ⟨by rfl, ?_⟩) ?_ ?_
              rotate_left
              ·intro w'
               go_simp
               with_reducible rfl
              rotate_left
              ·simp only [Act.put, sA_q, sZ_q, sS_q, i64_w, i32_w]
               rfl
              refine take_ (i := 3) (N := some 43) (v := ?_) (a' := ?_) #[true, true, true, true, true, false, false, false, false, false, false, false, false, false, false, false, false, false, false] rfl rfl (take_ofW HT_.out HW_.out (by kernel_rfl)) (fun _ _ _ h => h) (Or.inl ⟨by rfl, ?_⟩) hHeld ?_ ?_
              rotate_left
              ·rintro w' ⟨s0, s1, s2, s3, s4, s5, s6, s7, s8⟩
               go_simp
               with_reducible rfl
              rotate_left
              ·simp only [Act.put, sA_q, sZ_q, sS_q, i64_w, i32_w]
               rfl
              refine take_ (i := 5) (N := some 45) (v := ?_) (a' := ?_) #[true, true, true, true, true, true, false, false, false, false, false, false, false, false, false, false, false, false, false] rfl rfl (take_ofW HT_.out HW_.out (by kernel_rfl)) (fun _ _ _ h => h) (Or.inl ⟨by rfl, ?_⟩) hHeld ?_ ?_
              rotate_left
              ·rintro w' ⟨s0, s1, s2, s3, s4, s5, s6, s7, s8⟩
               go_simp
               with_reducible rfl
              rotate_left
              ·simp only [Act.put, sA_q, sZ_q, sS_q, i64_w, i32_w]
               rfl
              refine one_ (i := 6) (N := some 46) #[true, true, true, true, true, true, true, false, false, false, false, false, false, false, false, false, false, false, false] rfl rfl (one_of HT_.out (by kernel_rfl)) (by decide) (fun K hK => ?_)
              refine goes_ Try.func34 (by kernel_rfl) rfl #[.agg #[.int .i64 ((rd_T59 l0 x11_2).f0), .int .i64 ((rd_T59 l0 x11_2).f1), .int .i64 ((rd_T59 l0 x11_2).f2), .slice A433_3 ((rd_T59 l0 x11_2).f3).length c433_3], .int .i64 x12_3, .agg #[.int .i64 a3_0, .int .i64 a3_1, .int .i64 a3_2]] (by rfl) rfl rfl (by (try simp only [lM_q, lC_q, lN_q]); first | done | rfl | (simp only [lD_q, lT_q]; rfl)) ?_
              with_reducible refine (spec_l33Hit.calls ((rd_T59 l0 x11_2).f0) ((rd_T59 l0 x11_2).f1) ((rd_T59 l0 x11_2).f2) _ _ ((rd_T59 l0 x11_2).f3) x12_3 a3_0 a3_1 a3_2 false _ ?side1 ?side2 A32.out).mono ?_
              (case side1 => exact cup (cB_q HR433_3.out HB.out))
              (case side2 => exact HC433_3.out)
              rintro e w73 ⟨rfl, hb⟩
              refine ⟨_, rfl, ?_⟩
              have n0_ := Ae_q (rO_q (rup HO_10.out) hb)
              have n1_ := Ae_q (bB_q (g := gb424) (o := .cells #[.int .i64 a1_0, .slice A1_1 l1_1.length c1_1] 39 (0, 0)) (bup BK424.out) hb)
              have n2_ := Ae_q (bB_q (g := gb425) (o := .cells #[.int .i64 a3_0, .int .i64 a3_1, .int .i64 a3_2] 45 (0, 0)) (bup BK425.out) hb)
              have n3_ := Ae_q (bT_q (by repeat (with_reducible first | exact HB.out | apply bA_q | apply pB_q | apply bD_q | refine bS_q ?_ GE424.out | refine bS_q ?_ GE425.out)) hb)
              clear HO_10
              clear BK424
              clear BK425
              clear HB
              have HO_10 := n0_
              have BK424 := n1_
              have BK425 := n2_
              have HB := n3_
              clear n0_ n1_ n2_ n3_
              (try clear hb)
              (try clear hb2)
              (try clear hk)
              (try clear hi)
              refine hK.out _ _ ⟨(bC_q BK425.out 0).trans rfl, (bC_q BK425.out 1).trans rfl, (bC_q BK425.out 2).trans rfl, (bC_q BK424.out 0).trans rfl, (bC_q BK424.out 1).trans rfl, (cel HB.out hw433_0), (cel HB.out hw433_1), (cel HB.out hw433_2), (cel HB.out hw433_3)⟩ (fun hHeld => ?_)
              clear hK K
              refine norm_ (a' := ?_) ?_ ?_
              rotate_left
              ·show Act.put _ (some 46) _ = _
               simp only [Act.put, sA_q, sZ_q, sS_q, i64_w, i32_w]
               rfl
              refine pure_ (i := 7) (N := some 47) (v := ?_) (a' := ?_) #[true, true, true, true, true, true, true, true, false, false, false, false, false, false, false, false, false, false, false] rfl rfl (any_of HT_.out (by kernel_rfl)) (fun _ _ _ h => h) (Or.inl ⟨by rfl, ?_⟩) ?_ ?_
              rotate_left
              ·intro w'
               go_simp
               with_reducible rfl
              rotate_left
              ·simp only [Act.put, sA_q, sZ_q, sS_q, i64_w, i32_w]
               rfl
              refine pure_ (i := 8) (N := some 48) (v := ?_) (a' := ?_) #[true, true, true, true, true, true, true, true, true, false, false, false, false, false, false, false, false, false, false] rfl rfl (any_of HT_.out (by kernel_rfl)) (fun _ _ _ h => h) (Or.inl ⟨by rfl, ?_⟩) ?_ ?_
              rotate_left
              ·intro w'
               go_simp
               with_reducible rfl
              rotate_left
              ·simp only [Act.put, sA_q, sZ_q, sS_q, i64_w, i32_w]
               rfl
              refine pure_ (i := 11) (N := some 51) (v := ?_) (a' := ?_) #[true, true, true, true, true, true, true, true, true, false, false, true, false, false, false, false, false, false, false] rfl rfl (any_of HT_.out (by kernel_rfl)) (fun _ _ _ h => h) (Or.inl ⟨by rfl, ?_⟩) ?_ ?_
              rotate_left
              ·intro w'
               go_simp
               with_reducible rfl
              rotate_left
              ·simp only [Act.put, sA_q, sZ_q, sS_q, i64_w, i32_w]
               rfl
              refine pure_ (i := 13) (N := some 53) (v := ?_) (a' := ?_) #[true, true, true, true, true, true, true, true, true, false, false, true, false, true, false, false, false, false, false] rfl rfl (any_of HT_.out (by kernel_rfl)) (fun _ _ _ h => h) (Or.inl ⟨by rfl, ?_⟩) ?_ ?_
              rotate_left
              ·intro w'
               go_simp
               with_reducible rfl
              rotate_left
              ·simp only [Act.put, sA_q, sZ_q, sS_q, i64_w, i32_w]
               rfl
              refine take_ (i := 9) (N := some 49) (v := ?_) (a' := ?_) #[true, true, true, true, true, true, true, true, true, true, false, true, false, true, false, false, false, false, false] rfl rfl (take_ofW HT_.out HW_.out (by kernel_rfl)) (fun _ _ _ h => h) (Or.inl ⟨by rfl, ?_⟩) hHeld ?_ ?_
              rotate_left
              ·rintro w' ⟨s0, s1, s2, s3, s4, s5, s6, s7, s8⟩
               go_simp
               with_reducible rfl
              rotate_left
              ·simp only [Act.put, sA_q, sZ_q, sS_q, i64_w, i32_w]
               rfl
              refine join_ (σ := Value × Value × Value) 4 #[true, true, true, true, true, true, true, true, true, true, true, true, true, true, true, false, false, false, false] (fun s_ => [(50, s_.1), (52, s_.2.1), (54, s_.2.2)]) (fun s_ w' => (w'.cell? ⟨gb425, 0, none⟩ = some (.int .i64 a3_0) ∧ w'.cell? ⟨gb425, 1, none⟩ = some (.int .i64 a3_1) ∧ w'.cell? ⟨gb425, 2, none⟩ = some (.int .i64 a3_2) ∧ w'.cell? ⟨gb424, 0, none⟩ = some (.int .i64 a1_0) ∧ w'.cell? ⟨gb424, 1, none⟩ = some (.slice A1_1 l1_1.length c1_1) ∧ w'.cell? (ad433.add ((x11_2).toNat * 4)) = some (.int .i64 ((rd_T59 l0 x11_2).f0)) ∧ w'.cell? ⟨(ad433.add ((x11_2).toNat * 4)).block, (ad433.add ((x11_2).toNat * 4)).off + 1, none⟩ = some (.int .i64 ((rd_T59 l0 x11_2).f1)) ∧ w'.cell? ⟨(ad433.add ((x11_2).toNat * 4)).block, (ad433.add ((x11_2).toNat * 4)).off + 2, none⟩ = some (.int .i64 ((rd_T59 l0 x11_2).f2)) ∧ w'.cell? ⟨(ad433.add ((x11_2).toNat * 4)).block, (ad433.add ((x11_2).toNat * 4)).off + 3, none⟩ = some (.slice A433_3 ((rd_T59 l0 x11_2).f3).length c433_3)) ∧ (Kd.R kI_q 3 w' w.heap.size (fun k_ => some k_ ≠ (s_.2.2 : Value).ownBlock ∧ some k_ ≠ (.slice Ao28 x10_2.length co28 : Value).ownBlock) s_.2.1 y438) ∧ (Kd.R kI_q 3 w' w.heap.size (fun k_ => some k_ ≠ (s_.2.1 : Value).ownBlock ∧ some k_ ≠ (.slice Ao28 x10_2.length co28 : Value).ownBlock) s_.2.2 y441) ∧ (Kd.R kI_q 3 w' w.heap.size (fun k_ => some k_ ≠ (s_.2.1 : Value).ownBlock ∧ some k_ ≠ (s_.2.2 : Value).ownBlock) (.slice Ao28 x10_2.length co28) x10_2) ∧ (w'.heap[gb424]? = some (.cells #[.int .i64 a1_0, .slice A1_1 l1_1.length c1_1] 39 (0, 0))) ∧ (w'.heap[gb425]? = some (.cells #[.int .i64 a3_0, .int .i64 a3_1, .int .i64 a3_2] 45 (0, 0))) ∧ (Below w.heap.size w w')) ?_ ?_
              rotate_left
              ·intro hCont
               refine two_ (i := 10) (j := 14) (Ni := some 50) (Nj := some 54) #[true, true, true, true, true, true, true, true, true, true, true, true, false, true, false, false, false, false, false] #[true, true, true, true, true, true, true, true, true, true, false, true, false, true, true, false, false, false, false] rfl rfl rfl rfl (two_of HT_.out (by kernel_rfl)) (by decide) (by decide) (fun K hK => ?_) (fun K hK => ?_)
               ·skip
                refine rI_q kI_q _ 3 ?hg (N := 50) ?hd (xs := ([] : List Int)) (inner := []) (ok := fun _ => True) (okp := fun _ => True) ?hr ?hp (fun _ hk => hk) trivial (bR_q _ _) (nR_q _) (by simp) ?_; (case hd => rfl); (case hg => rfl); (case hr => first | (go_simp; done) | (go_simp; rfl)); (case hp => exact (Reps.none _ _))
                intro v436 w74 ho75 hb hg_ hnew_
                clear hg_ hnew_
                (first | rw [← Ny435.out] at ho75 | (simp only [Int.reduceToNat] at ho75; rw [← Ny435.out] at ho75))
                have n0_ := Ae_q (rE_q (rup HO_10.out) (rB_q ho75) hb)
                have n1_ := Ae_q (rL_q (rW_q ho75 (rT_q (rup HO_10.out))) (bZ_q (by repeat (with_reducible first | exact HB.out | apply bA_q | apply pB_q | apply bD_q | refine bS_q ?_ GE424.out | refine bS_q ?_ GE425.out))))
                have n2_ := Ae_q (bB_q (g := gb424) (o := .cells #[.int .i64 a1_0, .slice A1_1 l1_1.length c1_1] 39 (0, 0)) (bup BK424.out) hb)
                have n3_ := Ae_q (bB_q (g := gb425) (o := .cells #[.int .i64 a3_0, .int .i64 a3_1, .int .i64 a3_2] 45 (0, 0)) (bup BK425.out) hb)
                have n4_ := Ae_q (bT_q (by repeat (with_reducible first | exact HB.out | apply bA_q | apply pB_q | apply bD_q | refine bS_q ?_ GE424.out | refine bS_q ?_ GE425.out)) hb)
                clear HO_10
                clear BK424
                clear BK425
                clear HB
                have HO_10 := n0_
                have HO437 := n1_
                have BK424 := n2_
                have BK425 := n3_
                have HB := n4_
                clear n0_ n1_ n2_ n3_ n4_
                clear hb ho75
                refine hK.out _ _ ⟨(bC_q BK425.out 0).trans rfl, (bC_q BK425.out 1).trans rfl, (bC_q BK425.out 2).trans rfl, (bC_q BK424.out 0).trans rfl, (bC_q BK424.out 1).trans rfl, (cel HB.out hw433_0), (cel HB.out hw433_1), (cel HB.out hw433_2), (cel HB.out hw433_3)⟩ (fun hHeld => ?_)
                clear hK K
                refine norm_ (a' := ?_) ?_ ?_
                rotate_left
                ·show Act.put _ (some 50) _ = _
                 simp only [Act.put, sA_q, sZ_q, sS_q, i64_w, i32_w]
                 rfl
                refine two_ (i := 12) (j := 14) (Ni := some 52) (Nj := some 54) #[true, true, true, true, true, true, true, true, true, true, true, true, true, true, false, false, false, false, false] #[true, true, true, true, true, true, true, true, true, true, true, true, false, true, true, false, false, false, false] rfl rfl rfl rfl (two_of HT_.out (by kernel_rfl)) (by decide) (by decide) (fun K hK => ?_) (fun K hK => ?_)
                ·skip
                 refine rP_q kI_q (w0 := w) w.heap.size (by rfl) (.tmp 50) (.tmp 51) 22 3 (.int .i64 0) 8 rfl Try.underlying22 info3 rfl (by decide) (by omega) v436 y435 x10_2 _ _ _ (fun k_ => some k_ ≠ (.slice Ao28 x10_2.length co28 : Value).ownBlock) (fun _ => False) rfl rfl ?aO ?aR (fun _ _ h => h) (fun _ h => h.elim) ?aF ?aB ?aS ?aL ?_
                 (case aR => exact cup (rR_q HO_10.out).2.2)
                 (case aB => exact (by repeat (with_reducible first | exact HB.out | apply bA_q | apply pB_q | apply bD_q | refine bS_q ?_ GE424.out | refine bS_q ?_ GE425.out)))
                 (case aF => exact (fun k_ hk => Kd.fresh' (rT_q (rup HO_10.out)) k_ hk))
                 (case aO => exact (by (with_reducible repeat (first | apply rA_q | apply rN_q | apply rD_q)); exact rM_q HO437.out (fun _ hk => hk.2)))
                 (case aS => exact (bZ_q (by repeat (with_reducible first | exact HB.out | apply bA_q | apply pB_q | apply bD_q | refine bS_q ?_ GE424.out | refine bS_q ?_ GE425.out))))
                 (case aL => have := LMc36.out; omega)
                 intro v439 w76 ho hb hg hat
                 rw [← Ny438.out] at ho
                 have n0_ := Ae_q (rF_q (ok := (fun _ => True)) (rup HO_10.out) hg hat)
                 have n1_ := Ae_q (bG_q (g := gb424) (o := .cells #[.int .i64 a1_0, .slice A1_1 l1_1.length c1_1] 39 (0, 0)) (bup BK424.out) hg (Kd.R_ne HO437.out BK424.out (by decide)))
                 have n2_ := Ae_q (bG_q (g := gb425) (o := .cells #[.int .i64 a3_0, .int .i64 a3_1, .int .i64 a3_2] 45 (0, 0)) (bup BK425.out) hg (Kd.R_ne HO437.out BK425.out (by decide)))
                 have n3_ := Ae_q (hb)
                 have n4_ := Ae_q (ho)
                 clear HO_10
                 clear BK424
                 clear BK425
                 clear HB
                 clear HO437
                 have HO_10 := n0_
                 have BK424 := n1_
                 have BK425 := n2_
                 have HB := n3_
                 have HO440 := n4_
                 clear n0_ n1_ n2_ n3_ n4_
                 clear ho hb hg hat
                 refine hK.out _ _ ⟨(bC_q BK425.out 0).trans rfl, (bC_q BK425.out 1).trans rfl, (bC_q BK425.out 2).trans rfl, (bC_q BK424.out 0).trans rfl, (bC_q BK424.out 1).trans rfl, (cel HB.out hw433_0), (cel HB.out hw433_1), (cel HB.out hw433_2), (cel HB.out hw433_3)⟩ (fun hHeld => ?_)
                 clear hK K
                 refine norm_ (a' := ?_) ?_ ?_
                 rotate_left
                 ·show Act.put _ (some 52) _ = _
                  simp only [Act.put, sA_q, sZ_q, sS_q, i64_w, i32_w]
                  rfl
                 refine one_ (i := 14) (N := some 54) #[true, true, true, true, true, true, true, true, true, true, true, true, true, true, true, false, false, false, false] rfl rfl (one_of HT_.out (by kernel_rfl)) (by decide) (fun K hK => ?_)
                 refine rI_q kI_q _ 3 ?hg (N := 54) ?hd (xs := ([x12_3] : List Int)) (inner := [.int .i64 x12_3]) (ok := fun _ => True) (okp := fun _ => True) ?hr ?hp (fun _ hk => hk) trivial (bR_q _ _) (nR_q _) (by simp) ?_; (case hd => rfl); (case hg => rfl); (case hr => first | (go_simp; done) | (go_simp; rfl)); (case hp => exact (Reps.one (show Kd.M kI_q _ _ _ x12_3 [.int .i64 x12_3] from rfl) (Reps.none _ _)))
                 intro v442 w77 ho78 hb hg_ hnew_
                 clear hg_ hnew_
                 (first | rw [← Ny441.out] at ho78 | (simp only [Int.reduceToNat] at ho78; rw [← Ny441.out] at ho78))
                 have n0_ := Ae_q (rE_q (rup HO_10.out) (rB_q ho78) hb)
                 have n1_ := Ae_q (rE_q (rup HO440.out) (rB_q ho78) hb)
                 have n2_ := Ae_q (rL_q (rW_q (rW_q ho78 (rT_q (rup HO_10.out))) (rT_q (rup HO440.out))) (bZ_q (by repeat (with_reducible first | exact HB.out | apply bA_q | apply pB_q | apply bD_q | refine bS_q ?_ GE424.out | refine bS_q ?_ GE425.out))))
                 have n3_ := Ae_q (bB_q (g := gb424) (o := .cells #[.int .i64 a1_0, .slice A1_1 l1_1.length c1_1] 39 (0, 0)) (bup BK424.out) hb)
                 have n4_ := Ae_q (bB_q (g := gb425) (o := .cells #[.int .i64 a3_0, .int .i64 a3_1, .int .i64 a3_2] 45 (0, 0)) (bup BK425.out) hb)
                 have n5_ := Ae_q (bT_q (by repeat (with_reducible first | exact HB.out | apply bA_q | apply pB_q | apply bD_q | refine bS_q ?_ GE424.out | refine bS_q ?_ GE425.out)) hb)
                 clear HO_10
                 clear HO440
                 clear BK424
                 clear BK425
                 clear HB
                 have HO_10 := n0_
                 have HO440 := n1_
                 have HO443 := n2_
                 have BK424 := n3_
                 have BK425 := n4_
                 have HB := n5_
                 clear n0_ n1_ n2_ n3_ n4_ n5_
                 clear hb ho78
                 refine hK.out _ _ ⟨(bC_q BK425.out 0).trans rfl, (bC_q BK425.out 1).trans rfl, (bC_q BK425.out 2).trans rfl, (bC_q BK424.out 0).trans rfl, (bC_q BK424.out 1).trans rfl, (cel HB.out hw433_0), (cel HB.out hw433_1), (cel HB.out hw433_2), (cel HB.out hw433_3)⟩ (fun hHeld => ?_)
                 clear hK K
                 refine norm_ (a' := ?_) ?_ ?_
                 rotate_left
                 ·show Act.put _ (some 54) _ = _
                  simp only [Act.put, sA_q, sZ_q, sS_q, i64_w, i32_w]
                  rfl
                 exact norm_ (by simp only [putAll, Act.put, sA_q, sZ_q, sS_q]) (hCont (v436, v439, v442) _ ⟨hHeld, (by (with_reducible repeat (first | apply rA_q | apply rN_q | apply rD_q)); exact rM_q HO440.out (fun _ hk => ⟨hk.2, hk.1⟩)), (by (with_reducible repeat (first | apply rA_q | apply rN_q | apply rD_q)); exact rM_q HO443.out (fun _ hk => ⟨hk.2, hk.1.2⟩)), (by (with_reducible repeat (first | apply rA_q | apply rN_q | apply rD_q)); exact rM_q HO_10.out (fun _ hk => ⟨hk.1.2, hk.2⟩)), (bup BK424.out), (bup BK425.out), (by repeat (with_reducible first | exact HB.out | apply bA_q | apply pB_q | apply bD_q | refine bS_q ?_ GE424.out | refine bS_q ?_ GE425.out))⟩)
                skip
                refine rI_q kI_q _ 3 ?hg (N := 54) ?hd (xs := ([x12_3] : List Int)) (inner := [.int .i64 x12_3]) (ok := fun _ => True) (okp := fun _ => True) ?hr ?hp (fun _ hk => hk) trivial (bR_q _ _) (nR_q _) (by simp) ?_; (case hd => rfl); (case hg => rfl); (case hr => first | (go_simp; done) | (go_simp; rfl)); (case hp => exact (Reps.one (show Kd.M kI_q _ _ _ x12_3 [.int .i64 x12_3] from rfl) (Reps.none _ _)))
                intro v442 w76 ho77 hb hg_ hnew_
                clear hg_ hnew_
                (first | rw [← Ny441.out] at ho77 | (simp only [Int.reduceToNat] at ho77; rw [← Ny441.out] at ho77))
                have n0_ := Ae_q (rE_q (rup HO_10.out) (rB_q ho77) hb)
                have n1_ := Ae_q (rE_q (rup HO437.out) (rB_q ho77) hb)
                have n2_ := Ae_q (rL_q (rW_q (rW_q ho77 (rT_q (rup HO_10.out))) (rT_q (rup HO437.out))) (bZ_q (by repeat (with_reducible first | exact HB.out | apply bA_q | apply pB_q | apply bD_q | refine bS_q ?_ GE424.out | refine bS_q ?_ GE425.out))))
                have n3_ := Ae_q (bB_q (g := gb424) (o := .cells #[.int .i64 a1_0, .slice A1_1 l1_1.length c1_1] 39 (0, 0)) (bup BK424.out) hb)
                have n4_ := Ae_q (bB_q (g := gb425) (o := .cells #[.int .i64 a3_0, .int .i64 a3_1, .int .i64 a3_2] 45 (0, 0)) (bup BK425.out) hb)
                have n5_ := Ae_q (bT_q (by repeat (with_reducible first | exact HB.out | apply bA_q | apply pB_q | apply bD_q | refine bS_q ?_ GE424.out | refine bS_q ?_ GE425.out)) hb)
                clear HO_10
                clear HO437
                clear BK424
                clear BK425
                clear HB
                have HO_10 := n0_
                have HO437 := n1_
                have HO443 := n2_
                have BK424 := n3_
                have BK425 := n4_
                have HB := n5_
                clear n0_ n1_ n2_ n3_ n4_ n5_
                clear hb ho77
                refine hK.out _ _ ⟨(bC_q BK425.out 0).trans rfl, (bC_q BK425.out 1).trans rfl, (bC_q BK425.out 2).trans rfl, (bC_q BK424.out 0).trans rfl, (bC_q BK424.out 1).trans rfl, (cel HB.out hw433_0), (cel HB.out hw433_1), (cel HB.out hw433_2), (cel HB.out hw433_3)⟩ (fun hHeld => ?_)
                clear hK K
                refine norm_ (a' := ?_) ?_ ?_
                rotate_left
                ·show Act.put _ (some 54) _ = _
                 simp only [Act.put, sA_q, sZ_q, sS_q, i64_w, i32_w]
                 rfl
                refine one_ (i := 12) (N := some 52) #[true, true, true, true, true, true, true, true, true, true, true, true, true, true, true, false, false, false, false] rfl rfl (one_of HT_.out (by kernel_rfl)) (by decide) (fun K hK => ?_)
                refine rP_q kI_q (w0 := w) w.heap.size (by rfl) (.tmp 50) (.tmp 51) 22 3 (.int .i64 0) 8 rfl Try.underlying22 info3 rfl (by decide) (by omega) v436 y435 x10_2 _ _ _ (fun k_ => some k_ ≠ (.slice Ao28 x10_2.length co28 : Value).ownBlock ∧ some k_ ≠ (v442 : Value).ownBlock) (fun _ => False) rfl rfl ?aO ?aR (fun _ _ h => h) (fun _ h => h.elim) ?aF ?aB ?aS ?aL ?_
                (case aR => exact cup (rR_q HO_10.out).2.2)
                (case aB => exact (by repeat (with_reducible first | exact HB.out | apply bA_q | apply pB_q | apply bD_q | refine bS_q ?_ GE424.out | refine bS_q ?_ GE425.out)))
                (case aF => exact (fun k_ hk => ⟨Kd.fresh' (rT_q (rup HO_10.out)) k_ hk, Kd.fresh' (rT_q (rup HO443.out)) k_ hk⟩))
                (case aO => exact (by (with_reducible repeat (first | apply rA_q | apply rN_q | apply rD_q)); exact rM_q HO437.out (fun _ hk => ⟨hk.1.2, hk.2⟩)))
                (case aS => exact (bZ_q (by repeat (with_reducible first | exact HB.out | apply bA_q | apply pB_q | apply bD_q | refine bS_q ?_ GE424.out | refine bS_q ?_ GE425.out))))
                (case aL => have := LMc36.out; omega)
                intro v439 w78 ho hb hg hat
                rw [← Ny438.out] at ho
                have n0_ := Ae_q (rF_q (ok := (fun k_ => some k_ ≠ (v442 : Value).ownBlock)) (by (with_reducible repeat (first | apply rA_q | apply rN_q | apply rD_q)); exact rM_q HO_10.out (fun _ hk => ⟨hk.2, hk.1.2⟩)) hg hat)
                have n1_ := Ae_q (bG_q (g := gb424) (o := .cells #[.int .i64 a1_0, .slice A1_1 l1_1.length c1_1] 39 (0, 0)) (bup BK424.out) hg (Kd.R_ne HO437.out BK424.out (by decide)))
                have n2_ := Ae_q (bG_q (g := gb425) (o := .cells #[.int .i64 a3_0, .int .i64 a3_1, .int .i64 a3_2] 45 (0, 0)) (bup BK425.out) hg (Kd.R_ne HO437.out BK425.out (by decide)))
                have n3_ := Ae_q (rF_q (ok := (fun k_ => some k_ ≠ (.slice Ao28 x10_2.length co28 : Value).ownBlock)) (by (with_reducible repeat (first | apply rA_q | apply rN_q | apply rD_q)); exact rM_q HO443.out (fun _ hk => ⟨hk.1.2, hk.2⟩)) hg hat)
                have n4_ := Ae_q (hb)
                have n5_ := Ae_q (ho)
                clear HO_10
                clear BK424
                clear BK425
                clear HO443
                clear HB
                clear HO437
                have HO_10 := n0_
                have BK424 := n1_
                have BK425 := n2_
                have HO443 := n3_
                have HB := n4_
                have HO440 := n5_
                clear n0_ n1_ n2_ n3_ n4_ n5_
                clear ho hb hg hat
                refine hK.out _ _ ⟨(bC_q BK425.out 0).trans rfl, (bC_q BK425.out 1).trans rfl, (bC_q BK425.out 2).trans rfl, (bC_q BK424.out 0).trans rfl, (bC_q BK424.out 1).trans rfl, (cel HB.out hw433_0), (cel HB.out hw433_1), (cel HB.out hw433_2), (cel HB.out hw433_3)⟩ (fun hHeld => ?_)
                clear hK K
                refine norm_ (a' := ?_) ?_ ?_
                rotate_left
                ·show Act.put _ (some 52) _ = _
                 simp only [Act.put, sA_q, sZ_q, sS_q, i64_w, i32_w]
                 rfl
                exact norm_ (by simp only [putAll, Act.put, sA_q, sZ_q, sS_q]) (hCont (v436, v439, v442) _ ⟨hHeld, (by (with_reducible repeat (first | apply rA_q | apply rN_q | apply rD_q)); exact rM_q HO440.out (fun _ hk => ⟨hk.2, hk.1⟩)), (by (with_reducible repeat (first | apply rA_q | apply rN_q | apply rD_q)); exact rM_q HO443.out (fun _ hk => ⟨hk.2, hk.1⟩)), (by (with_reducible repeat (first | apply rA_q | apply rN_q | apply rD_q)); exact rM_q HO_10.out (fun _ hk => ⟨hk.2, hk.1⟩)), (bup BK424.out), (bup BK425.out), (by repeat (with_reducible first | exact HB.out | apply bA_q | apply pB_q | apply bD_q | refine bS_q ?_ GE424.out | refine bS_q ?_ GE425.out))⟩)
               skip
               refine rI_q kI_q _ 3 ?hg (N := 54) ?hd (xs := ([x12_3] : List Int)) (inner := [.int .i64 x12_3]) (ok := fun _ => True) (okp := fun _ => True) ?hr ?hp (fun _ hk => hk) trivial (bR_q _ _) (nR_q _) (by simp) ?_; (case hd => rfl); (case hg => rfl); (case hr => first | (go_simp; done) | (go_simp; rfl)); (case hp => exact (Reps.one (show Kd.M kI_q _ _ _ x12_3 [.int .i64 x12_3] from rfl) (Reps.none _ _)))
               intro v442 w74 ho75 hb hg_ hnew_
               clear hg_ hnew_
               (first | rw [← Ny441.out] at ho75 | (simp only [Int.reduceToNat] at ho75; rw [← Ny441.out] at ho75))
               have n0_ := Ae_q (rE_q (rup HO_10.out) (rB_q ho75) hb)
               have n1_ := Ae_q (rL_q (rW_q ho75 (rT_q (rup HO_10.out))) (bZ_q (by repeat (with_reducible first | exact HB.out | apply bA_q | apply pB_q | apply bD_q | refine bS_q ?_ GE424.out | refine bS_q ?_ GE425.out))))
               have n2_ := Ae_q (bB_q (g := gb424) (o := .cells #[.int .i64 a1_0, .slice A1_1 l1_1.length c1_1] 39 (0, 0)) (bup BK424.out) hb)
               have n3_ := Ae_q (bB_q (g := gb425) (o := .cells #[.int .i64 a3_0, .int .i64 a3_1, .int .i64 a3_2] 45 (0, 0)) (bup BK425.out) hb)
               have n4_ := Ae_q (bT_q (by repeat (with_reducible first | exact HB.out | apply bA_q | apply pB_q | apply bD_q | refine bS_q ?_ GE424.out | refine bS_q ?_ GE425.out)) hb)
               clear HO_10
               clear BK424
               clear BK425
               clear HB
               have HO_10 := n0_
               have HO443 := n1_
               have BK424 := n2_
               have BK425 := n3_
               have HB := n4_
               clear n0_ n1_ n2_ n3_ n4_
               clear hb ho75
               refine hK.out _ _ ⟨(bC_q BK425.out 0).trans rfl, (bC_q BK425.out 1).trans rfl, (bC_q BK425.out 2).trans rfl, (bC_q BK424.out 0).trans rfl, (bC_q BK424.out 1).trans rfl, (cel HB.out hw433_0), (cel HB.out hw433_1), (cel HB.out hw433_2), (cel HB.out hw433_3)⟩ (fun hHeld => ?_)
               clear hK K
               refine norm_ (a' := ?_) ?_ ?_
               rotate_left
               ·show Act.put _ (some 54) _ = _
                simp only [Act.put, sA_q, sZ_q, sS_q, i64_w, i32_w]
                rfl
               refine one_ (i := 10) (N := some 50) #[true, true, true, true, true, true, true, true, true, true, true, true, false, true, true, false, false, false, false] rfl rfl (one_of HT_.out (by kernel_rfl)) (by decide) (fun K hK => ?_)
               refine rI_q kI_q _ 3 ?hg (N := 50) ?hd (xs := ([] : List Int)) (inner := []) (ok := fun _ => True) (okp := fun _ => True) ?hr ?hp (fun _ hk => hk) trivial (bR_q _ _) (nR_q _) (by simp) ?_; (case hd => rfl); (case hg => rfl); (case hr => first | (go_simp; done) | (go_simp; rfl)); (case hp => exact (Reps.none _ _))
               intro v436 w76 ho77 hb hg_ hnew_
               clear hg_ hnew_
               (first | rw [← Ny435.out] at ho77 | (simp only [Int.reduceToNat] at ho77; rw [← Ny435.out] at ho77))
               have n0_ := Ae_q (rE_q (rup HO_10.out) (rB_q ho77) hb)
               have n1_ := Ae_q (rE_q (rup HO443.out) (rB_q ho77) hb)
               have n2_ := Ae_q (rL_q (rW_q (rW_q ho77 (rT_q (rup HO_10.out))) (rT_q (rup HO443.out))) (bZ_q (by repeat (with_reducible first | exact HB.out | apply bA_q | apply pB_q | apply bD_q | refine bS_q ?_ GE424.out | refine bS_q ?_ GE425.out))))
               have n3_ := Ae_q (bB_q (g := gb424) (o := .cells #[.int .i64 a1_0, .slice A1_1 l1_1.length c1_1] 39 (0, 0)) (bup BK424.out) hb)
               have n4_ := Ae_q (bB_q (g := gb425) (o := .cells #[.int .i64 a3_0, .int .i64 a3_1, .int .i64 a3_2] 45 (0, 0)) (bup BK425.out) hb)
               have n5_ := Ae_q (bT_q (by repeat (with_reducible first | exact HB.out | apply bA_q | apply pB_q | apply bD_q | refine bS_q ?_ GE424.out | refine bS_q ?_ GE425.out)) hb)
               clear HO_10
               clear HO443
               clear BK424
               clear BK425
               clear HB
               have HO_10 := n0_
               have HO443 := n1_
               have HO437 := n2_
               have BK424 := n3_
               have BK425 := n4_
               have HB := n5_
               clear n0_ n1_ n2_ n3_ n4_ n5_
               clear hb ho77
               refine hK.out _ _ ⟨(bC_q BK425.out 0).trans rfl, (bC_q BK425.out 1).trans rfl, (bC_q BK425.out 2).trans rfl, (bC_q BK424.out 0).trans rfl, (bC_q BK424.out 1).trans rfl, (cel HB.out hw433_0), (cel HB.out hw433_1), (cel HB.out hw433_2), (cel HB.out hw433_3)⟩ (fun hHeld => ?_)
               clear hK K
               refine norm_ (a' := ?_) ?_ ?_
               rotate_left
               ·show Act.put _ (some 50) _ = _
                simp only [Act.put, sA_q, sZ_q, sS_q, i64_w, i32_w]
                rfl
               refine one_ (i := 12) (N := some 52) #[true, true, true, true, true, true, true, true, true, true, true, true, true, true, true, false, false, false, false] rfl rfl (one_of HT_.out (by kernel_rfl)) (by decide) (fun K hK => ?_)
               refine rP_q kI_q (w0 := w) w.heap.size (by rfl) (.tmp 50) (.tmp 51) 22 3 (.int .i64 0) 8 rfl Try.underlying22 info3 rfl (by decide) (by omega) v436 y435 x10_2 _ _ _ (fun k_ => some k_ ≠ (.slice Ao28 x10_2.length co28 : Value).ownBlock ∧ some k_ ≠ (v442 : Value).ownBlock) (fun _ => False) rfl rfl ?aO ?aR (fun _ _ h => h) (fun _ h => h.elim) ?aF ?aB ?aS ?aL ?_
               (case aR => exact cup (rR_q HO_10.out).2.2)
               (case aB => exact (by repeat (with_reducible first | exact HB.out | apply bA_q | apply pB_q | apply bD_q | refine bS_q ?_ GE424.out | refine bS_q ?_ GE425.out)))
               (case aF => exact (fun k_ hk => ⟨Kd.fresh' (rT_q (rup HO_10.out)) k_ hk, Kd.fresh' (rT_q (rup HO443.out)) k_ hk⟩))
               (case aO => exact (by (with_reducible repeat (first | apply rA_q | apply rN_q | apply rD_q)); exact rM_q HO437.out (fun _ hk => ⟨hk.1.2, hk.2⟩)))
               (case aS => exact (bZ_q (by repeat (with_reducible first | exact HB.out | apply bA_q | apply pB_q | apply bD_q | refine bS_q ?_ GE424.out | refine bS_q ?_ GE425.out))))
               (case aL => have := LMc36.out; omega)
               intro v439 w78 ho hb hg hat
               rw [← Ny438.out] at ho
               have n0_ := Ae_q (rF_q (ok := (fun k_ => some k_ ≠ (v442 : Value).ownBlock)) (by (with_reducible repeat (first | apply rA_q | apply rN_q | apply rD_q)); exact rM_q HO_10.out (fun _ hk => ⟨hk.1.2, hk.2⟩)) hg hat)
               have n1_ := Ae_q (bG_q (g := gb424) (o := .cells #[.int .i64 a1_0, .slice A1_1 l1_1.length c1_1] 39 (0, 0)) (bup BK424.out) hg (Kd.R_ne HO437.out BK424.out (by decide)))
               have n2_ := Ae_q (bG_q (g := gb425) (o := .cells #[.int .i64 a3_0, .int .i64 a3_1, .int .i64 a3_2] 45 (0, 0)) (bup BK425.out) hg (Kd.R_ne HO437.out BK425.out (by decide)))
               have n3_ := Ae_q (rF_q (ok := (fun k_ => some k_ ≠ (.slice Ao28 x10_2.length co28 : Value).ownBlock)) (by (with_reducible repeat (first | apply rA_q | apply rN_q | apply rD_q)); exact rM_q HO443.out (fun _ hk => ⟨hk.1.2, hk.2⟩)) hg hat)
               have n4_ := Ae_q (hb)
               have n5_ := Ae_q (ho)
               clear HO_10
               clear BK424
               clear BK425
               clear HO443
               clear HB
               clear HO437
               have HO_10 := n0_
               have BK424 := n1_
               have BK425 := n2_
               have HO443 := n3_
               have HB := n4_
               have HO440 := n5_
               clear n0_ n1_ n2_ n3_ n4_ n5_
               clear ho hb hg hat
               refine hK.out _ _ ⟨(bC_q BK425.out 0).trans rfl, (bC_q BK425.out 1).trans rfl, (bC_q BK425.out 2).trans rfl, (bC_q BK424.out 0).trans rfl, (bC_q BK424.out 1).trans rfl, (cel HB.out hw433_0), (cel HB.out hw433_1), (cel HB.out hw433_2), (cel HB.out hw433_3)⟩ (fun hHeld => ?_)
               clear hK K
               refine norm_ (a' := ?_) ?_ ?_
               rotate_left
               ·show Act.put _ (some 52) _ = _
                simp only [Act.put, sA_q, sZ_q, sS_q, i64_w, i32_w]
                rfl
               exact norm_ (by simp only [putAll, Act.put, sA_q, sZ_q, sS_q]) (hCont (v436, v439, v442) _ ⟨hHeld, (by (with_reducible repeat (first | apply rA_q | apply rN_q | apply rD_q)); exact rM_q HO440.out (fun _ hk => ⟨hk.2, hk.1⟩)), (by (with_reducible repeat (first | apply rA_q | apply rN_q | apply rD_q)); exact rM_q HO443.out (fun _ hk => ⟨hk.2, hk.1⟩)), (by (with_reducible repeat (first | apply rA_q | apply rN_q | apply rD_q)); exact rM_q HO_10.out (fun _ hk => ⟨hk.2, hk.1⟩)), (bup BK424.out), (bup BK425.out), (by repeat (with_reducible first | exact HB.out | apply bA_q | apply pB_q | apply bD_q | refine bS_q ?_ GE424.out | refine bS_q ?_ GE425.out))⟩)
              rintro ⟨v436, v439, v442⟩ w79 ⟨hS_, h0_, h1_, h2_, h3_, h4_, h5_⟩
              have n0_ : Aside0 (Kd.R kI_q 3 w79 w.heap.size (fun k_ => some k_ ≠ (v442 : Value).ownBlock ∧ some k_ ≠ (.slice Ao28 x10_2.length co28 : Value).ownBlock) v439 y438) := ⟨h0_⟩
              have n1_ : Aside0 (Kd.R kI_q 3 w79 w.heap.size (fun k_ => some k_ ≠ (v439 : Value).ownBlock ∧ some k_ ≠ (.slice Ao28 x10_2.length co28 : Value).ownBlock) v442 y441) := ⟨h1_⟩
              have n2_ : Aside0 (Kd.R kI_q 3 w79 w.heap.size (fun k_ => some k_ ≠ (v439 : Value).ownBlock ∧ some k_ ≠ (v442 : Value).ownBlock) (.slice Ao28 x10_2.length co28) x10_2) := ⟨h2_⟩
              have n3_ : Aside0 (w79.heap[gb424]? = some (.cells #[.int .i64 a1_0, .slice A1_1 l1_1.length c1_1] 39 (0, 0))) := ⟨h3_⟩
              have n4_ : Aside0 (w79.heap[gb425]? = some (.cells #[.int .i64 a3_0, .int .i64 a3_1, .int .i64 a3_2] 45 (0, 0))) := ⟨h4_⟩
              have n5_ : Aside0 (Below w.heap.size w w79) := ⟨h5_⟩
              clear HO_10
              clear BK424
              clear BK425
              clear HB
              clear h0_ h1_ h2_ h3_ h4_ h5_
              have HO440 := n0_
              have HO443 := n1_
              have HO_10 := n2_
              have BK424 := n3_
              have BK425 := n4_
              have HB := n5_
              clear n0_ n1_ n2_ n3_ n4_ n5_
              have hHeld : w79.cell? ⟨gb425, 0, none⟩ = some (.int .i64 a3_0) ∧ w79.cell? ⟨gb425, 1, none⟩ = some (.int .i64 a3_1) ∧ w79.cell? ⟨gb425, 2, none⟩ = some (.int .i64 a3_2) ∧ w79.cell? ⟨gb424, 0, none⟩ = some (.int .i64 a1_0) ∧ w79.cell? ⟨gb424, 1, none⟩ = some (.slice A1_1 l1_1.length c1_1) ∧ w79.cell? (ad433.add ((x11_2).toNat * 4)) = some (.int .i64 ((rd_T59 l0 x11_2).f0)) ∧ w79.cell? ⟨(ad433.add ((x11_2).toNat * 4)).block, (ad433.add ((x11_2).toNat * 4)).off + 1, none⟩ = some (.int .i64 ((rd_T59 l0 x11_2).f1)) ∧ w79.cell? ⟨(ad433.add ((x11_2).toNat * 4)).block, (ad433.add ((x11_2).toNat * 4)).off + 2, none⟩ = some (.int .i64 ((rd_T59 l0 x11_2).f2)) ∧ w79.cell? ⟨(ad433.add ((x11_2).toNat * 4)).block, (ad433.add ((x11_2).toNat * 4)).off + 3, none⟩ = some (.slice A433_3 ((rd_T59 l0 x11_2).f3).length c433_3) := hS_
              obtain ⟨Ao81, co81, eo81⟩ := rS_q HO443.out
              (first | subst eo81 | (injection eo81 with f1_ f2_ f3_; have f4_ := f1_.symm; have f5_ := f3_.symm; clear f1_ f2_ f3_; subst f4_; subst f5_))
              refine norm_ (a' := ?_) ?_ ?_
              rotate_left
              ·simp only [putAll, Act.put, sA_q, sZ_q, sS_q]
               rfl
              refine one_ (i := 15) (N := some 55) #[true, true, true, true, true, true, true, true, true, true, true, true, true, true, true, true, false, false, false] rfl rfl (one_of HT_.out (by kernel_rfl)) (by decide) (fun K hK => ?_)
              refine rP_q kI_q (w0 := w) w.heap.size (by rfl) (.tmp 52) (.tmp 54) 22 3 (.int .i64 0) 8 rfl Try.underlying22 info3 rfl (by decide) (by omega) v439 y438 y441 _ _ _ (fun k_ => some k_ ≠ (.slice Ao28 x10_2.length co28 : Value).ownBlock ∧ some k_ ≠ (.slice Ao81 y441.length co81 : Value).ownBlock) (fun _ => False) rfl rfl ?aO ?aR (fun _ _ h => h) (fun _ h => h.elim) ?aF ?aB ?aS ?aL ?_
              (case aR => exact cup (rR_q HO443.out).2.2)
              (case aB => exact (by repeat (with_reducible first | exact HB.out | apply bA_q | apply pB_q | apply bD_q | refine bS_q ?_ GE424.out | refine bS_q ?_ GE425.out)))
              (case aF => exact (fun k_ hk => ⟨Kd.fresh' (rT_q (rup HO_10.out)) k_ hk, Kd.fresh' (rT_q (rup HO443.out)) k_ hk⟩))
              (case aO => exact (by (with_reducible repeat (first | apply rA_q | apply rN_q | apply rD_q)); exact rM_q HO440.out (fun _ hk => ⟨hk.2, hk.1⟩)))
              (case aS => exact (bZ_q (by repeat (with_reducible first | exact HB.out | apply bA_q | apply pB_q | apply bD_q | refine bS_q ?_ GE424.out | refine bS_q ?_ GE425.out))))
              (case aL => have := LMc37.out; omega)
              intro v445 w80 ho hb hg hat
              rw [← Ny444.out] at ho
              have n0_ := Ae_q (rF_q (ok := (fun k_ => some k_ ≠ (.slice Ao81 y441.length co81 : Value).ownBlock)) (by (with_reducible repeat (first | apply rA_q | apply rN_q | apply rD_q)); exact rM_q HO_10.out (fun _ hk => ⟨hk.2, hk.1⟩)) hg hat)
              have n1_ := Ae_q (bG_q (g := gb424) (o := .cells #[.int .i64 a1_0, .slice A1_1 l1_1.length c1_1] 39 (0, 0)) (bup BK424.out) hg (Kd.R_ne HO440.out BK424.out (by decide)))
              have n2_ := Ae_q (bG_q (g := gb425) (o := .cells #[.int .i64 a3_0, .int .i64 a3_1, .int .i64 a3_2] 45 (0, 0)) (bup BK425.out) hg (Kd.R_ne HO440.out BK425.out (by decide)))
              have n3_ := Ae_q (rF_q (ok := (fun k_ => some k_ ≠ (.slice Ao28 x10_2.length co28 : Value).ownBlock)) (by (with_reducible repeat (first | apply rA_q | apply rN_q | apply rD_q)); exact rM_q HO443.out (fun _ hk => ⟨hk.2, hk.1⟩)) hg hat)
              have n4_ := Ae_q (hb)
              have n5_ := Ae_q (ho)
              clear HO_10
              clear BK424
              clear BK425
              clear HO443
              clear HB
              clear HO440
              have HO_10 := n0_
              have BK424 := n1_
              have BK425 := n2_
              have HO443 := n3_
              have HB := n4_
              have HO446 := n5_
              clear n0_ n1_ n2_ n3_ n4_ n5_
              clear ho hb hg hat
              obtain ⟨Ao82, co82, eo82⟩ := rS_q HO446.out
              (first | subst eo82 | (injection eo82 with f1_ f2_ f3_; have f4_ := f1_.symm; have f5_ := f3_.symm; clear f1_ f2_ f3_; subst f4_; subst f5_))
              refine hK.out _ _ ⟨(bC_q BK425.out 0).trans rfl, (bC_q BK425.out 1).trans rfl, (bC_q BK425.out 2).trans rfl, (bC_q BK424.out 0).trans rfl, (bC_q BK424.out 1).trans rfl, (cel HB.out hw433_0), (cel HB.out hw433_1), (cel HB.out hw433_2), (cel HB.out hw433_3)⟩ (fun hHeld => ?_)
              clear hK K
              refine norm_ (a' := ?_) ?_ ?_
              rotate_left
              ·show Act.put _ (some 55) _ = _
               simp only [Act.put, sA_q, sZ_q, sS_q, i64_w, i32_w]
               rfl
              refine one_ (i := 16) (N := some 56) #[true, true, true, true, true, true, true, true, true, true, true, true, true, true, true, true, true, false, false] rfl rfl (one_of HT_.out (by kernel_rfl)) (by decide) (fun K hK => ?_)
              refine goes_ Try.func35 (by kernel_rfl) rfl #[.slice (some ad433) l0.length c0, .agg #[.int .i64 a1_0, .slice A1_1 l1_1.length c1_1], .slice Ao82 y444.length co82] (by rfl) rfl rfl (by (try simp only [lM_q, lC_q, lN_q]); first | done | rfl | (simp only [lD_q, lT_q]; rfl)) ?_
              with_reducible refine (spec_l32Room.calls k3 _ _ l0 a1_0 _ _ l1_1 _ _ y444 false _ ?side1 ?side2 ?side3 ?side4 ?side5 ?side6 A38.out).mono ?_
              (case side1 => exact cup (cB_q HR0.out HB.out))
              (case side2 => exact HC0.out)
              (case side3 => exact cup (cB_q HR1_1.out HB.out))
              (case side4 => exact HC1_1.out)
              (case side5 => exact cup (rR_q HO446.out).2.2)
              (case side6 => exact (rR_q HO446.out).2.1)
              rintro e w83 ⟨rfl, hb⟩
              refine ⟨_, rfl, ?_⟩
              have n0_ := Ae_q (rO_q (rup HO_10.out) hb)
              have n1_ := Ae_q (rO_q (rup HO443.out) hb)
              have n2_ := Ae_q (rO_q (rup HO446.out) hb)
              have n3_ := Ae_q (bB_q (g := gb424) (o := .cells #[.int .i64 a1_0, .slice A1_1 l1_1.length c1_1] 39 (0, 0)) (bup BK424.out) hb)
              have n4_ := Ae_q (bB_q (g := gb425) (o := .cells #[.int .i64 a3_0, .int .i64 a3_1, .int .i64 a3_2] 45 (0, 0)) (bup BK425.out) hb)
              have n5_ := Ae_q (bT_q (by repeat (with_reducible first | exact HB.out | apply bA_q | apply pB_q | apply bD_q | refine bS_q ?_ GE424.out | refine bS_q ?_ GE425.out)) hb)
              clear HO_10
              clear HO443
              clear HO446
              clear BK424
              clear BK425
              clear HB
              have HO_10 := n0_
              have HO443 := n1_
              have HO446 := n2_
              have BK424 := n3_
              have BK425 := n4_
              have HB := n5_
              clear n0_ n1_ n2_ n3_ n4_ n5_
              (try clear hb)
              (try clear hb2)
              (try clear hk)
              (try clear hi)
              refine hK.out _ _ ⟨(bC_q BK425.out 0).trans rfl, (bC_q BK425.out 1).trans rfl, (bC_q BK425.out 2).trans rfl, (bC_q BK424.out 0).trans rfl, (bC_q BK424.out 1).trans rfl, (cel HB.out hw433_0), (cel HB.out hw433_1), (cel HB.out hw433_2), (cel HB.out hw433_3)⟩ (fun hHeld => ?_)
              clear hK K
              refine norm_ (a' := ?_) ?_ ?_
              rotate_left
              ·show Act.put _ (some 56) _ = _
               simp only [Act.put, sA_q, sZ_q, sS_q, i64_w, i32_w]
               rfl
              refine pure_ (i := 17) (N := some 57) (v := ?_) (a' := ?_) #[true, true, true, true, true, true, true, true, true, true, true, true, true, true, true, true, true, true, false] rfl rfl (any_of HT_.out (by kernel_rfl)) (fun _ _ _ h => h) (Or.inl ⟨by rfl, ?_⟩) ?_ ?_
              rotate_left
              ·intro w'
               go_simp
               with_reducible rfl
              rotate_left
              ·simp only [Act.put, sA_q, sZ_q, sS_q, i64_w, i32_w]
               rfl
              refine pure_ (i := 18) (N := some 58) (v := ?_) (a' := ?_) #[true, true, true, true, true, true, true, true, true, true, true, true, true, true, true, true, true, true, true] rfl rfl (any_of HT_.out (by kernel_rfl)) (fun _ _ _ h => h) (Or.inl ⟨by rfl, ?_⟩) ?_ ?_
              rotate_left
              ·intro w'
               go_simp
               with_reducible rfl
              rotate_left
              ·simp only [Act.put, sA_q, sZ_q, sS_q, i64_w, i32_w]
               rfl
              refine done_ (done_of HT_.out (by kernel_rfl)) ?_
              try go_wp2
              go_roundg k3
              case measure => have := HJ4.out; have := HK2.out; have := HK3.out; omega
              case rel => exact ⟨(wrap64 (x12_3 + 1)), (by first | rfl | (simp; done) | (simp [*]; done)), H', ⟨by have := HJ4.out; have := HK2.out; have := HK3.out; omega⟩, ⟨by (with_reducible repeat (first | apply rA_q | apply rN_q | apply rD_q)); exact rM_q HO_10.out (fun _ hk => trivial)⟩, ⟨by (with_reducible repeat (first | refine bN_q ?_ _ | refine bW_q ?_ | refine bL_q ?_ _)); exact BK424.out⟩, ⟨by (with_reducible repeat (first | refine bN_q ?_ _ | refine bW_q ?_ | refine bL_q ?_ _)); exact BK425.out⟩, ⟨by repeat (with_reducible first | exact HB.out | apply bA_q | apply pB_q | apply bD_q | refine bS_q ?_ GE424.out | refine bS_q ?_ GE425.out)⟩⟩
             rw [if_neg c37] at H
             exact absurd H (by simp)
            rw [if_neg c36] at H
            exact absurd H (by simp)
           rw [if_neg c31] at H
           exact absurd H (by simp)
          rw [if_neg c30] at H
          exact absurd H (by simp)
       rw [if_neg c24] at H
       exact absurd H (by simp)
      rw [if_neg c23] at H
      exact absurd H (by simp)
     rw [if_neg c22] at H
     have c22b0 : decide (x11_2 < (l0.length : Int)) = false := dF_q c22
     clear c22
     simp only [oE_q, pE_q] at H
     obtain ⟨rfl, rfl⟩ := H
     go_wp2
     go_ret2
     exact ⟨_, by first | rfl | (simp [eN_q, eS_q] <;> rfl) | (simp [*, eN_q, eS_q] <;> rfl), by (with_reducible repeat (first | apply rA_q | apply rN_q | apply rD_q)); exact HO_10.out, by repeat (with_reducible first | exact HB.out | apply bA_q | apply pB_q | apply bD_q | refine bS_q ?_ GE424.out | refine bS_q ?_ GE425.out)⟩

end Go.Proofs.Ytjnagefogjkbbaa.PPl
