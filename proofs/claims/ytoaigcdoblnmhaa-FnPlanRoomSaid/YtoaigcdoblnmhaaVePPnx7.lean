import Derived.Test.YtoaigcdoblnmhaaVePPnx0
import Derived.Test.YtoaigcdoblnmhaaVePPnx3
import Derived.Test.YtoaigcdoblnmhaaVePPnx5
import Derived.Test.YtoaigcdoblnmhaaVePPnx6
namespace Go.Proofs.Ytoaigcdoblnmhaa.PPn
open Go.RowKit Go.Proofs.YtoaigcdoblnmhaaW.PrintWords Go.Proofs.YtoaigcdoblnmhaaW.PrintLast Go.Proofs.YtoaigcdoblnmhaaW.PrintMore
attribute [local go_sem] max2_int min2_int max_two min_two max_three min_three max_four min_four
set_option linter.unusedVariables false
set_option linter.unusedSimpArgs false

mutual
def spec_PlanMake.j0 : Nat → List (S31) → List Int → Bool → Int → List Int → Option (List Int × Bool)
 | 0, _, _, _, _, _ => none
 | k + 1, x0, x6, x17, x241000, x241001 => if x17 = true then (some (x6, false)) else (spec_PlanMake.l0 k x0 x6 0 x241000 x241001)
def spec_PlanMake.l0 : Nat → List (S31) → List Int → Int → Int → List Int → Option (List Int × Bool)
 | 0, _, _, _, _, _ => none
 | k + 1, x0, x6, x7, x241000, x241001 => if x7 < (x0.length : Int) then (if 0 ≤ x7 then ((spec_l32Alone.f ((rd_T31 x0 x7).f0) ((rd_T31 x0 x7).f1) ((rd_T31 x0 x7).f2) ((rd_T31 x0 x7).f3) x241000 x241001).bind fun t247 => (if t247 = true then ((spec_l32After.f k x0 x6 x7).bind fun t251 => (spec_PlanMake.l1 k x0 x6 x7 t251 x241000 x241001)) else (some ((([] : List Int)), false)))) else (none)) else (some (x6, true))
def spec_PlanMake.l1 : Nat → List (S31) → List Int → Int → Int → Int → List Int → Option (List Int × Bool)
 | 0, _, _, _, _, _, _ => none
 | k + 1, x0, x6, x7, x8, x241000, x241001 => (some (([] : List Int) : List Int)).bind fun y252 => (if y252.length + x6.length < 17592186044416 then ((some (y252 ++ x6 : List Int)).bind fun y255 => ((some (([x8] : List Int) : List Int)).bind fun y258 => (if y255.length + y258.length < 17592186044416 then ((spec_l32Room.f k x0 x241000 x241001 (y255 ++ y258)).bind fun t264 => (if t264 = true then ((some (([x8] : List Int) : List Int)).bind fun y265 => (if x6.length + y265.length < 17592186044416 then (spec_PlanMake.l0 k x0 (x6 ++ y265) (wrap64 (x7 + 1)) x241000 x241001) else (none))) else (spec_PlanMake.l1 k x0 x6 x7 (wrap64 (x8 + 1)) x241000 x241001))) else (none)))) else (none))
end
def spec_PlanMake.f (k : Nat) (l0 : List (S31)) (a1_0 : Int) (l1_1 : List Int) : Option (List Int × Bool) := (some (([] : List Int) : List Int)).bind fun y241 => ((spec_KitchenValid.f k a1_0 l1_1).bind fun t244 => (if t244 = true then ((spec_StepsValid.f k l0).bind fun t245 => (spec_PlanMake.j0 k l0 y241 (!t245) a1_0 l1_1)) else (spec_PlanMake.j0 k l0 y241 true a1_0 l1_1)))
theorem spec_PlanMake.mono_l : ∀ k, (∀ y0 y1 y2 y3 y4, LeO (spec_PlanMake.j0 k y0 y1 y2 y3 y4) (spec_PlanMake.j0 (k + 1) y0 y1 y2 y3 y4)) ∧ (∀ y0 y1 y2 y3 y4, LeO (spec_PlanMake.l0 k y0 y1 y2 y3 y4) (spec_PlanMake.l0 (k + 1) y0 y1 y2 y3 y4)) ∧ (∀ y0 y1 y2 y3 y4 y5, LeO (spec_PlanMake.l1 k y0 y1 y2 y3 y4 y5) (spec_PlanMake.l1 (k + 1) y0 y1 y2 y3 y4 y5))
 | 0 => ⟨fun _ _ _ _ _ r h => by simp [spec_PlanMake.j0] at h, fun _ _ _ _ _ r h => by simp [spec_PlanMake.l0] at h, fun _ _ _ _ _ _ r h => by simp [spec_PlanMake.l1] at h⟩
 | k + 1 => by
  obtain ⟨ih0, ih1, ih2⟩ := spec_PlanMake.mono_l k
  refine ⟨?_, ?_, ?_⟩
  ·intro y0 y1 y2 y3 y4
   unfold spec_PlanMake.j0
   repeat' first
   | (with_reducible exact ih0 _ _ _ _ _)
   | (with_reducible exact ih1 _ _ _ _ _)
   | (with_reducible exact ih2 _ _ _ _ _ _)
   | (with_reducible exact spec_KitchenValid.mono _ _ _)
   | (with_reducible exact spec_StepsValid.mono _ _)
   | (with_reducible exact spec_l32After.mono _ _ _ _)
   | (with_reducible exact spec_l32Room.mono _ _ _ _ _)
   | (with_reducible exact lR_q _)
   | (with_reducible exact lO_q _)
   | (with_reducible refine lI_q ?_ ?_)
   | (with_reducible refine lB_q ?_ (fun _ => ?_))
   | exact ih0 _ _ _ _ _
   | exact ih1 _ _ _ _ _
   | exact ih2 _ _ _ _ _ _
   | exact spec_KitchenValid.mono _ _ _
   | exact spec_StepsValid.mono _ _
   | exact spec_l32After.mono _ _ _ _
   | exact spec_l32Room.mono _ _ _ _ _
   | exact lO_q _
   | refine lI_q ?_ ?_
   | refine lB_q ?_ (fun _ => ?_)
  ·intro y0 y1 y2 y3 y4
   unfold spec_PlanMake.l0
   repeat' first
   | (with_reducible exact ih0 _ _ _ _ _)
   | (with_reducible exact ih1 _ _ _ _ _)
   | (with_reducible exact ih2 _ _ _ _ _ _)
   | (with_reducible exact spec_KitchenValid.mono _ _ _)
   | (with_reducible exact spec_StepsValid.mono _ _)
   | (with_reducible exact spec_l32After.mono _ _ _ _)
   | (with_reducible exact spec_l32Room.mono _ _ _ _ _)
   | (with_reducible exact lR_q _)
   | (with_reducible exact lO_q _)
   | (with_reducible refine lI_q ?_ ?_)
   | (with_reducible refine lB_q ?_ (fun _ => ?_))
   | exact ih0 _ _ _ _ _
   | exact ih1 _ _ _ _ _
   | exact ih2 _ _ _ _ _ _
   | exact spec_KitchenValid.mono _ _ _
   | exact spec_StepsValid.mono _ _
   | exact spec_l32After.mono _ _ _ _
   | exact spec_l32Room.mono _ _ _ _ _
   | exact lO_q _
   | refine lI_q ?_ ?_
   | refine lB_q ?_ (fun _ => ?_)
  intro y0 y1 y2 y3 y4 y5
  unfold spec_PlanMake.l1
  repeat' first
  | (with_reducible exact ih0 _ _ _ _ _)
  | (with_reducible exact ih1 _ _ _ _ _)
  | (with_reducible exact ih2 _ _ _ _ _ _)
  | (with_reducible exact spec_KitchenValid.mono _ _ _)
  | (with_reducible exact spec_StepsValid.mono _ _)
  | (with_reducible exact spec_l32After.mono _ _ _ _)
  | (with_reducible exact spec_l32Room.mono _ _ _ _ _)
  | (with_reducible exact lR_q _)
  | (with_reducible exact lO_q _)
  | (with_reducible refine lI_q ?_ ?_)
  | (with_reducible refine lB_q ?_ (fun _ => ?_))
  | exact ih0 _ _ _ _ _
  | exact ih1 _ _ _ _ _
  | exact ih2 _ _ _ _ _ _
  | exact spec_KitchenValid.mono _ _ _
  | exact spec_StepsValid.mono _ _
  | exact spec_l32After.mono _ _ _ _
  | exact spec_l32Room.mono _ _ _ _ _
  | exact lO_q _
  | refine lI_q ?_ ?_
  | refine lB_q ?_ (fun _ => ?_)
theorem spec_PlanMake.mono : ∀ a0 a1 a2 k, LeO (spec_PlanMake.f k a0 a1 a2) (spec_PlanMake.f (k + 1) a0 a1 a2) := by
 intro a0 a1 a2 k
 obtain ⟨ih0, ih1, ih2⟩ := spec_PlanMake.mono_l k
 unfold spec_PlanMake.f
 repeat' first
  | (with_reducible exact ih0 _ _ _ _ _)
  | (with_reducible exact ih1 _ _ _ _ _)
  | (with_reducible exact ih2 _ _ _ _ _ _)
  | (with_reducible exact spec_KitchenValid.mono _ _ _)
  | (with_reducible exact spec_StepsValid.mono _ _)
  | (with_reducible exact spec_l32After.mono _ _ _ _)
  | (with_reducible exact spec_l32Room.mono _ _ _ _ _)
  | (with_reducible exact lR_q _)
  | (with_reducible exact lO_q _)
  | (with_reducible refine lI_q ?_ ?_)
  | (with_reducible refine lB_q ?_ (fun _ => ?_))
  | exact ih0 _ _ _ _ _
  | exact ih1 _ _ _ _ _
  | exact ih2 _ _ _ _ _ _
  | exact spec_KitchenValid.mono _ _ _
  | exact spec_StepsValid.mono _ _
  | exact spec_l32After.mono _ _ _ _
  | exact spec_l32Room.mono _ _ _ _ _
  | exact lO_q _
  | refine lI_q ?_ ?_
  | refine lB_q ?_ (fun _ => ?_)
def spec_PlanMake.T10 : Bool × List (List Nat × List Nat) := (true, [([], []), ([], []), ([], []), ([], []), ([2, 3], [2, 3]), ([], []), ([5], [5]), ([4, 6, 4], [4, 6]), ([0, 1, 7, 7], [0, 1, 7]), ([8], [8])])
def spec_PlanMake.B10 : List Nat := [0, 0, 0, 0, 12, 0, 32, 124, 255, 511]
theorem spec_PlanMake.tab10 : rtab .any (opsOf Try.f56 10) = spec_PlanMake.T10 := by kernel_rfl
theorem spec_PlanMake.bits10 : waitsOk spec_PlanMake.T10.2 spec_PlanMake.B10 = true := by kernel_rfl
set_option maxHeartbeats 8000000 in
set_option maxRecDepth 100000 in
theorem spec_PlanMake.calls (k : Nat) (A0 : Option Addr) (c0 : Nat) (l0 : List (S31)) (a1_0 : Int) (A1_1 : Option Addr) (c1_1 : Nat) (l1_1 : List Int) (r1 : List Int) (r2 : Bool) (w : World) (hr0 : Kd.C k31 w A0 l0.length l0) (hc0 : l0.length ≤ c0) (hr1_1 : Kd.C kI_q w A1_1 l1_1.length l1_1) (hc1_1 : l1_1.length ≤ c1_1) (h : spec_PlanMake.f k l0 a1_0 l1_1 = some (r1, r2)) :
    Calls Try.prog 56 #[.slice A0 l0.length c0, .agg #[.int .i64 a1_0, .slice A1_1 l1_1.length c1_1]] w fun e w' => ∃ v0_ : Value, e = .returned (.tuple #[v0_, .bool r2]) ∧ Kd.R kI_q 3 w' w.heap.size (fun _ => True) v0_ r1 ∧ Below w.heap.size w w' := by
 have hu41 := Try.underlying41
 have hu31 := Try.underlying31
 have HR0 := Ae_q hr0
 have HC0 := Ae_q hc0
 clear hr0 hc0
 have HR1_1 := Ae_q hr1_1
 have HC1_1 := Ae_q hc1_1
 clear hr1_1 hc1_1
 have HB := Ae_q (bR_q w.heap.size w)
 have H : ((some (([] : List Int) : List Int)).bind fun y241 => ((spec_KitchenValid.f k a1_0 l1_1).bind fun t244 => (if t244 = true then ((spec_StepsValid.f k l0).bind fun t245 => (spec_PlanMake.j0 k l0 y241 (!t245) a1_0 l1_1)) else (spec_PlanMake.j0 k l0 y241 true a1_0 l1_1)))) = some (r1, r2) := h
 clear h
 obtain ⟨y241, hy241⟩ : ∃ y_ : List Int, y_ = (([] : List Int)) := ⟨_, rfl⟩
 replace H : ((spec_KitchenValid.f k a1_0 l1_1).bind fun t244 => (if t244 = true then ((spec_StepsValid.f k l0).bind fun t245 => (spec_PlanMake.j0 k l0 y241 (!t245) a1_0 l1_1)) else (spec_PlanMake.j0 k l0 y241 true a1_0 l1_1))) = some (r1, r2) := by first | (rw [hy241]; with_reducible exact H) | (have H2_ := (oS_q _ _).symm.trans H; rw [hy241]; with_reducible exact H2_) | (have H2_ := (oS_q _ _).symm.trans H; with_reducible exact H2_) | with_reducible exact H | (rw [hy241]; exact H) | exact H
 have Ny241 := Ae_q hy241
 clear hy241
 have HC3 := Ae_q H
 clear H
 go_enter Try.func56, Try.ntmps56
 go_upto_region 2 with (first | ((with_reducible refine gD_q (N := 3) rfl ?_); refine bE_q ?hg (N := 3) ?hd (cs := #[.int .i64 a1_0, .slice A1_1 l1_1.length c1_1]) (t := 41) ?hr ?_; (case hd => rfl); (case hg => rfl); (case hr => first | (go_simp; done) | (go_simp; rfl)); intro gb240 hg w4 hbox hb; have n0_ := Ae_q (bT_q (bel HB.out) hb); have n1_ := Ae_q (hbox); have n2_ := Ae_q ((by rw [hg]; exact (bZ_q (bel HB.out)) : w.heap.size ≤ gb240)); have n3_ := Ae_q ((by rw [hg]; exact (bZ_q (bel HB.out)) : w.heap.size ≤ gb240)); clear HB; have HB := n0_; have BK240 := n1_; have GW240 := n2_; have GE240 := n3_; clear n0_ n1_ n2_ n3_; clear hb hbox hg) | ((with_reducible refine gD_q (N := 9) rfl ?_); refine Kd.R_lit kI_q _ 3 ?hg (N := 9) ?hd (xs := ([] : List Int)) (inner := []) (ok := fun _ => True) (okp := fun _ => True) ?hr ?hp (fun _ hk => hk) trivial (bR_q _ _) (nR_q _) (by simp) ?_; (case hd => rfl); (case hg => rfl); (case hr => first | (go_simp; done) | (go_simp; rfl)); (case hp => exact (Reps.none _ _)); intro v242 w5 ho6 hb hg_ hnew_; clear hg_ hnew_; (first | rw [← Ny241.out] at ho6 | (simp only [Int.reduceToNat] at ho6; rw [← Ny241.out] at ho6)); have n0_ := Ae_q (rL_q ho6 (bZ_q (by repeat (first | (with_reducible first | exact HB.out | apply bA_q | apply pB_q | apply bD_q | refine bS_q ?_ GE240.out) | exact HB.out)))); have n1_ := Ae_q (bB_q (g := gb240) (o := .cells #[.int .i64 a1_0, .slice A1_1 l1_1.length c1_1] 41 (0, 0)) (bup BK240.out) hb); have n2_ := Ae_q (bT_q (by repeat (first | (with_reducible first | exact HB.out | apply bA_q | apply pB_q | apply bD_q | refine bS_q ?_ GE240.out) | exact HB.out)) hb); clear BK240; clear HB; have HO243 := n0_; have BK240 := n1_; have HB := n2_; clear n0_ n1_ n2_; clear hb ho6))
 (try simp only [Act.put, sA_q, sZ_q, sS_q])
 go_cut [17] (fun v17 wc => ∃ (kq : Nat) (x17_2 : Bool), v17 = .bool x17_2 ∧ Aside0 (spec_PlanMake.j0 kq l0 y241 x17_2 a1_0 l1_1 = some (r1, r2)) ∧ Aside0 (kq ≤ k) ∧ Aside0 (Kd.R kI_q 3 wc w.heap.size (fun _ => True) v242 y241) ∧ Aside0 (wc.heap[gb240]? = some (.cells #[.int .i64 a1_0, (.slice A1_1 l1_1.length c1_1)] 41 (0, 0))) ∧ Aside0 (Below w.heap.size w wc))
 case first =>
  have H := HC3.out
  clear HC3
  replace H := oB_q.mp H
  obtain ⟨t244, A70, H⟩ := H
  replace H : (if t244 = true then ((spec_StepsValid.f k l0).bind fun t245 => (spec_PlanMake.j0 k l0 y241 (!t245) a1_0 l1_1)) else (spec_PlanMake.j0 k l0 y241 true a1_0 l1_1)) = some (r1, r2) := H
  have A7 := Ae_q A70
  clear A70
  by_cases c8 : t244 = true
  ·subst c8
   have H1 : ((spec_StepsValid.f k l0).bind fun t245 => (spec_PlanMake.j0 k l0 y241 (!t245) a1_0 l1_1)) = some (r1, r2) := by rw [if_pos rfl] at H; exact H
   clear H
   have H := H1
   clear H1
   replace H := oB_q.mp H
   obtain ⟨t245, A90, H⟩ := H
   replace H : (spec_PlanMake.j0 k l0 y241 (!t245) a1_0 l1_1) = some (r1, r2) := H
   have A9 := Ae_q A90
   clear A90
   have H' := Ae_q H
   clear H
   have hcz10_0 : w5.cell? ⟨gb240, 0, none⟩ = some (.int .i64 a1_0) := (bC_q BK240.out 0).trans rfl
   have hcz10_1 : w5.cell? ⟨gb240, 1, none⟩ = some (.slice A1_1 l1_1.length c1_1) := (bC_q BK240.out 1).trans rfl
   have hfz10_0 := bF_q BK240.out 0
   have hfz10_1 := bF_q BK240.out 1
   go_wp2_with (first | ((with_reducible refine gC_q (f := 25) rfl ?_); refine gL_q (some 11) rfl rfl Try.func25 (by kernel_rfl) rfl #[.agg #[.int .i64 a1_0, .slice A1_1 l1_1.length c1_1]] rfl (by (try simp only [lM_q, lC_q, lN_q]); first | done | rfl | (simp only [lD_q, lT_q]; rfl)) ?_; (with_reducible refine (spec_KitchenValid.calls k a1_0 _ _ l1_1 true _ ?side1 ?side2 A7.out).mono ?_); (case side1 => repeat (first | exact (cB_q HR1_1.out HB.out) | (with_reducible refine cA_q ?_ _) | (with_reducible refine cN_q ?_ _) | (with_reducible refine cD_q ?_))); (case side2 => exact HC1_1.out); rintro e w11 ⟨rfl, hb⟩; refine ⟨_, rfl, ?_⟩; have n0_ := Ae_q (rO_q (rup HO243.out) hb); have n1_ := Ae_q (bB_q (g := gb240) (o := .cells #[.int .i64 a1_0, .slice A1_1 l1_1.length c1_1] 41 (0, 0)) (bup BK240.out) hb); have n2_ := Ae_q (bT_q (by repeat (first | (with_reducible first | exact HB.out | apply bA_q | apply pB_q | apply bD_q | refine bS_q ?_ GE240.out) | exact HB.out)) hb); clear HO243; clear BK240; clear HB; have HO243 := n0_; have BK240 := n1_; have HB := n2_; clear n0_ n1_ n2_; (try clear hb); (try clear hb2); (try clear hk); (try clear hi)) | (go_at_call 62; (with_reducible refine (spec_StepsValid.calls k _ _ l0 t245 _ ?side1 ?side2 A9.out).mono ?_); (case side1 => repeat (first | exact (cB_q HR0.out HB.out) | (with_reducible refine cA_q ?_ _) | (with_reducible refine cN_q ?_ _) | (with_reducible refine cD_q ?_))); (case side2 => exact HC0.out); rintro e w12 ⟨rfl, hb⟩; have n0_ := Ae_q (rO_q (rup HO243.out) hb); have n1_ := Ae_q (bB_q (g := gb240) (o := .cells #[.int .i64 a1_0, .slice A1_1 l1_1.length c1_1] 41 (0, 0)) (bup BK240.out) hb); have n2_ := Ae_q (bT_q (by repeat (first | (with_reducible first | exact HB.out | apply bA_q | apply pB_q | apply bD_q | refine bS_q ?_ GE240.out) | exact HB.out)) hb); clear HO243; clear BK240; clear HB; have HO243 := n0_; have BK240 := n1_; have HB := n2_; clear n0_ n1_ n2_; (try clear hb); (try clear hb2); (try clear hk); (try clear hi)))
   go_meet
   case rel => exact ⟨_, (!t245), (by first | rfl | (simp; done) | (simp [*]; done)), H', ⟨by first | omega | exact nR_q _⟩, ⟨by (with_reducible repeat (first | apply rA_q | apply rN_q | apply rD_q)); exact HO243.out⟩, ⟨by (with_reducible repeat (first | refine bN_q ?_ _ | refine bW_q ?_ | refine bL_q ?_ _)); exact BK240.out⟩, ⟨by repeat (first | (with_reducible first | exact HB.out | apply bA_q | apply pB_q | apply bD_q | refine bS_q ?_ GE240.out) | exact HB.out)⟩⟩
  replace c8 := fM_q.mpr c8
  subst c8
  have H1 : (spec_PlanMake.j0 k l0 y241 true a1_0 l1_1) = some (r1, r2) := by rw [if_neg (show ¬ (false = true) by decide)] at H; exact H
  clear H
  have H := H1
  clear H1
  have H' := Ae_q H
  clear H
  have hcz13_0 : w5.cell? ⟨gb240, 0, none⟩ = some (.int .i64 a1_0) := (bC_q BK240.out 0).trans rfl
  have hcz13_1 : w5.cell? ⟨gb240, 1, none⟩ = some (.slice A1_1 l1_1.length c1_1) := (bC_q BK240.out 1).trans rfl
  have hfz13_0 := bF_q BK240.out 0
  have hfz13_1 := bF_q BK240.out 1
  go_wp2_with (first | ((with_reducible refine gC_q (f := 25) rfl ?_); refine gL_q (some 11) rfl rfl Try.func25 (by kernel_rfl) rfl #[.agg #[.int .i64 a1_0, .slice A1_1 l1_1.length c1_1]] rfl (by (try simp only [lM_q, lC_q, lN_q]); first | done | rfl | (simp only [lD_q, lT_q]; rfl)) ?_; (with_reducible refine (spec_KitchenValid.calls k a1_0 _ _ l1_1 false _ ?side1 ?side2 A7.out).mono ?_); (case side1 => repeat (first | exact (cB_q HR1_1.out HB.out) | (with_reducible refine cA_q ?_ _) | (with_reducible refine cN_q ?_ _) | (with_reducible refine cD_q ?_))); (case side2 => exact HC1_1.out); rintro e w14 ⟨rfl, hb⟩; refine ⟨_, rfl, ?_⟩; have n0_ := Ae_q (rO_q (rup HO243.out) hb); have n1_ := Ae_q (bB_q (g := gb240) (o := .cells #[.int .i64 a1_0, .slice A1_1 l1_1.length c1_1] 41 (0, 0)) (bup BK240.out) hb); have n2_ := Ae_q (bT_q (by repeat (first | (with_reducible first | exact HB.out | apply bA_q | apply pB_q | apply bD_q | refine bS_q ?_ GE240.out) | exact HB.out)) hb); clear HO243; clear BK240; clear HB; have HO243 := n0_; have BK240 := n1_; have HB := n2_; clear n0_ n1_ n2_; (try clear hb); (try clear hb2); (try clear hk); (try clear hi)))
  go_meet
  case rel => exact ⟨_, (true), (by first | rfl | (simp; done) | (simp [*]; done)), H', ⟨by first | omega | exact nR_q _⟩, ⟨by (with_reducible repeat (first | apply rA_q | apply rN_q | apply rD_q)); exact HO243.out⟩, ⟨by (with_reducible repeat (first | refine bN_q ?_ _ | refine bW_q ?_ | refine bL_q ?_ _)); exact BK240.out⟩, ⟨by repeat (first | (with_reducible first | exact HB.out | apply bA_q | apply pB_q | apply bD_q | refine bS_q ?_ GE240.out) | exact HB.out)⟩⟩
 case rest =>
  clear HC3
  try clear c1
  try clear c2
  try clear p2
  try clear c5
  try clear c8
  try clear hcz10_0
  try clear hcz10_1
  try clear hcz13_0
  try clear hcz13_1
  try clear hfz10_0
  try clear hfz10_1
  try clear hfz13_0
  try clear hfz13_1
  obtain ⟨kq, x17_2, rfl, HA, HJ2, HO_6, BK240, HB⟩ := hcut
  cases kq with
  | zero => exact absurd HA.out (by simp [spec_PlanMake.j0])
  | succ kj2 =>
   have H := HA.out
   clear HA
   simp only [spec_PlanMake.j0] at H
   by_cases c15 : x17_2 = true
   ·subst c15
    have H1 : (some (y241, false)) = some (r1, r2) := by rw [if_pos rfl] at H; exact H
    clear H
    have H := H1
    clear H1
    simp only [oE_q, pE_q] at H
    obtain ⟨rfl, rfl⟩ := H
    go_wp2
    go_ret2
    exact ⟨_, by first | rfl | (simp [eN_q, eS_q] <;> rfl) | (simp [*, eN_q, eS_q] <;> rfl), by (with_reducible repeat (first | apply rA_q | apply rN_q | apply rD_q)); exact HO_6.out, by repeat (first | (with_reducible first | exact HB.out | apply bA_q | apply pB_q | apply bD_q | refine bS_q ?_ GE240.out) | exact HB.out)⟩
   replace c15 := fM_q.mpr c15
   subst c15
   have H1 : (spec_PlanMake.l0 kj2 l0 y241 0 a1_0 l1_1) = some (r1, r2) := by rw [if_neg (show ¬ (false = true) by decide)] at H; exact H
   clear H
   have H := H1
   clear H1
   have H' := Ae_q H
   clear H
   go_wp2
   go_loopg [6, 7] kj2 (fun kq v6 v7 w' => ∃ (x6_2 : List Int) (x7_2 : Int), v7 = .int .i64 x7_2 ∧ Aside0 (spec_PlanMake.l0 kq l0 x6_2 x7_2 a1_0 l1_1 = some (r1, r2)) ∧ Aside0 (kq ≤ kj2) ∧ Aside0 (Kd.R kI_q 3 w' w.heap.size (fun _ => True) v6 x6_2) ∧ Aside0 (w'.heap[gb240]? = some (.cells #[.int .i64 a1_0, (.slice A1_1 l1_1.length c1_1)] 41 (0, 0))) ∧ Aside0 (Below w.heap.size w w'))
   case atStart => exact ⟨(y241), (0), (by first | rfl | (simp; done) | (simp [*]; done)), H', ⟨nR_q _⟩, ⟨by (with_reducible repeat (first | apply rA_q | apply rN_q | apply rD_q)); exact HO_6.out⟩, ⟨by (with_reducible repeat (first | refine bN_q ?_ _ | refine bW_q ?_ | refine bL_q ?_ _)); exact BK240.out⟩, ⟨by repeat (first | (with_reducible first | exact HB.out | apply bA_q | apply pB_q | apply bD_q | refine bS_q ?_ GE240.out) | exact HB.out)⟩⟩
   case round =>
    clear H'
    try clear c1
    try clear c2
    try clear p2
    try clear c5
    try clear c8
    try clear c15
    try clear hcz10_0
    try clear hcz10_1
    try clear hcz13_0
    try clear hcz13_1
    try clear hfz10_0
    try clear hfz10_1
    try clear hfz13_0
    try clear hfz13_1
    try clear p2
    obtain ⟨x6_2, x7_2, rfl, HA, HK2, HO_6, BK240, HB⟩ := hrel
    cases gk with
    | zero => exact absurd HA.out (by simp [spec_PlanMake.l0])
    | succ k2 =>
     have H := HA.out
     clear HA
     simp only [spec_PlanMake.l0] at H
     by_cases c16 : x7_2 < (l0.length : Int)
     ·rw [if_pos c16] at H
      have c16b0 : decide (x7_2 < (l0.length : Int)) = true := dT_q c16
      clear c16
      by_cases c17 : 0 ≤ x7_2
      ·rw [if_pos c17] at H
       have c17b0 : decide (0 ≤ x7_2) = true := dT_q c17
       clear c17
       replace H := oB_q.mp H
       obtain ⟨t247, A180, H⟩ := H
       replace H : (if t247 = true then ((spec_l32After.f k2 l0 x6_2 x7_2).bind fun t251 => (spec_PlanMake.l1 k2 l0 x6_2 x7_2 t251 a1_0 l1_1)) else (some ((([] : List Int)), false))) = some (r1, r2) := H
       have A18 := Ae_q A180
       clear A180
       by_cases c19 : t247 = true
       ·subst c19
        have H1 : ((spec_l32After.f k2 l0 x6_2 x7_2).bind fun t251 => (spec_PlanMake.l1 k2 l0 x6_2 x7_2 t251 a1_0 l1_1)) = some (r1, r2) := by rw [if_pos rfl] at H; exact H
        clear H
        have H := H1
        clear H1
        replace H := oB_q.mp H
        obtain ⟨t251, A200, H⟩ := H
        replace H : (spec_PlanMake.l1 k2 l0 x6_2 x7_2 t251 a1_0 l1_1) = some (r1, r2) := H
        have A20 := Ae_q A200
        clear A200
        have H' := Ae_q H
        clear H
        try go_wp2
        have n0_ := Ae_q (rD_q HO_6.out)
        have n1_ := Ae_q (bW_q BK240.out)
        have n2_ := Ae_q (bD_q HB.out)
        clear HO_6
        clear BK240
        clear HB
        have HO_6 := n0_
        have BK240 := n1_
        have HB := n2_
        clear n0_ n1_ n2_
        have p246 : 0 ≤ (x7_2 : Int) := oD_q (by assumption)
        have q246 : x7_2 < (l0.length : Int) := oD_q (by assumption)
        obtain ⟨ad246, A246_3, c246_3, e246, hx246_0, hx246_1, hx246_2, hx246_3, hl246_3, hi246_3⟩ := at_T31 HR0.out x7_2 p246 q246
        have hw246_3 := hx246_3
        have hw246_2 := hx246_2
        have hw246_1 := hx246_1
        have hw246_0 := hx246_0
        cases e246
        replace hx246_0 := (HB.out.cell (wL_q w _ hx246_0)).trans hx246_0
        replace hx246_1 := (HB.out.cell (wL_q w _ hx246_1)).trans hx246_1
        replace hx246_2 := (HB.out.cell (wL_q w _ hx246_2)).trans hx246_2
        replace hx246_3 := (HB.out.cell (wL_q w _ hx246_3)).trans hx246_3
        have HR246_3 := Ae_q hi246_3
        have HC246_3 := Ae_q hl246_3
        clear hi246_3 hl246_3
        replace p246 := eq_true p246
        replace q246 := eq_true q246
        refine start_ (n := 7) (S := fun w' => w'.cell? ⟨gb240, 0, none⟩ = some (.int .i64 a1_0) ∧ w'.cell? ⟨gb240, 1, none⟩ = some (.slice A1_1 l1_1.length c1_1) ∧ w'.cell? (ad246.add ((x7_2).toNat * 4)) = some (.int .i64 ((rd_T31 l0 x7_2).f0)) ∧ w'.cell? ⟨(ad246.add ((x7_2).toNat * 4)).block, (ad246.add ((x7_2).toNat * 4)).off + 1, none⟩ = some (.int .i64 ((rd_T31 l0 x7_2).f1)) ∧ w'.cell? ⟨(ad246.add ((x7_2).toNat * 4)).block, (ad246.add ((x7_2).toNat * 4)).off + 2, none⟩ = some (.int .i64 ((rd_T31 l0 x7_2).f2)) ∧ w'.cell? ⟨(ad246.add ((x7_2).toNat * 4)).block, (ad246.add ((x7_2).toNat * 4)).off + 3, none⟩ = some (.slice A246_3 ((rd_T31 l0 x7_2).f3).length c246_3)) (ds := []) #[false, false, false, false, false, false, false] (by kernel_rfl) rfl rfl ⟨(bC_q BK240.out 0).trans rfl, (bC_q BK240.out 1).trans rfl, (cel HB.out hw246_0), (cel HB.out hw246_1), (cel HB.out hw246_2), (cel HB.out hw246_3)⟩ (fun hHeld => ?_)
        generalize wr.drew = w21 at HO_6 BK240 HB HR246_3 hx246_0 hx246_1 hx246_2 hx246_3 hHeld ⊢
        refine pure_ (i := 0) (N := some 25) (v := ?_) (a' := ?_) #[true, false, false, false, false, false, false] rfl rfl (by kernel_rfl) (fun _ _ _ h => h) (Or.inl ⟨by rfl, ?_⟩) ?_ ?_
        rotate_left
        ·intro w'
         go_simp
         with_reducible rfl
        rotate_left
        ·simp only [Act.put, sA_q, sZ_q, sS_q, i64_w, i32_w]
         rfl
        refine pure_ (i := 1) (N := some 26) (v := ?_) (a' := ?_) #[true, true, false, false, false, false, false] rfl rfl (by kernel_rfl) (fun _ _ _ h => h) (Or.inl ⟨by rfl, ?_⟩) ?_ ?_
        rotate_left
        ·intro w'
         go_simp
         with_reducible rfl
        rotate_left
        ·simp only [Act.put, sA_q, sZ_q, sS_q, i64_w, i32_w]
         rfl
        refine pure_ (i := 2) (N := some 27) (v := ?_) (a' := ?_) #[true, true, true, false, false, false, false] rfl rfl (by kernel_rfl) (fun _ _ _ h => h) (Or.inl ⟨by rfl, ?_⟩) ?_ ?_
        rotate_left
        ·intro w'
         go_simp
         with_reducible rfl
        rotate_left
        ·simp only [Act.put, sA_q, sZ_q, sS_q, i64_w, i32_w]
         rfl
        refine take_ (i := 3) (N := some 28) (v := ?_) (a' := ?_) #[true, true, true, true, false, false, false] rfl rfl (by kernel_rfl) (fun _ _ _ h => h) (Or.inl ⟨by rfl, ?_⟩) hHeld ?_ ?_
        rotate_left
        ·rintro w' ⟨s0, s1, s2, s3, s4, s5⟩
         go_simp
         with_reducible rfl
        rotate_left
        ·simp only [Act.put, sA_q, sZ_q, sS_q, i64_w, i32_w]
         rfl
        refine take_ (i := 4) (N := some 29) (v := ?_) (a' := ?_) #[true, true, true, true, true, false, false] rfl rfl (by kernel_rfl) (fun _ _ _ h => h) (Or.inl ⟨by rfl, ?_⟩) hHeld ?_ ?_
        rotate_left
        ·rintro w' ⟨s0, s1, s2, s3, s4, s5⟩
         go_simp
         with_reducible rfl
        rotate_left
        ·simp only [Act.put, sA_q, sZ_q, sS_q, i64_w, i32_w]
         rfl
        refine one_ (i := 5) (N := some 30) #[true, true, true, true, true, true, false] rfl rfl (by kernel_rfl) (by decide) (fun K hK => ?_)
        refine goes_ Try.func67 (by kernel_rfl) rfl #[.agg #[.int .i64 ((rd_T31 l0 x7_2).f0), .int .i64 ((rd_T31 l0 x7_2).f1), .int .i64 ((rd_T31 l0 x7_2).f2), .slice A246_3 ((rd_T31 l0 x7_2).f3).length c246_3], .agg #[.int .i64 a1_0, .slice A1_1 l1_1.length c1_1]] (by rfl) rfl rfl (by (try simp only [lM_q, lC_q, lN_q]); first | done | rfl | (simp only [lD_q, lT_q]; rfl)) ?_
        with_reducible refine (spec_l32Alone.calls ((rd_T31 l0 x7_2).f0) ((rd_T31 l0 x7_2).f1) ((rd_T31 l0 x7_2).f2) _ _ ((rd_T31 l0 x7_2).f3) a1_0 _ _ l1_1 true _ ?side1 ?side2 ?side3 ?side4 A18.out).mono ?_
        (case side1 => repeat (first | exact (cB_q HR246_3.out HB.out) | (with_reducible refine cA_q ?_ _) | (with_reducible refine cN_q ?_ _) | (with_reducible refine cD_q ?_)))
        (case side2 => exact HC246_3.out)
        (case side3 => repeat (first | exact (cB_q HR1_1.out HB.out) | (with_reducible refine cA_q ?_ _) | (with_reducible refine cN_q ?_ _) | (with_reducible refine cD_q ?_)))
        (case side4 => exact HC1_1.out)
        rintro e w22 ⟨rfl, hb⟩
        refine ⟨_, rfl, ?_⟩
        have n0_ := Ae_q (rO_q (rup HO_6.out) hb)
        have n1_ := Ae_q (bB_q (g := gb240) (o := .cells #[.int .i64 a1_0, .slice A1_1 l1_1.length c1_1] 41 (0, 0)) (bup BK240.out) hb)
        have n2_ := Ae_q (bT_q (by repeat (first | (with_reducible first | exact HB.out | apply bA_q | apply pB_q | apply bD_q | refine bS_q ?_ GE240.out) | exact HB.out)) hb)
        clear HO_6
        clear BK240
        clear HB
        have HO_6 := n0_
        have BK240 := n1_
        have HB := n2_
        clear n0_ n1_ n2_
        (try clear hb)
        (try clear hb2)
        (try clear hk)
        (try clear hi)
        refine hK.out _ _ ⟨(bC_q BK240.out 0).trans rfl, (bC_q BK240.out 1).trans rfl, (cel HB.out hw246_0), (cel HB.out hw246_1), (cel HB.out hw246_2), (cel HB.out hw246_3)⟩ (fun hHeld => ?_)
        clear hK K
        refine norm_ (a' := ?_) ?_ ?_
        rotate_left
        ·show Act.put _ (some 30) _ = _
         simp only [Act.put, sA_q, sZ_q, sS_q, i64_w, i32_w]
         rfl
        refine pure_ (i := 6) (N := some 31) (v := ?_) (a' := ?_) #[true, true, true, true, true, true, true] rfl rfl (by kernel_rfl) (fun _ _ _ h => h) (Or.inl ⟨by rfl, ?_⟩) ?_ ?_
        rotate_left
        ·intro w'
         go_simp
         with_reducible rfl
        rotate_left
        ·simp only [Act.put, sA_q, sZ_q, sS_q, i64_w, i32_w]
         rfl
        refine done_ (by kernel_rfl) ?_
        obtain ⟨Ao23, co23, eo23⟩ := rS_q HO_6.out
        subst eo23
        try go_wp2_with (first | ((with_reducible refine gC_q (f := 41) rfl ?_); refine gL_q (some 36) rfl rfl Try.func41 (by kernel_rfl) rfl #[.slice (some ad246) l0.length c0, .slice Ao23 x6_2.length co23, .int .i64 x7_2] rfl (by (try simp only [lM_q, lC_q, lN_q]); first | done | rfl | (simp only [lD_q, lT_q]; rfl)) ?_; (with_reducible refine (spec_l32After.calls k2 _ _ l0 _ _ x6_2 x7_2 t251 _ ?side1 ?side2 ?side3 ?side4 A20.out).mono ?_); (case side1 => repeat (first | exact (cB_q HR0.out HB.out) | (with_reducible refine cA_q ?_ _) | (with_reducible refine cN_q ?_ _) | (with_reducible refine cD_q ?_))); (case side2 => exact HC0.out); (case side3 => repeat (first | exact (rR_q HO_6.out).2.2 | (with_reducible refine cA_q ?_ _) | (with_reducible refine cN_q ?_ _) | (with_reducible refine cD_q ?_))); (case side4 => exact (rR_q HO_6.out).2.1); rintro e w24 ⟨rfl, hb⟩; refine ⟨_, rfl, ?_⟩; have n0_ := Ae_q (rO_q (rup HO_6.out) hb); have n1_ := Ae_q (bB_q (g := gb240) (o := .cells #[.int .i64 a1_0, .slice A1_1 l1_1.length c1_1] 41 (0, 0)) (bup BK240.out) hb); have n2_ := Ae_q (bT_q (by repeat (first | (with_reducible first | exact HB.out | apply bA_q | apply pB_q | apply bD_q | refine bS_q ?_ GE240.out) | exact HB.out)) hb); clear HO_6; clear BK240; clear HB; have HO_6 := n0_; have BK240 := n1_; have HB := n2_; clear n0_ n1_ n2_; (try clear hb); (try clear hb2); (try clear hk); (try clear hi)))
        go_loopg [8] k2 (fun kq v8 w' => ∃ (x8_3 : Int), v8 = .int .i64 x8_3 ∧ Aside0 (spec_PlanMake.l1 kq l0 x6_2 x7_2 x8_3 a1_0 l1_1 = some (r1, r2)) ∧ Aside0 (kq ≤ k2) ∧ Aside0 (Kd.R kI_q 3 w' w.heap.size (fun _ => True) (.slice Ao23 x6_2.length co23) x6_2) ∧ Aside0 (w'.heap[gb240]? = some (.cells #[.int .i64 a1_0, (.slice A1_1 l1_1.length c1_1)] 41 (0, 0))) ∧ Aside0 (Below w.heap.size w w'))
        case atStart => exact ⟨(t251), (by first | rfl | (simp; done) | (simp [*]; done)), H', ⟨nR_q _⟩, ⟨by (with_reducible repeat (first | apply rA_q | apply rN_q | apply rD_q)); exact HO_6.out⟩, ⟨by (with_reducible repeat (first | refine bN_q ?_ _ | refine bW_q ?_ | refine bL_q ?_ _)); exact BK240.out⟩, ⟨by repeat (first | (with_reducible first | exact HB.out | apply bA_q | apply pB_q | apply bD_q | refine bS_q ?_ GE240.out) | exact HB.out)⟩⟩
        case round =>
         clear H'
         try clear c1
         try clear c2
         try clear p2
         try clear q2
         try clear hx2
         try clear c4
         try clear c5
         try clear c6
         try clear c8
         try clear c15
         try clear c16
         try clear c16b0
         try clear c17
         try clear c17b0
         try clear c19
         try clear c24
         try clear p24
         try clear q24
         try clear hx24
         try clear hcz10_0
         try clear hcz10_1
         try clear hcz13_0
         try clear hcz13_1
         try clear hfz10_0
         try clear hfz10_1
         try clear hfz13_0
         try clear hfz13_1
         try clear hx246_0
         try clear hx246_1
         try clear hx246_2
         try clear hx246_3
         try clear p2
         try clear p246
         try clear q246
         obtain ⟨x8_3, rfl, HA, HK3, HO_6, BK240, HB⟩ := hrel
         cases gk with
         | zero => exact absurd HA.out (by simp [spec_PlanMake.l1])
         | succ k3 =>
          have H := HA.out
          clear HA
          simp only [spec_PlanMake.l1] at H
          obtain ⟨y252, hy252⟩ : ∃ y_ : List Int, y_ = (([] : List Int)) := ⟨_, rfl⟩
          replace H : (if y252.length + x6_2.length < 17592186044416 then ((some (y252 ++ x6_2 : List Int)).bind fun y255 => ((some (([x8_3] : List Int) : List Int)).bind fun y258 => (if y255.length + y258.length < 17592186044416 then ((spec_l32Room.f k3 l0 a1_0 l1_1 (y255 ++ y258)).bind fun t264 => (if t264 = true then ((some (([x8_3] : List Int) : List Int)).bind fun y265 => (if x6_2.length + y265.length < 17592186044416 then (spec_PlanMake.l0 k3 l0 (x6_2 ++ y265) (wrap64 (x7_2 + 1)) a1_0 l1_1) else (none))) else (spec_PlanMake.l1 k3 l0 x6_2 x7_2 (wrap64 (x8_3 + 1)) a1_0 l1_1))) else (none)))) else (none)) = some (r1, r2) := by first | (rw [hy252]; with_reducible exact H) | (have H2_ := (oS_q _ _).symm.trans H; rw [hy252]; with_reducible exact H2_) | (have H2_ := (oS_q _ _).symm.trans H; with_reducible exact H2_) | with_reducible exact H | (rw [hy252]; exact H) | exact H
          have Ny252 := Ae_q hy252
          clear hy252
          by_cases c25 : y252.length + x6_2.length < 17592186044416
          ·rw [if_pos c25] at H
           have LMc25 := Ae_q c25
           clear c25
           obtain ⟨y255, hy255⟩ : ∃ y_ : List Int, y_ = (y252 ++ x6_2) := ⟨_, rfl⟩
           replace H : ((some (([x8_3] : List Int) : List Int)).bind fun y258 => (if y255.length + y258.length < 17592186044416 then ((spec_l32Room.f k3 l0 a1_0 l1_1 (y255 ++ y258)).bind fun t264 => (if t264 = true then ((some (([x8_3] : List Int) : List Int)).bind fun y265 => (if x6_2.length + y265.length < 17592186044416 then (spec_PlanMake.l0 k3 l0 (x6_2 ++ y265) (wrap64 (x7_2 + 1)) a1_0 l1_1) else (none))) else (spec_PlanMake.l1 k3 l0 x6_2 x7_2 (wrap64 (x8_3 + 1)) a1_0 l1_1))) else (none))) = some (r1, r2) := by first | (rw [hy255]; with_reducible exact H) | (have H2_ := (oS_q _ _).symm.trans H; rw [hy255]; with_reducible exact H2_) | (have H2_ := (oS_q _ _).symm.trans H; with_reducible exact H2_) | with_reducible exact H | (rw [hy255]; exact H) | exact H
           have Ny255 := Ae_q hy255
           clear hy255
           obtain ⟨y258, hy258⟩ : ∃ y_ : List Int, y_ = (([x8_3] : List Int)) := ⟨_, rfl⟩
           replace H : (if y255.length + y258.length < 17592186044416 then ((spec_l32Room.f k3 l0 a1_0 l1_1 (y255 ++ y258)).bind fun t264 => (if t264 = true then ((some (([x8_3] : List Int) : List Int)).bind fun y265 => (if x6_2.length + y265.length < 17592186044416 then (spec_PlanMake.l0 k3 l0 (x6_2 ++ y265) (wrap64 (x7_2 + 1)) a1_0 l1_1) else (none))) else (spec_PlanMake.l1 k3 l0 x6_2 x7_2 (wrap64 (x8_3 + 1)) a1_0 l1_1))) else (none)) = some (r1, r2) := by first | (rw [hy258]; with_reducible exact H) | (have H2_ := (oS_q _ _).symm.trans H; rw [hy258]; with_reducible exact H2_) | (have H2_ := (oS_q _ _).symm.trans H; with_reducible exact H2_) | with_reducible exact H | (rw [hy258]; exact H) | exact H
           have Ny258 := Ae_q hy258
           clear hy258
           by_cases c26 : y255.length + y258.length < 17592186044416
           ·rw [if_pos c26] at H
            have LMc26 := Ae_q c26
            clear c26
            obtain ⟨y261, hy261⟩ : ∃ y_ : List Int, y_ = (y255 ++ y258) := ⟨_, rfl⟩
            replace H : ((spec_l32Room.f k3 l0 a1_0 l1_1 y261).bind fun t264 => (if t264 = true then ((some (([x8_3] : List Int) : List Int)).bind fun y265 => (if x6_2.length + y265.length < 17592186044416 then (spec_PlanMake.l0 k3 l0 (x6_2 ++ y265) (wrap64 (x7_2 + 1)) a1_0 l1_1) else (none))) else (spec_PlanMake.l1 k3 l0 x6_2 x7_2 (wrap64 (x8_3 + 1)) a1_0 l1_1))) = some (r1, r2) := by first | (rw [hy261]; with_reducible exact H) | (have H2_ := (oS_q _ _).symm.trans H; rw [hy261]; with_reducible exact H2_) | (have H2_ := (oS_q _ _).symm.trans H; with_reducible exact H2_) | with_reducible exact H | (rw [hy261]; exact H) | exact H
            have Ny261 := Ae_q hy261
            clear hy261
            replace H := oB_q.mp H
            obtain ⟨t264, A270, H⟩ := H
            replace H : (if t264 = true then ((some (([x8_3] : List Int) : List Int)).bind fun y265 => (if x6_2.length + y265.length < 17592186044416 then (spec_PlanMake.l0 k3 l0 (x6_2 ++ y265) (wrap64 (x7_2 + 1)) a1_0 l1_1) else (none))) else (spec_PlanMake.l1 k3 l0 x6_2 x7_2 (wrap64 (x8_3 + 1)) a1_0 l1_1)) = some (r1, r2) := H
            have A27 := Ae_q A270
            clear A270
            by_cases c28 : t264 = true
            ·subst c28
             have H1 : ((some (([x8_3] : List Int) : List Int)).bind fun y265 => (if x6_2.length + y265.length < 17592186044416 then (spec_PlanMake.l0 k3 l0 (x6_2 ++ y265) (wrap64 (x7_2 + 1)) a1_0 l1_1) else (none))) = some (r1, r2) := by rw [if_pos rfl] at H; exact H
             clear H
             have H := H1
             clear H1
             obtain ⟨y265, hy265⟩ : ∃ y_ : List Int, y_ = (([x8_3] : List Int)) := ⟨_, rfl⟩
             replace H : (if x6_2.length + y265.length < 17592186044416 then (spec_PlanMake.l0 k3 l0 (x6_2 ++ y265) (wrap64 (x7_2 + 1)) a1_0 l1_1) else (none)) = some (r1, r2) := by first | (rw [hy265]; with_reducible exact H) | (have H2_ := (oS_q _ _).symm.trans H; rw [hy265]; with_reducible exact H2_) | (have H2_ := (oS_q _ _).symm.trans H; with_reducible exact H2_) | with_reducible exact H | (rw [hy265]; exact H) | exact H
             have Ny265 := Ae_q hy265
             clear hy265
             by_cases c29 : x6_2.length + y265.length < 17592186044416
             ·rw [if_pos c29] at H
              have LMc29 := Ae_q c29
              clear c29
              obtain ⟨y268, hy268⟩ : ∃ y_ : List Int, y_ = (x6_2 ++ y265) := ⟨_, rfl⟩
              replace H : (spec_PlanMake.l0 k3 l0 y268 (wrap64 (x7_2 + 1)) a1_0 l1_1) = some (r1, r2) := by first | (rw [hy268]; with_reducible exact H) | (have H2_ := (oS_q _ _).symm.trans H; rw [hy268]; with_reducible exact H2_) | (have H2_ := (oS_q _ _).symm.trans H; with_reducible exact H2_) | with_reducible exact H | (rw [hy268]; exact H) | exact H
              have Ny268 := Ae_q hy268
              clear hy268
              have H' := Ae_q H
              clear H
              try go_wp2
              have n0_ := Ae_q (rD_q HO_6.out)
              have n1_ := Ae_q (bW_q BK240.out)
              have n2_ := Ae_q (bD_q HB.out)
              clear HO_6
              clear BK240
              clear HB
              have HO_6 := n0_
              have BK240 := n1_
              have HB := n2_
              clear n0_ n1_ n2_
              refine start_ (n := 10) (S := fun w' => w'.cell? ⟨gb240, 0, none⟩ = some (.int .i64 a1_0) ∧ w'.cell? ⟨gb240, 1, none⟩ = some (.slice A1_1 l1_1.length c1_1)) (ds := []) #[false, false, false, false, false, false, false, false, false, false] (by kernel_rfl) rfl rfl ⟨(bC_q BK240.out 0).trans rfl, (bC_q BK240.out 1).trans rfl⟩ (fun hHeld => ?_); refine with_tabW spec_PlanMake.tab10 spec_PlanMake.bits10 (fun HT_ HW_ => ?_)
              generalize wr.drew = w30 at HO_6 BK240 HB hHeld ⊢
              refine pure_ (i := 0) (N := some 37) (v := ?_) (a' := ?_) #[true, false, false, false, false, false, false, false, false, false] rfl rfl (any_of HT_.out (by kernel_rfl)) (fun _ _ _ h => h) (Or.inl ⟨by rfl, ?_⟩) ?_ ?_
              rotate_left
              ·intro w'
               go_simp
               with_reducible rfl
              rotate_left
              ·simp only [Act.put, sA_q, sZ_q, sS_q, i64_w, i32_w]
               rfl
              refine pure_ (i := 3) (N := some 40) (v := ?_) (a' := ?_) #[true, false, false, true, false, false, false, false, false, false] rfl rfl (any_of HT_.out (by kernel_rfl)) (fun _ _ _ h => h) (Or.inl ⟨by rfl, ?_⟩) ?_ ?_
              rotate_left
              ·intro w'
               go_simp
               with_reducible rfl
              rotate_left
              ·simp only [Act.put, sA_q, sZ_q, sS_q, i64_w, i32_w]
               rfl
              refine pure_ (i := 5) (N := some 42) (v := ?_) (a' := ?_) #[true, false, false, true, false, true, false, false, false, false] rfl rfl (any_of HT_.out (by kernel_rfl)) (fun _ _ _ h => h) (Or.inl ⟨by rfl, ?_⟩) ?_ ?_
              rotate_left
              ·intro w'
               go_simp
               with_reducible rfl
              rotate_left
              ·simp only [Act.put, sA_q, sZ_q, sS_q, i64_w, i32_w]
               rfl
              refine take_ (i := 1) (N := some 38) (v := ?_) (a' := ?_) #[true, true, false, true, false, true, false, false, false, false] rfl rfl (take_ofW HT_.out HW_.out (by kernel_rfl)) (fun _ _ _ h => h) (Or.inl ⟨by rfl, ?_⟩) hHeld ?_ ?_
              rotate_left
              ·rintro w' ⟨s0, s1⟩
               go_simp
               with_reducible rfl
              rotate_left
              ·simp only [Act.put, sA_q, sZ_q, sS_q, i64_w, i32_w]
               rfl
              refine join_ (σ := Value × Value × Value) 3 #[true, true, true, true, true, true, true, false, false, false] (fun s_ => [(39, s_.1), (41, s_.2.1), (43, s_.2.2)]) (fun s_ w' => (w'.cell? ⟨gb240, 0, none⟩ = some (.int .i64 a1_0) ∧ w'.cell? ⟨gb240, 1, none⟩ = some (.slice A1_1 l1_1.length c1_1)) ∧ (Kd.R kI_q 3 w' w.heap.size (fun k_ => some k_ ≠ (s_.2.2 : Value).ownBlock ∧ some k_ ≠ (.slice Ao23 x6_2.length co23 : Value).ownBlock) s_.2.1 y255) ∧ (Kd.R kI_q 3 w' w.heap.size (fun k_ => some k_ ≠ (s_.2.1 : Value).ownBlock ∧ some k_ ≠ (.slice Ao23 x6_2.length co23 : Value).ownBlock) s_.2.2 y258) ∧ (Kd.R kI_q 3 w' w.heap.size (fun k_ => some k_ ≠ (s_.2.1 : Value).ownBlock ∧ some k_ ≠ (s_.2.2 : Value).ownBlock) (.slice Ao23 x6_2.length co23) x6_2) ∧ (w'.heap[gb240]? = some (.cells #[.int .i64 a1_0, .slice A1_1 l1_1.length c1_1] 41 (0, 0))) ∧ (Below w.heap.size w w')) ?_ ?_
              rotate_left
              ·intro hCont
               refine two_ (i := 2) (j := 6) (Ni := some 39) (Nj := some 43) #[true, true, true, true, false, true, false, false, false, false] #[true, true, false, true, false, true, true, false, false, false] rfl rfl rfl rfl (two_of HT_.out (by kernel_rfl)) (by decide) (by decide) (fun K hK => ?_) (fun K hK => ?_)
               ·skip
                refine rI_q kI_q _ 3 ?hg (N := 39) ?hd (xs := ([] : List Int)) (inner := []) (ok := fun _ => True) (okp := fun _ => True) ?hr ?hp (fun _ hk => hk) trivial (bR_q _ _) (nR_q _) (by simp) ?_; (case hd => rfl); (case hg => rfl); (case hr => first | (go_simp; done) | (go_simp; rfl)); (case hp => exact (Reps.none _ _))
                intro v253 w31 ho32 hb hg_ hnew_
                clear hg_ hnew_
                (first | rw [← Ny252.out] at ho32 | (simp only [Int.reduceToNat] at ho32; rw [← Ny252.out] at ho32))
                have n0_ := Ae_q (rE_q (rup HO_6.out) (rB_q ho32) hb)
                have n1_ := Ae_q (rL_q (rW_q ho32 (rT_q (rup HO_6.out))) (bZ_q (by repeat (first | (with_reducible first | exact HB.out | apply bA_q | apply pB_q | apply bD_q | refine bS_q ?_ GE240.out) | exact HB.out))))
                have n2_ := Ae_q (bB_q (g := gb240) (o := .cells #[.int .i64 a1_0, .slice A1_1 l1_1.length c1_1] 41 (0, 0)) (bup BK240.out) hb)
                have n3_ := Ae_q (bT_q (by repeat (first | (with_reducible first | exact HB.out | apply bA_q | apply pB_q | apply bD_q | refine bS_q ?_ GE240.out) | exact HB.out)) hb)
                clear HO_6
                clear BK240
                clear HB
                have HO_6 := n0_
                have HO254 := n1_
                have BK240 := n2_
                have HB := n3_
                clear n0_ n1_ n2_ n3_
                clear hb ho32
                refine hK.out _ _ ⟨(bC_q BK240.out 0).trans rfl, (bC_q BK240.out 1).trans rfl⟩ (fun hHeld => ?_)
                clear hK K
                refine norm_ (a' := ?_) ?_ ?_
                rotate_left
                ·show Act.put _ (some 39) _ = _
                 simp only [Act.put, sA_q, sZ_q, sS_q, i64_w, i32_w]
                 rfl
                refine two_ (i := 4) (j := 6) (Ni := some 41) (Nj := some 43) #[true, true, true, true, true, true, false, false, false, false] #[true, true, true, true, false, true, true, false, false, false] rfl rfl rfl rfl (two_of HT_.out (by kernel_rfl)) (by decide) (by decide) (fun K hK => ?_) (fun K hK => ?_)
                ·skip
                 refine rP_q kI_q (w0 := w) w.heap.size (by rfl) (.tmp 39) (.tmp 40) 24 3 (.int .i64 0) 8 rfl Try.underlying24 info3 rfl (by decide) (by omega) v253 y252 x6_2 _ _ _ (fun k_ => some k_ ≠ (.slice Ao23 x6_2.length co23 : Value).ownBlock) (fun _ => False) rfl rfl ?aO ?aR (fun _ _ h => h) (fun _ h => h.elim) ?aF ?aB ?aS ?aL ?_
                 (case aR => repeat (first | exact (rR_q HO_6.out).2.2 | (with_reducible refine cA_q ?_ _) | (with_reducible refine cN_q ?_ _) | (with_reducible refine cD_q ?_)))
                 (case aB => exact (by repeat (first | (with_reducible first | exact HB.out | apply bA_q | apply pB_q | apply bD_q | refine bS_q ?_ GE240.out) | exact HB.out)))
                 (case aF => exact (fun k_ hk => Kd.fresh' (rT_q (rup HO_6.out)) k_ hk))
                 (case aO => exact (by (with_reducible repeat (first | apply rA_q | apply rN_q | apply rD_q)); exact rM_q HO254.out (fun _ hk => hk.2)))
                 (case aS => exact (bZ_q (by repeat (first | (with_reducible first | exact HB.out | apply bA_q | apply pB_q | apply bD_q | refine bS_q ?_ GE240.out) | exact HB.out))))
                 (case aL => have := LMc25.out; omega)
                 intro v256 w33 ho hb hg hat
                 rw [← Ny255.out] at ho
                 have n0_ := Ae_q (rF_q (ok := (fun _ => True)) (rup HO_6.out) hg hat)
                 have n1_ := Ae_q (bG_q (g := gb240) (o := .cells #[.int .i64 a1_0, .slice A1_1 l1_1.length c1_1] 41 (0, 0)) (bup BK240.out) hg (Kd.R_ne HO254.out BK240.out (by decide)))
                 have n2_ := Ae_q (hb)
                 have n3_ := Ae_q (ho)
                 clear HO_6
                 clear BK240
                 clear HB
                 clear HO254
                 have HO_6 := n0_
                 have BK240 := n1_
                 have HB := n2_
                 have HO257 := n3_
                 clear n0_ n1_ n2_ n3_
                 clear ho hb hg hat
                 refine hK.out _ _ ⟨(bC_q BK240.out 0).trans rfl, (bC_q BK240.out 1).trans rfl⟩ (fun hHeld => ?_)
                 clear hK K
                 refine norm_ (a' := ?_) ?_ ?_
                 rotate_left
                 ·show Act.put _ (some 41) _ = _
                  simp only [Act.put, sA_q, sZ_q, sS_q, i64_w, i32_w]
                  rfl
                 refine one_ (i := 6) (N := some 43) #[true, true, true, true, true, true, true, false, false, false] rfl rfl (one_of HT_.out (by kernel_rfl)) (by decide) (fun K hK => ?_)
                 refine rI_q kI_q _ 3 ?hg (N := 43) ?hd (xs := ([x8_3] : List Int)) (inner := [.int .i64 x8_3]) (ok := fun _ => True) (okp := fun _ => True) ?hr ?hp (fun _ hk => hk) trivial (bR_q _ _) (nR_q _) (by simp) ?_; (case hd => rfl); (case hg => rfl); (case hr => first | (go_simp; done) | (go_simp; rfl)); (case hp => exact (Reps.one (show Kd.M kI_q _ _ _ x8_3 [.int .i64 x8_3] from rfl) (Reps.none _ _)))
                 intro v259 w34 ho35 hb hg_ hnew_
                 clear hg_ hnew_
                 (first | rw [← Ny258.out] at ho35 | (simp only [Int.reduceToNat] at ho35; rw [← Ny258.out] at ho35))
                 have n0_ := Ae_q (rE_q (rup HO_6.out) (rB_q ho35) hb)
                 have n1_ := Ae_q (rE_q (rup HO257.out) (rB_q ho35) hb)
                 have n2_ := Ae_q (rL_q (rW_q (rW_q ho35 (rT_q (rup HO_6.out))) (rT_q (rup HO257.out))) (bZ_q (by repeat (first | (with_reducible first | exact HB.out | apply bA_q | apply pB_q | apply bD_q | refine bS_q ?_ GE240.out) | exact HB.out))))
                 have n3_ := Ae_q (bB_q (g := gb240) (o := .cells #[.int .i64 a1_0, .slice A1_1 l1_1.length c1_1] 41 (0, 0)) (bup BK240.out) hb)
                 have n4_ := Ae_q (bT_q (by repeat (first | (with_reducible first | exact HB.out | apply bA_q | apply pB_q | apply bD_q | refine bS_q ?_ GE240.out) | exact HB.out)) hb)
                 clear HO_6
                 clear HO257
                 clear BK240
                 clear HB
                 have HO_6 := n0_
                 have HO257 := n1_
                 have HO260 := n2_
                 have BK240 := n3_
                 have HB := n4_
                 clear n0_ n1_ n2_ n3_ n4_
                 clear hb ho35
                 refine hK.out _ _ ⟨(bC_q BK240.out 0).trans rfl, (bC_q BK240.out 1).trans rfl⟩ (fun hHeld => ?_)
                 clear hK K
                 refine norm_ (a' := ?_) ?_ ?_
                 rotate_left
                 ·show Act.put _ (some 43) _ = _
                  simp only [Act.put, sA_q, sZ_q, sS_q, i64_w, i32_w]
                  rfl
                 exact norm_ (by simp only [putAll, Act.put, sA_q, sZ_q, sS_q]) (hCont (v253, v256, v259) _ ⟨hHeld, (by (with_reducible repeat (first | apply rA_q | apply rN_q | apply rD_q)); exact rM_q HO257.out (fun _ hk => ⟨hk.2, hk.1⟩)), (by (with_reducible repeat (first | apply rA_q | apply rN_q | apply rD_q)); exact rM_q HO260.out (fun _ hk => ⟨hk.2, hk.1.2⟩)), (by (with_reducible repeat (first | apply rA_q | apply rN_q | apply rD_q)); exact rM_q HO_6.out (fun _ hk => ⟨hk.1.2, hk.2⟩)), (bup BK240.out), (by repeat (first | (with_reducible first | exact HB.out | apply bA_q | apply pB_q | apply bD_q | refine bS_q ?_ GE240.out) | exact HB.out))⟩)
                skip
                refine rI_q kI_q _ 3 ?hg (N := 43) ?hd (xs := ([x8_3] : List Int)) (inner := [.int .i64 x8_3]) (ok := fun _ => True) (okp := fun _ => True) ?hr ?hp (fun _ hk => hk) trivial (bR_q _ _) (nR_q _) (by simp) ?_; (case hd => rfl); (case hg => rfl); (case hr => first | (go_simp; done) | (go_simp; rfl)); (case hp => exact (Reps.one (show Kd.M kI_q _ _ _ x8_3 [.int .i64 x8_3] from rfl) (Reps.none _ _)))
                intro v259 w33 ho34 hb hg_ hnew_
                clear hg_ hnew_
                (first | rw [← Ny258.out] at ho34 | (simp only [Int.reduceToNat] at ho34; rw [← Ny258.out] at ho34))
                have n0_ := Ae_q (rE_q (rup HO_6.out) (rB_q ho34) hb)
                have n1_ := Ae_q (rE_q (rup HO254.out) (rB_q ho34) hb)
                have n2_ := Ae_q (rL_q (rW_q (rW_q ho34 (rT_q (rup HO_6.out))) (rT_q (rup HO254.out))) (bZ_q (by repeat (first | (with_reducible first | exact HB.out | apply bA_q | apply pB_q | apply bD_q | refine bS_q ?_ GE240.out) | exact HB.out))))
                have n3_ := Ae_q (bB_q (g := gb240) (o := .cells #[.int .i64 a1_0, .slice A1_1 l1_1.length c1_1] 41 (0, 0)) (bup BK240.out) hb)
                have n4_ := Ae_q (bT_q (by repeat (first | (with_reducible first | exact HB.out | apply bA_q | apply pB_q | apply bD_q | refine bS_q ?_ GE240.out) | exact HB.out)) hb)
                clear HO_6
                clear HO254
                clear BK240
                clear HB
                have HO_6 := n0_
                have HO254 := n1_
                have HO260 := n2_
                have BK240 := n3_
                have HB := n4_
                clear n0_ n1_ n2_ n3_ n4_
                clear hb ho34
                refine hK.out _ _ ⟨(bC_q BK240.out 0).trans rfl, (bC_q BK240.out 1).trans rfl⟩ (fun hHeld => ?_)
                clear hK K
                refine norm_ (a' := ?_) ?_ ?_
                rotate_left
                ·show Act.put _ (some 43) _ = _
                 simp only [Act.put, sA_q, sZ_q, sS_q, i64_w, i32_w]
                 rfl
                refine one_ (i := 4) (N := some 41) #[true, true, true, true, true, true, true, false, false, false] rfl rfl (one_of HT_.out (by kernel_rfl)) (by decide) (fun K hK => ?_)
                refine rP_q kI_q (w0 := w) w.heap.size (by rfl) (.tmp 39) (.tmp 40) 24 3 (.int .i64 0) 8 rfl Try.underlying24 info3 rfl (by decide) (by omega) v253 y252 x6_2 _ _ _ (fun k_ => some k_ ≠ (.slice Ao23 x6_2.length co23 : Value).ownBlock ∧ some k_ ≠ (v259 : Value).ownBlock) (fun _ => False) rfl rfl ?aO ?aR (fun _ _ h => h) (fun _ h => h.elim) ?aF ?aB ?aS ?aL ?_
                (case aR => repeat (first | exact (rR_q HO_6.out).2.2 | (with_reducible refine cA_q ?_ _) | (with_reducible refine cN_q ?_ _) | (with_reducible refine cD_q ?_)))
                (case aB => exact (by repeat (first | (with_reducible first | exact HB.out | apply bA_q | apply pB_q | apply bD_q | refine bS_q ?_ GE240.out) | exact HB.out)))
                (case aF => exact (fun k_ hk => ⟨Kd.fresh' (rT_q (rup HO_6.out)) k_ hk, Kd.fresh' (rT_q (rup HO260.out)) k_ hk⟩))
                (case aO => exact (by (with_reducible repeat (first | apply rA_q | apply rN_q | apply rD_q)); exact rM_q HO254.out (fun _ hk => ⟨hk.1.2, hk.2⟩)))
                (case aS => exact (bZ_q (by repeat (first | (with_reducible first | exact HB.out | apply bA_q | apply pB_q | apply bD_q | refine bS_q ?_ GE240.out) | exact HB.out))))
                (case aL => have := LMc25.out; omega)
                intro v256 w35 ho hb hg hat
                rw [← Ny255.out] at ho
                have n0_ := Ae_q (rF_q (ok := (fun k_ => some k_ ≠ (v259 : Value).ownBlock)) (by (with_reducible repeat (first | apply rA_q | apply rN_q | apply rD_q)); exact rM_q HO_6.out (fun _ hk => ⟨hk.2, hk.1.2⟩)) hg hat)
                have n1_ := Ae_q (bG_q (g := gb240) (o := .cells #[.int .i64 a1_0, .slice A1_1 l1_1.length c1_1] 41 (0, 0)) (bup BK240.out) hg (Kd.R_ne HO254.out BK240.out (by decide)))
                have n2_ := Ae_q (rF_q (ok := (fun k_ => some k_ ≠ (.slice Ao23 x6_2.length co23 : Value).ownBlock)) (by (with_reducible repeat (first | apply rA_q | apply rN_q | apply rD_q)); exact rM_q HO260.out (fun _ hk => ⟨hk.1.2, hk.2⟩)) hg hat)
                have n3_ := Ae_q (hb)
                have n4_ := Ae_q (ho)
                clear HO_6
                clear BK240
                clear HO260
                clear HB
                clear HO254
                have HO_6 := n0_
                have BK240 := n1_
                have HO260 := n2_
                have HB := n3_
                have HO257 := n4_
                clear n0_ n1_ n2_ n3_ n4_
                clear ho hb hg hat
                refine hK.out _ _ ⟨(bC_q BK240.out 0).trans rfl, (bC_q BK240.out 1).trans rfl⟩ (fun hHeld => ?_)
                clear hK K
                refine norm_ (a' := ?_) ?_ ?_
                rotate_left
                ·show Act.put _ (some 41) _ = _
                 simp only [Act.put, sA_q, sZ_q, sS_q, i64_w, i32_w]
                 rfl
                exact norm_ (by simp only [putAll, Act.put, sA_q, sZ_q, sS_q]) (hCont (v253, v256, v259) _ ⟨hHeld, (by (with_reducible repeat (first | apply rA_q | apply rN_q | apply rD_q)); exact rM_q HO257.out (fun _ hk => ⟨hk.2, hk.1⟩)), (by (with_reducible repeat (first | apply rA_q | apply rN_q | apply rD_q)); exact rM_q HO260.out (fun _ hk => ⟨hk.2, hk.1⟩)), (by (with_reducible repeat (first | apply rA_q | apply rN_q | apply rD_q)); exact rM_q HO_6.out (fun _ hk => ⟨hk.2, hk.1⟩)), (bup BK240.out), (by repeat (first | (with_reducible first | exact HB.out | apply bA_q | apply pB_q | apply bD_q | refine bS_q ?_ GE240.out) | exact HB.out))⟩)
               skip
               refine rI_q kI_q _ 3 ?hg (N := 43) ?hd (xs := ([x8_3] : List Int)) (inner := [.int .i64 x8_3]) (ok := fun _ => True) (okp := fun _ => True) ?hr ?hp (fun _ hk => hk) trivial (bR_q _ _) (nR_q _) (by simp) ?_; (case hd => rfl); (case hg => rfl); (case hr => first | (go_simp; done) | (go_simp; rfl)); (case hp => exact (Reps.one (show Kd.M kI_q _ _ _ x8_3 [.int .i64 x8_3] from rfl) (Reps.none _ _)))
               intro v259 w31 ho32 hb hg_ hnew_
               clear hg_ hnew_
               (first | rw [← Ny258.out] at ho32 | (simp only [Int.reduceToNat] at ho32; rw [← Ny258.out] at ho32))
               have n0_ := Ae_q (rE_q (rup HO_6.out) (rB_q ho32) hb)
               have n1_ := Ae_q (rL_q (rW_q ho32 (rT_q (rup HO_6.out))) (bZ_q (by repeat (first | (with_reducible first | exact HB.out | apply bA_q | apply pB_q | apply bD_q | refine bS_q ?_ GE240.out) | exact HB.out))))
               have n2_ := Ae_q (bB_q (g := gb240) (o := .cells #[.int .i64 a1_0, .slice A1_1 l1_1.length c1_1] 41 (0, 0)) (bup BK240.out) hb)
               have n3_ := Ae_q (bT_q (by repeat (first | (with_reducible first | exact HB.out | apply bA_q | apply pB_q | apply bD_q | refine bS_q ?_ GE240.out) | exact HB.out)) hb)
               clear HO_6
               clear BK240
               clear HB
               have HO_6 := n0_
               have HO260 := n1_
               have BK240 := n2_
               have HB := n3_
               clear n0_ n1_ n2_ n3_
               clear hb ho32
               refine hK.out _ _ ⟨(bC_q BK240.out 0).trans rfl, (bC_q BK240.out 1).trans rfl⟩ (fun hHeld => ?_)
               clear hK K
               refine norm_ (a' := ?_) ?_ ?_
               rotate_left
               ·show Act.put _ (some 43) _ = _
                simp only [Act.put, sA_q, sZ_q, sS_q, i64_w, i32_w]
                rfl
               refine one_ (i := 2) (N := some 39) #[true, true, true, true, false, true, true, false, false, false] rfl rfl (one_of HT_.out (by kernel_rfl)) (by decide) (fun K hK => ?_)
               refine rI_q kI_q _ 3 ?hg (N := 39) ?hd (xs := ([] : List Int)) (inner := []) (ok := fun _ => True) (okp := fun _ => True) ?hr ?hp (fun _ hk => hk) trivial (bR_q _ _) (nR_q _) (by simp) ?_; (case hd => rfl); (case hg => rfl); (case hr => first | (go_simp; done) | (go_simp; rfl)); (case hp => exact (Reps.none _ _))
               intro v253 w33 ho34 hb hg_ hnew_
               clear hg_ hnew_
               (first | rw [← Ny252.out] at ho34 | (simp only [Int.reduceToNat] at ho34; rw [← Ny252.out] at ho34))
               have n0_ := Ae_q (rE_q (rup HO_6.out) (rB_q ho34) hb)
               have n1_ := Ae_q (rE_q (rup HO260.out) (rB_q ho34) hb)
               have n2_ := Ae_q (rL_q (rW_q (rW_q ho34 (rT_q (rup HO_6.out))) (rT_q (rup HO260.out))) (bZ_q (by repeat (first | (with_reducible first | exact HB.out | apply bA_q | apply pB_q | apply bD_q | refine bS_q ?_ GE240.out) | exact HB.out))))
               have n3_ := Ae_q (bB_q (g := gb240) (o := .cells #[.int .i64 a1_0, .slice A1_1 l1_1.length c1_1] 41 (0, 0)) (bup BK240.out) hb)
               have n4_ := Ae_q (bT_q (by repeat (first | (with_reducible first | exact HB.out | apply bA_q | apply pB_q | apply bD_q | refine bS_q ?_ GE240.out) | exact HB.out)) hb)
               clear HO_6
               clear HO260
               clear BK240
               clear HB
               have HO_6 := n0_
               have HO260 := n1_
               have HO254 := n2_
               have BK240 := n3_
               have HB := n4_
               clear n0_ n1_ n2_ n3_ n4_
               clear hb ho34
               refine hK.out _ _ ⟨(bC_q BK240.out 0).trans rfl, (bC_q BK240.out 1).trans rfl⟩ (fun hHeld => ?_)
               clear hK K
               refine norm_ (a' := ?_) ?_ ?_
               rotate_left
               ·show Act.put _ (some 39) _ = _
                simp only [Act.put, sA_q, sZ_q, sS_q, i64_w, i32_w]
                rfl
               refine one_ (i := 4) (N := some 41) #[true, true, true, true, true, true, true, false, false, false] rfl rfl (one_of HT_.out (by kernel_rfl)) (by decide) (fun K hK => ?_)
               refine rP_q kI_q (w0 := w) w.heap.size (by rfl) (.tmp 39) (.tmp 40) 24 3 (.int .i64 0) 8 rfl Try.underlying24 info3 rfl (by decide) (by omega) v253 y252 x6_2 _ _ _ (fun k_ => some k_ ≠ (.slice Ao23 x6_2.length co23 : Value).ownBlock ∧ some k_ ≠ (v259 : Value).ownBlock) (fun _ => False) rfl rfl ?aO ?aR (fun _ _ h => h) (fun _ h => h.elim) ?aF ?aB ?aS ?aL ?_
               (case aR => repeat (first | exact (rR_q HO_6.out).2.2 | (with_reducible refine cA_q ?_ _) | (with_reducible refine cN_q ?_ _) | (with_reducible refine cD_q ?_)))
               (case aB => exact (by repeat (first | (with_reducible first | exact HB.out | apply bA_q | apply pB_q | apply bD_q | refine bS_q ?_ GE240.out) | exact HB.out)))
               (case aF => exact (fun k_ hk => ⟨Kd.fresh' (rT_q (rup HO_6.out)) k_ hk, Kd.fresh' (rT_q (rup HO260.out)) k_ hk⟩))
               (case aO => exact (by (with_reducible repeat (first | apply rA_q | apply rN_q | apply rD_q)); exact rM_q HO254.out (fun _ hk => ⟨hk.1.2, hk.2⟩)))
               (case aS => exact (bZ_q (by repeat (first | (with_reducible first | exact HB.out | apply bA_q | apply pB_q | apply bD_q | refine bS_q ?_ GE240.out) | exact HB.out))))
               (case aL => have := LMc25.out; omega)
               intro v256 w35 ho hb hg hat
               rw [← Ny255.out] at ho
               have n0_ := Ae_q (rF_q (ok := (fun k_ => some k_ ≠ (v259 : Value).ownBlock)) (by (with_reducible repeat (first | apply rA_q | apply rN_q | apply rD_q)); exact rM_q HO_6.out (fun _ hk => ⟨hk.1.2, hk.2⟩)) hg hat)
               have n1_ := Ae_q (bG_q (g := gb240) (o := .cells #[.int .i64 a1_0, .slice A1_1 l1_1.length c1_1] 41 (0, 0)) (bup BK240.out) hg (Kd.R_ne HO254.out BK240.out (by decide)))
               have n2_ := Ae_q (rF_q (ok := (fun k_ => some k_ ≠ (.slice Ao23 x6_2.length co23 : Value).ownBlock)) (by (with_reducible repeat (first | apply rA_q | apply rN_q | apply rD_q)); exact rM_q HO260.out (fun _ hk => ⟨hk.1.2, hk.2⟩)) hg hat)
               have n3_ := Ae_q (hb)
               have n4_ := Ae_q (ho)
               clear HO_6
               clear BK240
               clear HO260
               clear HB
               clear HO254
               have HO_6 := n0_
               have BK240 := n1_
               have HO260 := n2_
               have HB := n3_
               have HO257 := n4_
               clear n0_ n1_ n2_ n3_ n4_
               clear ho hb hg hat
               refine hK.out _ _ ⟨(bC_q BK240.out 0).trans rfl, (bC_q BK240.out 1).trans rfl⟩ (fun hHeld => ?_)
               clear hK K
               refine norm_ (a' := ?_) ?_ ?_
               rotate_left
               ·show Act.put _ (some 41) _ = _
                simp only [Act.put, sA_q, sZ_q, sS_q, i64_w, i32_w]
                rfl
               exact norm_ (by simp only [putAll, Act.put, sA_q, sZ_q, sS_q]) (hCont (v253, v256, v259) _ ⟨hHeld, (by (with_reducible repeat (first | apply rA_q | apply rN_q | apply rD_q)); exact rM_q HO257.out (fun _ hk => ⟨hk.2, hk.1⟩)), (by (with_reducible repeat (first | apply rA_q | apply rN_q | apply rD_q)); exact rM_q HO260.out (fun _ hk => ⟨hk.2, hk.1⟩)), (by (with_reducible repeat (first | apply rA_q | apply rN_q | apply rD_q)); exact rM_q HO_6.out (fun _ hk => ⟨hk.2, hk.1⟩)), (bup BK240.out), (by repeat (first | (with_reducible first | exact HB.out | apply bA_q | apply pB_q | apply bD_q | refine bS_q ?_ GE240.out) | exact HB.out))⟩)
              rintro ⟨v253, v256, v259⟩ w36 ⟨hS_, h0_, h1_, h2_, h3_, h4_⟩
              have n0_ : Aside0 (Kd.R kI_q 3 w36 w.heap.size (fun k_ => some k_ ≠ (v259 : Value).ownBlock ∧ some k_ ≠ (.slice Ao23 x6_2.length co23 : Value).ownBlock) v256 y255) := ⟨h0_⟩
              have n1_ : Aside0 (Kd.R kI_q 3 w36 w.heap.size (fun k_ => some k_ ≠ (v256 : Value).ownBlock ∧ some k_ ≠ (.slice Ao23 x6_2.length co23 : Value).ownBlock) v259 y258) := ⟨h1_⟩
              have n2_ : Aside0 (Kd.R kI_q 3 w36 w.heap.size (fun k_ => some k_ ≠ (v256 : Value).ownBlock ∧ some k_ ≠ (v259 : Value).ownBlock) (.slice Ao23 x6_2.length co23) x6_2) := ⟨h2_⟩
              have n3_ : Aside0 (w36.heap[gb240]? = some (.cells #[.int .i64 a1_0, .slice A1_1 l1_1.length c1_1] 41 (0, 0))) := ⟨h3_⟩
              have n4_ : Aside0 (Below w.heap.size w w36) := ⟨h4_⟩
              clear HO_6
              clear BK240
              clear HB
              clear h0_ h1_ h2_ h3_ h4_
              have HO257 := n0_
              have HO260 := n1_
              have HO_6 := n2_
              have BK240 := n3_
              have HB := n4_
              clear n0_ n1_ n2_ n3_ n4_
              have hHeld : w36.cell? ⟨gb240, 0, none⟩ = some (.int .i64 a1_0) ∧ w36.cell? ⟨gb240, 1, none⟩ = some (.slice A1_1 l1_1.length c1_1) := hS_
              obtain ⟨Ao38, co38, eo38⟩ := rS_q HO260.out
              (first | subst eo38 | (injection eo38 with f1_ f2_ f3_; have f4_ := f1_.symm; have f5_ := f3_.symm; clear f1_ f2_ f3_; subst f4_; subst f5_))
              refine norm_ (a' := ?_) ?_ ?_
              rotate_left
              ·simp only [putAll, Act.put, sA_q, sZ_q, sS_q]
               rfl
              refine one_ (i := 7) (N := some 44) #[true, true, true, true, true, true, true, true, false, false] rfl rfl (one_of HT_.out (by kernel_rfl)) (by decide) (fun K hK => ?_)
              refine rP_q kI_q (w0 := w) w.heap.size (by rfl) (.tmp 41) (.tmp 43) 24 3 (.int .i64 0) 8 rfl Try.underlying24 info3 rfl (by decide) (by omega) v256 y255 y258 _ _ _ (fun k_ => some k_ ≠ (.slice Ao23 x6_2.length co23 : Value).ownBlock ∧ some k_ ≠ (.slice Ao38 y258.length co38 : Value).ownBlock) (fun _ => False) rfl rfl ?aO ?aR (fun _ _ h => h) (fun _ h => h.elim) ?aF ?aB ?aS ?aL ?_
              (case aR => repeat (first | exact (rR_q HO260.out).2.2 | (with_reducible refine cA_q ?_ _) | (with_reducible refine cN_q ?_ _) | (with_reducible refine cD_q ?_)))
              (case aB => exact (by repeat (first | (with_reducible first | exact HB.out | apply bA_q | apply pB_q | apply bD_q | refine bS_q ?_ GE240.out) | exact HB.out)))
              (case aF => exact (fun k_ hk => ⟨Kd.fresh' (rT_q (rup HO_6.out)) k_ hk, Kd.fresh' (rT_q (rup HO260.out)) k_ hk⟩))
              (case aO => exact (by (with_reducible repeat (first | apply rA_q | apply rN_q | apply rD_q)); exact rM_q HO257.out (fun _ hk => ⟨hk.2, hk.1⟩)))
              (case aS => exact (bZ_q (by repeat (first | (with_reducible first | exact HB.out | apply bA_q | apply pB_q | apply bD_q | refine bS_q ?_ GE240.out) | exact HB.out))))
              (case aL => have := LMc26.out; omega)
              intro v262 w37 ho hb hg hat
              rw [← Ny261.out] at ho
              have n0_ := Ae_q (rF_q (ok := (fun k_ => some k_ ≠ (.slice Ao38 y258.length co38 : Value).ownBlock)) (by (with_reducible repeat (first | apply rA_q | apply rN_q | apply rD_q)); exact rM_q HO_6.out (fun _ hk => ⟨hk.2, hk.1⟩)) hg hat)
              have n1_ := Ae_q (bG_q (g := gb240) (o := .cells #[.int .i64 a1_0, .slice A1_1 l1_1.length c1_1] 41 (0, 0)) (bup BK240.out) hg (Kd.R_ne HO257.out BK240.out (by decide)))
              have n2_ := Ae_q (rF_q (ok := (fun k_ => some k_ ≠ (.slice Ao23 x6_2.length co23 : Value).ownBlock)) (by (with_reducible repeat (first | apply rA_q | apply rN_q | apply rD_q)); exact rM_q HO260.out (fun _ hk => ⟨hk.2, hk.1⟩)) hg hat)
              have n3_ := Ae_q (hb)
              have n4_ := Ae_q (ho)
              clear HO_6
              clear BK240
              clear HO260
              clear HB
              clear HO257
              have HO_6 := n0_
              have BK240 := n1_
              have HO260 := n2_
              have HB := n3_
              have HO263 := n4_
              clear n0_ n1_ n2_ n3_ n4_
              clear ho hb hg hat
              obtain ⟨Ao39, co39, eo39⟩ := rS_q HO263.out
              (first | subst eo39 | (injection eo39 with f1_ f2_ f3_; have f4_ := f1_.symm; have f5_ := f3_.symm; clear f1_ f2_ f3_; subst f4_; subst f5_))
              refine hK.out _ _ ⟨(bC_q BK240.out 0).trans rfl, (bC_q BK240.out 1).trans rfl⟩ (fun hHeld => ?_)
              clear hK K
              refine norm_ (a' := ?_) ?_ ?_
              rotate_left
              ·show Act.put _ (some 44) _ = _
               simp only [Act.put, sA_q, sZ_q, sS_q, i64_w, i32_w]
               rfl
              refine one_ (i := 8) (N := some 45) #[true, true, true, true, true, true, true, true, true, false] rfl rfl (one_of HT_.out (by kernel_rfl)) (by decide) (fun K hK => ?_)
              refine goes_ Try.func42 (by kernel_rfl) rfl #[.slice (some ad246) l0.length c0, .agg #[.int .i64 a1_0, .slice A1_1 l1_1.length c1_1], .slice Ao39 y261.length co39] (by rfl) rfl rfl (by (try simp only [lM_q, lC_q, lN_q]); first | done | rfl | (simp only [lD_q, lT_q]; rfl)) ?_
              with_reducible refine (spec_l32Room.calls k3 _ _ l0 a1_0 _ _ l1_1 _ _ y261 true _ ?side1 ?side2 ?side3 ?side4 ?side5 ?side6 A27.out).mono ?_
              (case side1 => repeat (first | exact (cB_q HR0.out HB.out) | (with_reducible refine cA_q ?_ _) | (with_reducible refine cN_q ?_ _) | (with_reducible refine cD_q ?_)))
              (case side2 => exact HC0.out)
              (case side3 => repeat (first | exact (cB_q HR1_1.out HB.out) | (with_reducible refine cA_q ?_ _) | (with_reducible refine cN_q ?_ _) | (with_reducible refine cD_q ?_)))
              (case side4 => exact HC1_1.out)
              (case side5 => repeat (first | exact (rR_q HO263.out).2.2 | (with_reducible refine cA_q ?_ _) | (with_reducible refine cN_q ?_ _) | (with_reducible refine cD_q ?_)))
              (case side6 => exact (rR_q HO263.out).2.1)
              rintro e w40 ⟨rfl, hb⟩
              refine ⟨_, rfl, ?_⟩
              have n0_ := Ae_q (rO_q (rup HO_6.out) hb)
              have n1_ := Ae_q (rO_q (rup HO260.out) hb)
              have n2_ := Ae_q (rO_q (rup HO263.out) hb)
              have n3_ := Ae_q (bB_q (g := gb240) (o := .cells #[.int .i64 a1_0, .slice A1_1 l1_1.length c1_1] 41 (0, 0)) (bup BK240.out) hb)
              have n4_ := Ae_q (bT_q (by repeat (first | (with_reducible first | exact HB.out | apply bA_q | apply pB_q | apply bD_q | refine bS_q ?_ GE240.out) | exact HB.out)) hb)
              clear HO_6
              clear HO260
              clear HO263
              clear BK240
              clear HB
              have HO_6 := n0_
              have HO260 := n1_
              have HO263 := n2_
              have BK240 := n3_
              have HB := n4_
              clear n0_ n1_ n2_ n3_ n4_
              (try clear hb)
              (try clear hb2)
              (try clear hk)
              (try clear hi)
              refine hK.out _ _ ⟨(bC_q BK240.out 0).trans rfl, (bC_q BK240.out 1).trans rfl⟩ (fun hHeld => ?_)
              clear hK K
              refine norm_ (a' := ?_) ?_ ?_
              rotate_left
              ·show Act.put _ (some 45) _ = _
               simp only [Act.put, sA_q, sZ_q, sS_q, i64_w, i32_w]
               rfl
              refine pure_ (i := 9) (N := some 46) (v := ?_) (a' := ?_) #[true, true, true, true, true, true, true, true, true, true] rfl rfl (any_of HT_.out (by kernel_rfl)) (fun _ _ _ h => h) (Or.inl ⟨by rfl, ?_⟩) ?_ ?_
              rotate_left
              ·intro w'
               go_simp
               with_reducible rfl
              rotate_left
              ·simp only [Act.put, sA_q, sZ_q, sS_q, i64_w, i32_w]
               rfl
              refine done_ (done_of HT_.out (by kernel_rfl)) ?_
              try go_wp2_with (first | ((with_reducible refine gD_q (N := 51) rfl ?_); refine Kd.R_lit kI_q _ 3 ?hg (N := 51) ?hd (xs := ([x8_3] : List Int)) (inner := [.int .i64 x8_3]) (ok := fun _ => True) (okp := fun _ => True) ?hr ?hp (fun _ hk => hk) trivial (bR_q _ _) (nR_q _) (by simp) ?_; (case hd => rfl); (case hg => rfl); (case hr => first | (go_simp; done) | (go_simp; rfl)); (case hp => exact (Reps.one (show Kd.M kI_q _ _ _ x8_3 [.int .i64 x8_3] from rfl) (Reps.none _ _))); intro v266 w41 ho42 hb hg_ hnew_; clear hg_ hnew_; (first | rw [← Ny265.out] at ho42 | (simp only [Int.reduceToNat] at ho42; rw [← Ny265.out] at ho42)); have n0_ := Ae_q (rE_q (rup HO_6.out) (rB_q ho42) hb); have n1_ := Ae_q (rE_q (rup HO260.out) (rB_q ho42) hb); have n2_ := Ae_q (rE_q (rup HO263.out) (rB_q ho42) hb); have n3_ := Ae_q (rL_q (rW_q (rW_q (rW_q ho42 (rT_q (rup HO_6.out))) (rT_q (rup HO260.out))) (rT_q (rup HO263.out))) (bZ_q (by repeat (first | (with_reducible first | exact HB.out | apply bA_q | apply pB_q | apply bD_q | refine bS_q ?_ GE240.out) | exact HB.out)))); have n4_ := Ae_q (bB_q (g := gb240) (o := .cells #[.int .i64 a1_0, .slice A1_1 l1_1.length c1_1] 41 (0, 0)) (bup BK240.out) hb); have n5_ := Ae_q (bT_q (by repeat (first | (with_reducible first | exact HB.out | apply bA_q | apply pB_q | apply bD_q | refine bS_q ?_ GE240.out) | exact HB.out)) hb); clear HO_6; clear HO260; clear HO263; clear BK240; clear HB; have HO_6 := n0_; have HO260 := n1_; have HO263 := n2_; have HO267 := n3_; have BK240 := n4_; have HB := n5_; clear n0_ n1_ n2_ n3_ n4_ n5_; clear hb ho42; obtain ⟨Ao44, co44, eo44⟩ := rS_q HO267.out; subst eo44) | ((with_reducible refine gate_builtin (b := .append) (xs := #[.tmp 49, .tmp 51]) rfl ?_); at_builtin; refine Kd.R_append_rows kI_q (w0 := w) w.heap.size rfl (.tmp 49) (.tmp 51) 24 3 (.int .i64 0) 8 rfl Try.underlying24 info3 rfl (by decide) (by omega) (.slice Ao23 x6_2.length co23) x6_2 y265 _ _ _ (fun k_ => some k_ ≠ (.slice Ao38 y258.length co38 : Value).ownBlock ∧ some k_ ≠ (.slice Ao39 y261.length co39 : Value).ownBlock ∧ some k_ ≠ (.slice Ao44 y265.length co44 : Value).ownBlock) (fun _ => False) rfl rfl ?aO ?aR (fun _ _ h => h) (fun _ h => h.elim) ?aF ?aB ?aS ?aL ?_; (case aR => repeat (first | exact (rR_q HO267.out).2.2 | (with_reducible refine cA_q ?_ _) | (with_reducible refine cN_q ?_ _) | (with_reducible refine cD_q ?_))); (case aB => exact (by repeat (first | (with_reducible first | exact HB.out | apply bA_q | apply pB_q | apply bD_q | refine bS_q ?_ GE240.out) | exact HB.out))); (case aF => exact (fun k_ hk => ⟨Kd.fresh' (rT_q (rup HO260.out)) k_ hk, Kd.fresh' (rT_q (rup HO263.out)) k_ hk, Kd.fresh' (rT_q (rup HO267.out)) k_ hk⟩)); (case aO => exact (by (with_reducible repeat (first | apply rA_q | apply rN_q | apply rD_q)); exact rM_q HO_6.out (fun _ hk => ⟨hk.1.1, ⟨hk.1.2, hk.2⟩⟩))); (case aS => exact (bZ_q (by repeat (first | (with_reducible first | exact HB.out | apply bA_q | apply pB_q | apply bD_q | refine bS_q ?_ GE240.out) | exact HB.out)))); (case aL => have := LMc29.out; omega); intro v269 w43 ho hb hg hat; rw [← Ny268.out] at ho; have n0_ := Ae_q (bG_q (g := gb240) (o := .cells #[.int .i64 a1_0, .slice A1_1 l1_1.length c1_1] 41 (0, 0)) (bup BK240.out) hg (Kd.R_ne HO_6.out BK240.out (by decide))); have n1_ := Ae_q (rF_q (ok := (fun k_ => some k_ ≠ (.slice Ao39 y261.length co39 : Value).ownBlock ∧ some k_ ≠ (.slice Ao44 y265.length co44 : Value).ownBlock)) (by (with_reducible repeat (first | apply rA_q | apply rN_q | apply rD_q)); exact rM_q HO260.out (fun _ hk => ⟨⟨hk.1.2, hk.2⟩, hk.1.1⟩)) hg hat); have n2_ := Ae_q (rF_q (ok := (fun k_ => some k_ ≠ (.slice Ao38 y258.length co38 : Value).ownBlock ∧ some k_ ≠ (.slice Ao44 y265.length co44 : Value).ownBlock)) (by (with_reducible repeat (first | apply rA_q | apply rN_q | apply rD_q)); exact rM_q HO263.out (fun _ hk => ⟨⟨hk.1.2, hk.2⟩, hk.1.1⟩)) hg hat); have n3_ := Ae_q (rF_q (ok := (fun k_ => some k_ ≠ (.slice Ao38 y258.length co38 : Value).ownBlock ∧ some k_ ≠ (.slice Ao39 y261.length co39 : Value).ownBlock)) (by (with_reducible repeat (first | apply rA_q | apply rN_q | apply rD_q)); exact rM_q HO267.out (fun _ hk => ⟨⟨hk.1.2, hk.2⟩, hk.1.1.2⟩)) hg hat); have n4_ := Ae_q (hb); have n5_ := Ae_q (ho); clear BK240; clear HO260; clear HO263; clear HO267; clear HB; clear HO_6; have BK240 := n0_; have HO260 := n1_; have HO263 := n2_; have HO267 := n3_; have HB := n4_; have HO270 := n5_; clear n0_ n1_ n2_ n3_ n4_ n5_; clear ho hb hg hat))
              go_roundg k3
              case measure => have := HJ2.out; have := HK2.out; have := HK3.out; omega
              case rel => exact ⟨(y268), (wrap64 (x7_2 + 1)), (by first | rfl | (simp; done) | (simp [*]; done)), H', ⟨by have := HJ2.out; have := HK2.out; have := HK3.out; omega⟩, ⟨by (with_reducible repeat (first | apply rA_q | apply rN_q | apply rD_q)); exact rM_q HO270.out (fun _ hk => trivial)⟩, ⟨by (with_reducible repeat (first | refine bN_q ?_ _ | refine bW_q ?_ | refine bL_q ?_ _)); exact BK240.out⟩, ⟨by repeat (first | (with_reducible first | exact HB.out | apply bA_q | apply pB_q | apply bD_q | refine bS_q ?_ GE240.out) | exact HB.out)⟩⟩
             rw [if_neg c29] at H
             exact absurd H (by simp)
            replace c28 := fM_q.mpr c28
            subst c28
            have H1 : (spec_PlanMake.l1 k3 l0 x6_2 x7_2 (wrap64 (x8_3 + 1)) a1_0 l1_1) = some (r1, r2) := by rw [if_neg (show ¬ (false = true) by decide)] at H; exact H
            clear H
            have H := H1
            clear H1
            have H' := Ae_q H
            clear H
            try go_wp2
            have n0_ := Ae_q (rD_q HO_6.out)
            have n1_ := Ae_q (bW_q BK240.out)
            have n2_ := Ae_q (bD_q HB.out)
            clear HO_6
            clear BK240
            clear HB
            have HO_6 := n0_
            have BK240 := n1_
            have HB := n2_
            clear n0_ n1_ n2_
            refine start_ (n := 10) (S := fun w' => w'.cell? ⟨gb240, 0, none⟩ = some (.int .i64 a1_0) ∧ w'.cell? ⟨gb240, 1, none⟩ = some (.slice A1_1 l1_1.length c1_1)) (ds := []) #[false, false, false, false, false, false, false, false, false, false] (by kernel_rfl) rfl rfl ⟨(bC_q BK240.out 0).trans rfl, (bC_q BK240.out 1).trans rfl⟩ (fun hHeld => ?_); refine with_tabW spec_PlanMake.tab10 spec_PlanMake.bits10 (fun HT_ HW_ => ?_)
            generalize wr.drew = w45 at HO_6 BK240 HB hHeld ⊢
            refine pure_ (i := 0) (N := some 37) (v := ?_) (a' := ?_) #[true, false, false, false, false, false, false, false, false, false] rfl rfl (any_of HT_.out (by kernel_rfl)) (fun _ _ _ h => h) (Or.inl ⟨by rfl, ?_⟩) ?_ ?_
            rotate_left
            ·intro w'
             go_simp
             with_reducible rfl
            rotate_left
            ·simp only [Act.put, sA_q, sZ_q, sS_q, i64_w, i32_w]
             rfl
            refine pure_ (i := 3) (N := some 40) (v := ?_) (a' := ?_) #[true, false, false, true, false, false, false, false, false, false] rfl rfl (any_of HT_.out (by kernel_rfl)) (fun _ _ _ h => h) (Or.inl ⟨by rfl, ?_⟩) ?_ ?_
            rotate_left
            ·intro w'
             go_simp
             with_reducible rfl
            rotate_left
            ·simp only [Act.put, sA_q, sZ_q, sS_q, i64_w, i32_w]
             rfl
            refine pure_ (i := 5) (N := some 42) (v := ?_) (a' := ?_) #[true, false, false, true, false, true, false, false, false, false] rfl rfl (any_of HT_.out (by kernel_rfl)) (fun _ _ _ h => h) (Or.inl ⟨by rfl, ?_⟩) ?_ ?_
            rotate_left
            ·intro w'
             go_simp
             with_reducible rfl
            rotate_left
            ·simp only [Act.put, sA_q, sZ_q, sS_q, i64_w, i32_w]
             rfl
            refine take_ (i := 1) (N := some 38) (v := ?_) (a' := ?_) #[true, true, false, true, false, true, false, false, false, false] rfl rfl (take_ofW HT_.out HW_.out (by kernel_rfl)) (fun _ _ _ h => h) (Or.inl ⟨by rfl, ?_⟩) hHeld ?_ ?_
            rotate_left
            ·rintro w' ⟨s0, s1⟩
             go_simp
             with_reducible rfl
            rotate_left
            ·simp only [Act.put, sA_q, sZ_q, sS_q, i64_w, i32_w]
             rfl
            refine join_ (σ := Value × Value × Value) 3 #[true, true, true, true, true, true, true, false, false, false] (fun s_ => [(39, s_.1), (41, s_.2.1), (43, s_.2.2)]) (fun s_ w' => (w'.cell? ⟨gb240, 0, none⟩ = some (.int .i64 a1_0) ∧ w'.cell? ⟨gb240, 1, none⟩ = some (.slice A1_1 l1_1.length c1_1)) ∧ (Kd.R kI_q 3 w' w.heap.size (fun k_ => some k_ ≠ (s_.2.2 : Value).ownBlock ∧ some k_ ≠ (.slice Ao23 x6_2.length co23 : Value).ownBlock) s_.2.1 y255) ∧ (Kd.R kI_q 3 w' w.heap.size (fun k_ => some k_ ≠ (s_.2.1 : Value).ownBlock ∧ some k_ ≠ (.slice Ao23 x6_2.length co23 : Value).ownBlock) s_.2.2 y258) ∧ (Kd.R kI_q 3 w' w.heap.size (fun k_ => some k_ ≠ (s_.2.1 : Value).ownBlock ∧ some k_ ≠ (s_.2.2 : Value).ownBlock) (.slice Ao23 x6_2.length co23) x6_2) ∧ (w'.heap[gb240]? = some (.cells #[.int .i64 a1_0, .slice A1_1 l1_1.length c1_1] 41 (0, 0))) ∧ (Below w.heap.size w w')) ?_ ?_
            rotate_left
            ·intro hCont
             refine two_ (i := 2) (j := 6) (Ni := some 39) (Nj := some 43) #[true, true, true, true, false, true, false, false, false, false] #[true, true, false, true, false, true, true, false, false, false] rfl rfl rfl rfl (two_of HT_.out (by kernel_rfl)) (by decide) (by decide) (fun K hK => ?_) (fun K hK => ?_)
             ·skip
              refine rI_q kI_q _ 3 ?hg (N := 39) ?hd (xs := ([] : List Int)) (inner := []) (ok := fun _ => True) (okp := fun _ => True) ?hr ?hp (fun _ hk => hk) trivial (bR_q _ _) (nR_q _) (by simp) ?_; (case hd => rfl); (case hg => rfl); (case hr => first | (go_simp; done) | (go_simp; rfl)); (case hp => exact (Reps.none _ _))
              intro v253 w46 ho47 hb hg_ hnew_
              clear hg_ hnew_
              (first | rw [← Ny252.out] at ho47 | (simp only [Int.reduceToNat] at ho47; rw [← Ny252.out] at ho47))
              have n0_ := Ae_q (rE_q (rup HO_6.out) (rB_q ho47) hb)
              have n1_ := Ae_q (rL_q (rW_q ho47 (rT_q (rup HO_6.out))) (bZ_q (by repeat (first | (with_reducible first | exact HB.out | apply bA_q | apply pB_q | apply bD_q | refine bS_q ?_ GE240.out) | exact HB.out))))
              have n2_ := Ae_q (bB_q (g := gb240) (o := .cells #[.int .i64 a1_0, .slice A1_1 l1_1.length c1_1] 41 (0, 0)) (bup BK240.out) hb)
              have n3_ := Ae_q (bT_q (by repeat (first | (with_reducible first | exact HB.out | apply bA_q | apply pB_q | apply bD_q | refine bS_q ?_ GE240.out) | exact HB.out)) hb)
              clear HO_6
              clear BK240
              clear HB
              have HO_6 := n0_
              have HO254 := n1_
              have BK240 := n2_
              have HB := n3_
              clear n0_ n1_ n2_ n3_
              clear hb ho47
              refine hK.out _ _ ⟨(bC_q BK240.out 0).trans rfl, (bC_q BK240.out 1).trans rfl⟩ (fun hHeld => ?_)
              clear hK K
              refine norm_ (a' := ?_) ?_ ?_
              rotate_left
              ·show Act.put _ (some 39) _ = _
               simp only [Act.put, sA_q, sZ_q, sS_q, i64_w, i32_w]
               rfl
              refine two_ (i := 4) (j := 6) (Ni := some 41) (Nj := some 43) #[true, true, true, true, true, true, false, false, false, false] #[true, true, true, true, false, true, true, false, false, false] rfl rfl rfl rfl (two_of HT_.out (by kernel_rfl)) (by decide) (by decide) (fun K hK => ?_) (fun K hK => ?_)
              ·skip
               refine rP_q kI_q (w0 := w) w.heap.size (by rfl) (.tmp 39) (.tmp 40) 24 3 (.int .i64 0) 8 rfl Try.underlying24 info3 rfl (by decide) (by omega) v253 y252 x6_2 _ _ _ (fun k_ => some k_ ≠ (.slice Ao23 x6_2.length co23 : Value).ownBlock) (fun _ => False) rfl rfl ?aO ?aR (fun _ _ h => h) (fun _ h => h.elim) ?aF ?aB ?aS ?aL ?_
               (case aR => repeat (first | exact (rR_q HO_6.out).2.2 | (with_reducible refine cA_q ?_ _) | (with_reducible refine cN_q ?_ _) | (with_reducible refine cD_q ?_)))
               (case aB => exact (by repeat (first | (with_reducible first | exact HB.out | apply bA_q | apply pB_q | apply bD_q | refine bS_q ?_ GE240.out) | exact HB.out)))
               (case aF => exact (fun k_ hk => Kd.fresh' (rT_q (rup HO_6.out)) k_ hk))
               (case aO => exact (by (with_reducible repeat (first | apply rA_q | apply rN_q | apply rD_q)); exact rM_q HO254.out (fun _ hk => hk.2)))
               (case aS => exact (bZ_q (by repeat (first | (with_reducible first | exact HB.out | apply bA_q | apply pB_q | apply bD_q | refine bS_q ?_ GE240.out) | exact HB.out))))
               (case aL => have := LMc25.out; omega)
               intro v256 w48 ho hb hg hat
               rw [← Ny255.out] at ho
               have n0_ := Ae_q (rF_q (ok := (fun _ => True)) (rup HO_6.out) hg hat)
               have n1_ := Ae_q (bG_q (g := gb240) (o := .cells #[.int .i64 a1_0, .slice A1_1 l1_1.length c1_1] 41 (0, 0)) (bup BK240.out) hg (Kd.R_ne HO254.out BK240.out (by decide)))
               have n2_ := Ae_q (hb)
               have n3_ := Ae_q (ho)
               clear HO_6
               clear BK240
               clear HB
               clear HO254
               have HO_6 := n0_
               have BK240 := n1_
               have HB := n2_
               have HO257 := n3_
               clear n0_ n1_ n2_ n3_
               clear ho hb hg hat
               refine hK.out _ _ ⟨(bC_q BK240.out 0).trans rfl, (bC_q BK240.out 1).trans rfl⟩ (fun hHeld => ?_)
               clear hK K
               refine norm_ (a' := ?_) ?_ ?_
               rotate_left
               ·show Act.put _ (some 41) _ = _
                simp only [Act.put, sA_q, sZ_q, sS_q, i64_w, i32_w]
                rfl
               refine one_ (i := 6) (N := some 43) #[true, true, true, true, true, true, true, false, false, false] rfl rfl (one_of HT_.out (by kernel_rfl)) (by decide) (fun K hK => ?_)
               refine rI_q kI_q _ 3 ?hg (N := 43) ?hd (xs := ([x8_3] : List Int)) (inner := [.int .i64 x8_3]) (ok := fun _ => True) (okp := fun _ => True) ?hr ?hp (fun _ hk => hk) trivial (bR_q _ _) (nR_q _) (by simp) ?_; (case hd => rfl); (case hg => rfl); (case hr => first | (go_simp; done) | (go_simp; rfl)); (case hp => exact (Reps.one (show Kd.M kI_q _ _ _ x8_3 [.int .i64 x8_3] from rfl) (Reps.none _ _)))
               intro v259 w49 ho50 hb hg_ hnew_
               clear hg_ hnew_
               (first | rw [← Ny258.out] at ho50 | (simp only [Int.reduceToNat] at ho50; rw [← Ny258.out] at ho50))
               have n0_ := Ae_q (rE_q (rup HO_6.out) (rB_q ho50) hb)
               have n1_ := Ae_q (rE_q (rup HO257.out) (rB_q ho50) hb)
               have n2_ := Ae_q (rL_q (rW_q (rW_q ho50 (rT_q (rup HO_6.out))) (rT_q (rup HO257.out))) (bZ_q (by repeat (first | (with_reducible first | exact HB.out | apply bA_q | apply pB_q | apply bD_q | refine bS_q ?_ GE240.out) | exact HB.out))))
               have n3_ := Ae_q (bB_q (g := gb240) (o := .cells #[.int .i64 a1_0, .slice A1_1 l1_1.length c1_1] 41 (0, 0)) (bup BK240.out) hb)
               have n4_ := Ae_q (bT_q (by repeat (first | (with_reducible first | exact HB.out | apply bA_q | apply pB_q | apply bD_q | refine bS_q ?_ GE240.out) | exact HB.out)) hb)
               clear HO_6
               clear HO257
               clear BK240
               clear HB
               have HO_6 := n0_
               have HO257 := n1_
               have HO260 := n2_
               have BK240 := n3_
               have HB := n4_
               clear n0_ n1_ n2_ n3_ n4_
               clear hb ho50
               refine hK.out _ _ ⟨(bC_q BK240.out 0).trans rfl, (bC_q BK240.out 1).trans rfl⟩ (fun hHeld => ?_)
               clear hK K
               refine norm_ (a' := ?_) ?_ ?_
               rotate_left
               ·show Act.put _ (some 43) _ = _
                simp only [Act.put, sA_q, sZ_q, sS_q, i64_w, i32_w]
                rfl
               exact norm_ (by simp only [putAll, Act.put, sA_q, sZ_q, sS_q]) (hCont (v253, v256, v259) _ ⟨hHeld, (by (with_reducible repeat (first | apply rA_q | apply rN_q | apply rD_q)); exact rM_q HO257.out (fun _ hk => ⟨hk.2, hk.1⟩)), (by (with_reducible repeat (first | apply rA_q | apply rN_q | apply rD_q)); exact rM_q HO260.out (fun _ hk => ⟨hk.2, hk.1.2⟩)), (by (with_reducible repeat (first | apply rA_q | apply rN_q | apply rD_q)); exact rM_q HO_6.out (fun _ hk => ⟨hk.1.2, hk.2⟩)), (bup BK240.out), (by repeat (first | (with_reducible first | exact HB.out | apply bA_q | apply pB_q | apply bD_q | refine bS_q ?_ GE240.out) | exact HB.out))⟩)
              skip
              refine rI_q kI_q _ 3 ?hg (N := 43) ?hd (xs := ([x8_3] : List Int)) (inner := [.int .i64 x8_3]) (ok := fun _ => True) (okp := fun _ => True) ?hr ?hp (fun _ hk => hk) trivial (bR_q _ _) (nR_q _) (by simp) ?_; (case hd => rfl); (case hg => rfl); (case hr => first | (go_simp; done) | (go_simp; rfl)); (case hp => exact (Reps.one (show Kd.M kI_q _ _ _ x8_3 [.int .i64 x8_3] from rfl) (Reps.none _ _)))
              intro v259 w48 ho49 hb hg_ hnew_
              clear hg_ hnew_
              (first | rw [← Ny258.out] at ho49 | (simp only [Int.reduceToNat] at ho49; rw [← Ny258.out] at ho49))
              have n0_ := Ae_q (rE_q (rup HO_6.out) (rB_q ho49) hb)
              have n1_ := Ae_q (rE_q (rup HO254.out) (rB_q ho49) hb)
              have n2_ := Ae_q (rL_q (rW_q (rW_q ho49 (rT_q (rup HO_6.out))) (rT_q (rup HO254.out))) (bZ_q (by repeat (first | (with_reducible first | exact HB.out | apply bA_q | apply pB_q | apply bD_q | refine bS_q ?_ GE240.out) | exact HB.out))))
              have n3_ := Ae_q (bB_q (g := gb240) (o := .cells #[.int .i64 a1_0, .slice A1_1 l1_1.length c1_1] 41 (0, 0)) (bup BK240.out) hb)
              have n4_ := Ae_q (bT_q (by repeat (first | (with_reducible first | exact HB.out | apply bA_q | apply pB_q | apply bD_q | refine bS_q ?_ GE240.out) | exact HB.out)) hb)
              clear HO_6
              clear HO254
              clear BK240
              clear HB
              have HO_6 := n0_
              have HO254 := n1_
              have HO260 := n2_
              have BK240 := n3_
              have HB := n4_
              clear n0_ n1_ n2_ n3_ n4_
              clear hb ho49
              refine hK.out _ _ ⟨(bC_q BK240.out 0).trans rfl, (bC_q BK240.out 1).trans rfl⟩ (fun hHeld => ?_)
              clear hK K
              refine norm_ (a' := ?_) ?_ ?_
              rotate_left
              ·show Act.put _ (some 43) _ = _
               simp only [Act.put, sA_q, sZ_q, sS_q, i64_w, i32_w]
               rfl
              refine one_ (i := 4) (N := some 41) #[true, true, true, true, true, true, true, false, false, false] rfl rfl (one_of HT_.out (by kernel_rfl)) (by decide) (fun K hK => ?_)
              refine rP_q kI_q (w0 := w) w.heap.size (by rfl) (.tmp 39) (.tmp 40) 24 3 (.int .i64 0) 8 rfl Try.underlying24 info3 rfl (by decide) (by omega) v253 y252 x6_2 _ _ _ (fun k_ => some k_ ≠ (.slice Ao23 x6_2.length co23 : Value).ownBlock ∧ some k_ ≠ (v259 : Value).ownBlock) (fun _ => False) rfl rfl ?aO ?aR (fun _ _ h => h) (fun _ h => h.elim) ?aF ?aB ?aS ?aL ?_
              (case aR => repeat (first | exact (rR_q HO_6.out).2.2 | (with_reducible refine cA_q ?_ _) | (with_reducible refine cN_q ?_ _) | (with_reducible refine cD_q ?_)))
              (case aB => exact (by repeat (first | (with_reducible first | exact HB.out | apply bA_q | apply pB_q | apply bD_q | refine bS_q ?_ GE240.out) | exact HB.out)))
              (case aF => exact (fun k_ hk => ⟨Kd.fresh' (rT_q (rup HO_6.out)) k_ hk, Kd.fresh' (rT_q (rup HO260.out)) k_ hk⟩))
              (case aO => exact (by (with_reducible repeat (first | apply rA_q | apply rN_q | apply rD_q)); exact rM_q HO254.out (fun _ hk => ⟨hk.1.2, hk.2⟩)))
              (case aS => exact (bZ_q (by repeat (first | (with_reducible first | exact HB.out | apply bA_q | apply pB_q | apply bD_q | refine bS_q ?_ GE240.out) | exact HB.out))))
              (case aL => have := LMc25.out; omega)
              intro v256 w50 ho hb hg hat
              rw [← Ny255.out] at ho
              have n0_ := Ae_q (rF_q (ok := (fun k_ => some k_ ≠ (v259 : Value).ownBlock)) (by (with_reducible repeat (first | apply rA_q | apply rN_q | apply rD_q)); exact rM_q HO_6.out (fun _ hk => ⟨hk.2, hk.1.2⟩)) hg hat)
              have n1_ := Ae_q (bG_q (g := gb240) (o := .cells #[.int .i64 a1_0, .slice A1_1 l1_1.length c1_1] 41 (0, 0)) (bup BK240.out) hg (Kd.R_ne HO254.out BK240.out (by decide)))
              have n2_ := Ae_q (rF_q (ok := (fun k_ => some k_ ≠ (.slice Ao23 x6_2.length co23 : Value).ownBlock)) (by (with_reducible repeat (first | apply rA_q | apply rN_q | apply rD_q)); exact rM_q HO260.out (fun _ hk => ⟨hk.1.2, hk.2⟩)) hg hat)
              have n3_ := Ae_q (hb)
              have n4_ := Ae_q (ho)
              clear HO_6
              clear BK240
              clear HO260
              clear HB
              clear HO254
              have HO_6 := n0_
              have BK240 := n1_
              have HO260 := n2_
              have HB := n3_
              have HO257 := n4_
              clear n0_ n1_ n2_ n3_ n4_
              clear ho hb hg hat
              refine hK.out _ _ ⟨(bC_q BK240.out 0).trans rfl, (bC_q BK240.out 1).trans rfl⟩ (fun hHeld => ?_)
              clear hK K
              refine norm_ (a' := ?_) ?_ ?_
              rotate_left
              ·show Act.put _ (some 41) _ = _
               simp only [Act.put, sA_q, sZ_q, sS_q, i64_w, i32_w]
               rfl
              exact norm_ (by simp only [putAll, Act.put, sA_q, sZ_q, sS_q]) (hCont (v253, v256, v259) _ ⟨hHeld, (by (with_reducible repeat (first | apply rA_q | apply rN_q | apply rD_q)); exact rM_q HO257.out (fun _ hk => ⟨hk.2, hk.1⟩)), (by (with_reducible repeat (first | apply rA_q | apply rN_q | apply rD_q)); exact rM_q HO260.out (fun _ hk => ⟨hk.2, hk.1⟩)), (by (with_reducible repeat (first | apply rA_q | apply rN_q | apply rD_q)); exact rM_q HO_6.out (fun _ hk => ⟨hk.2, hk.1⟩)), (bup BK240.out), (by repeat (first | (with_reducible first | exact HB.out | apply bA_q | apply pB_q | apply bD_q | refine bS_q ?_ GE240.out) | exact HB.out))⟩)
             skip
             refine rI_q kI_q _ 3 ?hg (N := 43) ?hd (xs := ([x8_3] : List Int)) (inner := [.int .i64 x8_3]) (ok := fun _ => True) (okp := fun _ => True) ?hr ?hp (fun _ hk => hk) trivial (bR_q _ _) (nR_q _) (by simp) ?_; (case hd => rfl); (case hg => rfl); (case hr => first | (go_simp; done) | (go_simp; rfl)); (case hp => exact (Reps.one (show Kd.M kI_q _ _ _ x8_3 [.int .i64 x8_3] from rfl) (Reps.none _ _)))
             intro v259 w46 ho47 hb hg_ hnew_
             clear hg_ hnew_
             (first | rw [← Ny258.out] at ho47 | (simp only [Int.reduceToNat] at ho47; rw [← Ny258.out] at ho47))
             have n0_ := Ae_q (rE_q (rup HO_6.out) (rB_q ho47) hb)
             have n1_ := Ae_q (rL_q (rW_q ho47 (rT_q (rup HO_6.out))) (bZ_q (by repeat (first | (with_reducible first | exact HB.out | apply bA_q | apply pB_q | apply bD_q | refine bS_q ?_ GE240.out) | exact HB.out))))
             have n2_ := Ae_q (bB_q (g := gb240) (o := .cells #[.int .i64 a1_0, .slice A1_1 l1_1.length c1_1] 41 (0, 0)) (bup BK240.out) hb)
             have n3_ := Ae_q (bT_q (by repeat (first | (with_reducible first | exact HB.out | apply bA_q | apply pB_q | apply bD_q | refine bS_q ?_ GE240.out) | exact HB.out)) hb)
             clear HO_6
             clear BK240
             clear HB
             have HO_6 := n0_
             have HO260 := n1_
             have BK240 := n2_
             have HB := n3_
             clear n0_ n1_ n2_ n3_
             clear hb ho47
             refine hK.out _ _ ⟨(bC_q BK240.out 0).trans rfl, (bC_q BK240.out 1).trans rfl⟩ (fun hHeld => ?_)
             clear hK K
             refine norm_ (a' := ?_) ?_ ?_
             rotate_left
             ·show Act.put _ (some 43) _ = _
              simp only [Act.put, sA_q, sZ_q, sS_q, i64_w, i32_w]
              rfl
             refine one_ (i := 2) (N := some 39) #[true, true, true, true, false, true, true, false, false, false] rfl rfl (one_of HT_.out (by kernel_rfl)) (by decide) (fun K hK => ?_)
             refine rI_q kI_q _ 3 ?hg (N := 39) ?hd (xs := ([] : List Int)) (inner := []) (ok := fun _ => True) (okp := fun _ => True) ?hr ?hp (fun _ hk => hk) trivial (bR_q _ _) (nR_q _) (by simp) ?_; (case hd => rfl); (case hg => rfl); (case hr => first | (go_simp; done) | (go_simp; rfl)); (case hp => exact (Reps.none _ _))
             intro v253 w48 ho49 hb hg_ hnew_
             clear hg_ hnew_
             (first | rw [← Ny252.out] at ho49 | (simp only [Int.reduceToNat] at ho49; rw [← Ny252.out] at ho49))
             have n0_ := Ae_q (rE_q (rup HO_6.out) (rB_q ho49) hb)
             have n1_ := Ae_q (rE_q (rup HO260.out) (rB_q ho49) hb)
             have n2_ := Ae_q (rL_q (rW_q (rW_q ho49 (rT_q (rup HO_6.out))) (rT_q (rup HO260.out))) (bZ_q (by repeat (first | (with_reducible first | exact HB.out | apply bA_q | apply pB_q | apply bD_q | refine bS_q ?_ GE240.out) | exact HB.out))))
             have n3_ := Ae_q (bB_q (g := gb240) (o := .cells #[.int .i64 a1_0, .slice A1_1 l1_1.length c1_1] 41 (0, 0)) (bup BK240.out) hb)
             have n4_ := Ae_q (bT_q (by repeat (first | (with_reducible first | exact HB.out | apply bA_q | apply pB_q | apply bD_q | refine bS_q ?_ GE240.out) | exact HB.out)) hb)
             clear HO_6
             clear HO260
             clear BK240
             clear HB
             have HO_6 := n0_
             have HO260 := n1_
             have HO254 := n2_
             have BK240 := n3_
             have HB := n4_
             clear n0_ n1_ n2_ n3_ n4_
             clear hb ho49
             refine hK.out _ _ ⟨(bC_q BK240.out 0).trans rfl, (bC_q BK240.out 1).trans rfl⟩ (fun hHeld => ?_)
             clear hK K
             refine norm_ (a' := ?_) ?_ ?_
             rotate_left
             ·show Act.put _ (some 39) _ = _
              simp only [Act.put, sA_q, sZ_q, sS_q, i64_w, i32_w]
              rfl
             refine one_ (i := 4) (N := some 41) #[true, true, true, true, true, true, true, false, false, false] rfl rfl (one_of HT_.out (by kernel_rfl)) (by decide) (fun K hK => ?_)
             refine rP_q kI_q (w0 := w) w.heap.size (by rfl) (.tmp 39) (.tmp 40) 24 3 (.int .i64 0) 8 rfl Try.underlying24 info3 rfl (by decide) (by omega) v253 y252 x6_2 _ _ _ (fun k_ => some k_ ≠ (.slice Ao23 x6_2.length co23 : Value).ownBlock ∧ some k_ ≠ (v259 : Value).ownBlock) (fun _ => False) rfl rfl ?aO ?aR (fun _ _ h => h) (fun _ h => h.elim) ?aF ?aB ?aS ?aL ?_
             (case aR => repeat (first | exact (rR_q HO_6.out).2.2 | (with_reducible refine cA_q ?_ _) | (with_reducible refine cN_q ?_ _) | (with_reducible refine cD_q ?_)))
             (case aB => exact (by repeat (first | (with_reducible first | exact HB.out | apply bA_q | apply pB_q | apply bD_q | refine bS_q ?_ GE240.out) | exact HB.out)))
             (case aF => exact (fun k_ hk => ⟨Kd.fresh' (rT_q (rup HO_6.out)) k_ hk, Kd.fresh' (rT_q (rup HO260.out)) k_ hk⟩))
             (case aO => exact (by (with_reducible repeat (first | apply rA_q | apply rN_q | apply rD_q)); exact rM_q HO254.out (fun _ hk => ⟨hk.1.2, hk.2⟩)))
             (case aS => exact (bZ_q (by repeat (first | (with_reducible first | exact HB.out | apply bA_q | apply pB_q | apply bD_q | refine bS_q ?_ GE240.out) | exact HB.out))))
             (case aL => have := LMc25.out; omega)
             intro v256 w50 ho hb hg hat
             rw [← Ny255.out] at ho
             have n0_ := Ae_q (rF_q (ok := (fun k_ => some k_ ≠ (v259 : Value).ownBlock)) (by (with_reducible repeat (first | apply rA_q | apply rN_q | apply rD_q)); exact rM_q HO_6.out (fun _ hk => ⟨hk.1.2, hk.2⟩)) hg hat)
             have n1_ := Ae_q (bG_q (g := gb240) (o := .cells #[.int .i64 a1_0, .slice A1_1 l1_1.length c1_1] 41 (0, 0)) (bup BK240.out) hg (Kd.R_ne HO254.out BK240.out (by decide)))
             have n2_ := Ae_q (rF_q (ok := (fun k_ => some k_ ≠ (.slice Ao23 x6_2.length co23 : Value).ownBlock)) (by (with_reducible repeat (first | apply rA_q | apply rN_q | apply rD_q)); exact rM_q HO260.out (fun _ hk => ⟨hk.1.2, hk.2⟩)) hg hat)
             have n3_ := Ae_q (hb)
             have n4_ := Ae_q (ho)
             clear HO_6
             clear BK240
             clear HO260
             clear HB
             clear HO254
             have HO_6 := n0_
             have BK240 := n1_
             have HO260 := n2_
             have HB := n3_
             have HO257 := n4_
             clear n0_ n1_ n2_ n3_ n4_
             clear ho hb hg hat
             refine hK.out _ _ ⟨(bC_q BK240.out 0).trans rfl, (bC_q BK240.out 1).trans rfl⟩ (fun hHeld => ?_)
             clear hK K
             refine norm_ (a' := ?_) ?_ ?_
             rotate_left
             ·show Act.put _ (some 41) _ = _
              simp only [Act.put, sA_q, sZ_q, sS_q, i64_w, i32_w]
              rfl
             exact norm_ (by simp only [putAll, Act.put, sA_q, sZ_q, sS_q]) (hCont (v253, v256, v259) _ ⟨hHeld, (by (with_reducible repeat (first | apply rA_q | apply rN_q | apply rD_q)); exact rM_q HO257.out (fun _ hk => ⟨hk.2, hk.1⟩)), (by (with_reducible repeat (first | apply rA_q | apply rN_q | apply rD_q)); exact rM_q HO260.out (fun _ hk => ⟨hk.2, hk.1⟩)), (by (with_reducible repeat (first | apply rA_q | apply rN_q | apply rD_q)); exact rM_q HO_6.out (fun _ hk => ⟨hk.2, hk.1⟩)), (bup BK240.out), (by repeat (first | (with_reducible first | exact HB.out | apply bA_q | apply pB_q | apply bD_q | refine bS_q ?_ GE240.out) | exact HB.out))⟩)
            rintro ⟨v253, v256, v259⟩ w51 ⟨hS_, h0_, h1_, h2_, h3_, h4_⟩
            have n0_ : Aside0 (Kd.R kI_q 3 w51 w.heap.size (fun k_ => some k_ ≠ (v259 : Value).ownBlock ∧ some k_ ≠ (.slice Ao23 x6_2.length co23 : Value).ownBlock) v256 y255) := ⟨h0_⟩
            have n1_ : Aside0 (Kd.R kI_q 3 w51 w.heap.size (fun k_ => some k_ ≠ (v256 : Value).ownBlock ∧ some k_ ≠ (.slice Ao23 x6_2.length co23 : Value).ownBlock) v259 y258) := ⟨h1_⟩
            have n2_ : Aside0 (Kd.R kI_q 3 w51 w.heap.size (fun k_ => some k_ ≠ (v256 : Value).ownBlock ∧ some k_ ≠ (v259 : Value).ownBlock) (.slice Ao23 x6_2.length co23) x6_2) := ⟨h2_⟩
            have n3_ : Aside0 (w51.heap[gb240]? = some (.cells #[.int .i64 a1_0, .slice A1_1 l1_1.length c1_1] 41 (0, 0))) := ⟨h3_⟩
            have n4_ : Aside0 (Below w.heap.size w w51) := ⟨h4_⟩
            clear HO_6
            clear BK240
            clear HB
            clear h0_ h1_ h2_ h3_ h4_
            have HO257 := n0_
            have HO260 := n1_
            have HO_6 := n2_
            have BK240 := n3_
            have HB := n4_
            clear n0_ n1_ n2_ n3_ n4_
            have hHeld : w51.cell? ⟨gb240, 0, none⟩ = some (.int .i64 a1_0) ∧ w51.cell? ⟨gb240, 1, none⟩ = some (.slice A1_1 l1_1.length c1_1) := hS_
            obtain ⟨Ao53, co53, eo53⟩ := rS_q HO260.out
            (first | subst eo53 | (injection eo53 with f1_ f2_ f3_; have f4_ := f1_.symm; have f5_ := f3_.symm; clear f1_ f2_ f3_; subst f4_; subst f5_))
            refine norm_ (a' := ?_) ?_ ?_
            rotate_left
            ·simp only [putAll, Act.put, sA_q, sZ_q, sS_q]
             rfl
            refine one_ (i := 7) (N := some 44) #[true, true, true, true, true, true, true, true, false, false] rfl rfl (one_of HT_.out (by kernel_rfl)) (by decide) (fun K hK => ?_)
            refine rP_q kI_q (w0 := w) w.heap.size (by rfl) (.tmp 41) (.tmp 43) 24 3 (.int .i64 0) 8 rfl Try.underlying24 info3 rfl (by decide) (by omega) v256 y255 y258 _ _ _ (fun k_ => some k_ ≠ (.slice Ao23 x6_2.length co23 : Value).ownBlock ∧ some k_ ≠ (.slice Ao53 y258.length co53 : Value).ownBlock) (fun _ => False) rfl rfl ?aO ?aR (fun _ _ h => h) (fun _ h => h.elim) ?aF ?aB ?aS ?aL ?_
            (case aR => repeat (first | exact (rR_q HO260.out).2.2 | (with_reducible refine cA_q ?_ _) | (with_reducible refine cN_q ?_ _) | (with_reducible refine cD_q ?_)))
            (case aB => exact (by repeat (first | (with_reducible first | exact HB.out | apply bA_q | apply pB_q | apply bD_q | refine bS_q ?_ GE240.out) | exact HB.out)))
            (case aF => exact (fun k_ hk => ⟨Kd.fresh' (rT_q (rup HO_6.out)) k_ hk, Kd.fresh' (rT_q (rup HO260.out)) k_ hk⟩))
            (case aO => exact (by (with_reducible repeat (first | apply rA_q | apply rN_q | apply rD_q)); exact rM_q HO257.out (fun _ hk => ⟨hk.2, hk.1⟩)))
            (case aS => exact (bZ_q (by repeat (first | (with_reducible first | exact HB.out | apply bA_q | apply pB_q | apply bD_q | refine bS_q ?_ GE240.out) | exact HB.out))))
            (case aL => have := LMc26.out; omega)
            intro v262 w52 ho hb hg hat
            rw [← Ny261.out] at ho
            have n0_ := Ae_q (rF_q (ok := (fun k_ => some k_ ≠ (.slice Ao53 y258.length co53 : Value).ownBlock)) (by (with_reducible repeat (first | apply rA_q | apply rN_q | apply rD_q)); exact rM_q HO_6.out (fun _ hk => ⟨hk.2, hk.1⟩)) hg hat)
            have n1_ := Ae_q (bG_q (g := gb240) (o := .cells #[.int .i64 a1_0, .slice A1_1 l1_1.length c1_1] 41 (0, 0)) (bup BK240.out) hg (Kd.R_ne HO257.out BK240.out (by decide)))
            have n2_ := Ae_q (rF_q (ok := (fun k_ => some k_ ≠ (.slice Ao23 x6_2.length co23 : Value).ownBlock)) (by (with_reducible repeat (first | apply rA_q | apply rN_q | apply rD_q)); exact rM_q HO260.out (fun _ hk => ⟨hk.2, hk.1⟩)) hg hat)
            have n3_ := Ae_q (hb)
            have n4_ := Ae_q (ho)
            clear HO_6
            clear BK240
            clear HO260
            clear HB
            clear HO257
            have HO_6 := n0_
            have BK240 := n1_
            have HO260 := n2_
            have HB := n3_
            have HO263 := n4_
            clear n0_ n1_ n2_ n3_ n4_
            clear ho hb hg hat
            obtain ⟨Ao54, co54, eo54⟩ := rS_q HO263.out
            (first | subst eo54 | (injection eo54 with f1_ f2_ f3_; have f4_ := f1_.symm; have f5_ := f3_.symm; clear f1_ f2_ f3_; subst f4_; subst f5_))
            refine hK.out _ _ ⟨(bC_q BK240.out 0).trans rfl, (bC_q BK240.out 1).trans rfl⟩ (fun hHeld => ?_)
            clear hK K
            refine norm_ (a' := ?_) ?_ ?_
            rotate_left
            ·show Act.put _ (some 44) _ = _
             simp only [Act.put, sA_q, sZ_q, sS_q, i64_w, i32_w]
             rfl
            refine one_ (i := 8) (N := some 45) #[true, true, true, true, true, true, true, true, true, false] rfl rfl (one_of HT_.out (by kernel_rfl)) (by decide) (fun K hK => ?_)
            refine goes_ Try.func42 (by kernel_rfl) rfl #[.slice (some ad246) l0.length c0, .agg #[.int .i64 a1_0, .slice A1_1 l1_1.length c1_1], .slice Ao54 y261.length co54] (by rfl) rfl rfl (by (try simp only [lM_q, lC_q, lN_q]); first | done | rfl | (simp only [lD_q, lT_q]; rfl)) ?_
            with_reducible refine (spec_l32Room.calls k3 _ _ l0 a1_0 _ _ l1_1 _ _ y261 false _ ?side1 ?side2 ?side3 ?side4 ?side5 ?side6 A27.out).mono ?_
            (case side1 => repeat (first | exact (cB_q HR0.out HB.out) | (with_reducible refine cA_q ?_ _) | (with_reducible refine cN_q ?_ _) | (with_reducible refine cD_q ?_)))
            (case side2 => exact HC0.out)
            (case side3 => repeat (first | exact (cB_q HR1_1.out HB.out) | (with_reducible refine cA_q ?_ _) | (with_reducible refine cN_q ?_ _) | (with_reducible refine cD_q ?_)))
            (case side4 => exact HC1_1.out)
            (case side5 => repeat (first | exact (rR_q HO263.out).2.2 | (with_reducible refine cA_q ?_ _) | (with_reducible refine cN_q ?_ _) | (with_reducible refine cD_q ?_)))
            (case side6 => exact (rR_q HO263.out).2.1)
            rintro e w55 ⟨rfl, hb⟩
            refine ⟨_, rfl, ?_⟩
            have n0_ := Ae_q (rO_q (rup HO_6.out) hb)
            have n1_ := Ae_q (rO_q (rup HO260.out) hb)
            have n2_ := Ae_q (rO_q (rup HO263.out) hb)
            have n3_ := Ae_q (bB_q (g := gb240) (o := .cells #[.int .i64 a1_0, .slice A1_1 l1_1.length c1_1] 41 (0, 0)) (bup BK240.out) hb)
            have n4_ := Ae_q (bT_q (by repeat (first | (with_reducible first | exact HB.out | apply bA_q | apply pB_q | apply bD_q | refine bS_q ?_ GE240.out) | exact HB.out)) hb)
            clear HO_6
            clear HO260
            clear HO263
            clear BK240
            clear HB
            have HO_6 := n0_
            have HO260 := n1_
            have HO263 := n2_
            have BK240 := n3_
            have HB := n4_
            clear n0_ n1_ n2_ n3_ n4_
            (try clear hb)
            (try clear hb2)
            (try clear hk)
            (try clear hi)
            refine hK.out _ _ ⟨(bC_q BK240.out 0).trans rfl, (bC_q BK240.out 1).trans rfl⟩ (fun hHeld => ?_)
            clear hK K
            refine norm_ (a' := ?_) ?_ ?_
            rotate_left
            ·show Act.put _ (some 45) _ = _
             simp only [Act.put, sA_q, sZ_q, sS_q, i64_w, i32_w]
             rfl
            refine pure_ (i := 9) (N := some 46) (v := ?_) (a' := ?_) #[true, true, true, true, true, true, true, true, true, true] rfl rfl (any_of HT_.out (by kernel_rfl)) (fun _ _ _ h => h) (Or.inl ⟨by rfl, ?_⟩) ?_ ?_
            rotate_left
            ·intro w'
             go_simp
             with_reducible rfl
            rotate_left
            ·simp only [Act.put, sA_q, sZ_q, sS_q, i64_w, i32_w]
             rfl
            refine done_ (done_of HT_.out (by kernel_rfl)) ?_
            try go_wp2
            go_roundg k3
            case measure => have := HJ2.out; have := HK2.out; have := HK3.out; omega
            case rel => exact ⟨(wrap64 (x8_3 + 1)), (by first | rfl | (simp; done) | (simp [*]; done)), H', ⟨by have := HJ2.out; have := HK2.out; have := HK3.out; omega⟩, ⟨by (with_reducible repeat (first | apply rA_q | apply rN_q | apply rD_q)); exact rM_q HO_6.out (fun _ hk => trivial)⟩, ⟨by (with_reducible repeat (first | refine bN_q ?_ _ | refine bW_q ?_ | refine bL_q ?_ _)); exact BK240.out⟩, ⟨by repeat (first | (with_reducible first | exact HB.out | apply bA_q | apply pB_q | apply bD_q | refine bS_q ?_ GE240.out) | exact HB.out)⟩⟩
           rw [if_neg c26] at H
           exact absurd H (by simp)
          rw [if_neg c25] at H
          exact absurd H (by simp)
       replace c19 := fM_q.mpr c19
       subst c19
       have H1 : (some ((([] : List Int)), false)) = some (r1, r2) := by rw [if_neg (show ¬ (false = true) by decide)] at H; exact H
       clear H
       have H := H1
       clear H1
       obtain ⟨y248, hy248⟩ : ∃ y_ : List Int, y_ = (([] : List Int)) := ⟨_, rfl⟩
       replace H : (some (y248, false)) = some (r1, r2) := by first | (rw [hy248]; with_reducible exact H) | (have H2_ := (oS_q _ _).symm.trans H; rw [hy248]; with_reducible exact H2_) | (have H2_ := (oS_q _ _).symm.trans H; with_reducible exact H2_) | with_reducible exact H | (rw [hy248]; exact H) | exact H
       have Ny248 := Ae_q hy248
       clear hy248
       simp only [oE_q, pE_q] at H
       obtain ⟨rfl, rfl⟩ := H
       try go_wp2
       have n0_ := Ae_q (rD_q HO_6.out)
       have n1_ := Ae_q (bW_q BK240.out)
       have n2_ := Ae_q (bD_q HB.out)
       clear HO_6
       clear BK240
       clear HB
       have HO_6 := n0_
       have BK240 := n1_
       have HB := n2_
       clear n0_ n1_ n2_
       have p246 : 0 ≤ (x7_2 : Int) := oD_q (by assumption)
       have q246 : x7_2 < (l0.length : Int) := oD_q (by assumption)
       obtain ⟨ad246, A246_3, c246_3, e246, hx246_0, hx246_1, hx246_2, hx246_3, hl246_3, hi246_3⟩ := at_T31 HR0.out x7_2 p246 q246
       have hw246_3 := hx246_3
       have hw246_2 := hx246_2
       have hw246_1 := hx246_1
       have hw246_0 := hx246_0
       cases e246
       replace hx246_0 := (HB.out.cell (wL_q w _ hx246_0)).trans hx246_0
       replace hx246_1 := (HB.out.cell (wL_q w _ hx246_1)).trans hx246_1
       replace hx246_2 := (HB.out.cell (wL_q w _ hx246_2)).trans hx246_2
       replace hx246_3 := (HB.out.cell (wL_q w _ hx246_3)).trans hx246_3
       have HR246_3 := Ae_q hi246_3
       have HC246_3 := Ae_q hl246_3
       clear hi246_3 hl246_3
       replace p246 := eq_true p246
       replace q246 := eq_true q246
       refine start_ (n := 7) (S := fun w' => w'.cell? ⟨gb240, 0, none⟩ = some (.int .i64 a1_0) ∧ w'.cell? ⟨gb240, 1, none⟩ = some (.slice A1_1 l1_1.length c1_1) ∧ w'.cell? (ad246.add ((x7_2).toNat * 4)) = some (.int .i64 ((rd_T31 l0 x7_2).f0)) ∧ w'.cell? ⟨(ad246.add ((x7_2).toNat * 4)).block, (ad246.add ((x7_2).toNat * 4)).off + 1, none⟩ = some (.int .i64 ((rd_T31 l0 x7_2).f1)) ∧ w'.cell? ⟨(ad246.add ((x7_2).toNat * 4)).block, (ad246.add ((x7_2).toNat * 4)).off + 2, none⟩ = some (.int .i64 ((rd_T31 l0 x7_2).f2)) ∧ w'.cell? ⟨(ad246.add ((x7_2).toNat * 4)).block, (ad246.add ((x7_2).toNat * 4)).off + 3, none⟩ = some (.slice A246_3 ((rd_T31 l0 x7_2).f3).length c246_3)) (ds := []) #[false, false, false, false, false, false, false] (by kernel_rfl) rfl rfl ⟨(bC_q BK240.out 0).trans rfl, (bC_q BK240.out 1).trans rfl, (cel HB.out hw246_0), (cel HB.out hw246_1), (cel HB.out hw246_2), (cel HB.out hw246_3)⟩ (fun hHeld => ?_)
       generalize wr.drew = w56 at HO_6 BK240 HB HR246_3 hx246_0 hx246_1 hx246_2 hx246_3 hHeld ⊢
       refine pure_ (i := 0) (N := some 25) (v := ?_) (a' := ?_) #[true, false, false, false, false, false, false] rfl rfl (by kernel_rfl) (fun _ _ _ h => h) (Or.inl ⟨by rfl, ?_⟩) ?_ ?_
       rotate_left
       ·intro w'
        go_simp
        with_reducible rfl
       rotate_left
       ·simp only [Act.put, sA_q, sZ_q, sS_q, i64_w, i32_w]
        rfl
       refine pure_ (i := 1) (N := some 26) (v := ?_) (a' := ?_) #[true, true, false, false, false, false, false] rfl rfl (by kernel_rfl) (fun _ _ _ h => h) (Or.inl ⟨by rfl, ?_⟩) ?_ ?_
       rotate_left
       ·intro w'
        go_simp
        with_reducible rfl
       rotate_left
       ·simp only [Act.put, sA_q, sZ_q, sS_q, i64_w, i32_w]
        rfl
       refine pure_ (i := 2) (N := some 27) (v := ?_) (a' := ?_) #[true, true, true, false, false, false, false] rfl rfl (by kernel_rfl) (fun _ _ _ h => h) (Or.inl ⟨by rfl, ?_⟩) ?_ ?_
       rotate_left
       ·intro w'
        go_simp
        with_reducible rfl
       rotate_left
       ·simp only [Act.put, sA_q, sZ_q, sS_q, i64_w, i32_w]
        rfl
       refine take_ (i := 3) (N := some 28) (v := ?_) (a' := ?_) #[true, true, true, true, false, false, false] rfl rfl (by kernel_rfl) (fun _ _ _ h => h) (Or.inl ⟨by rfl, ?_⟩) hHeld ?_ ?_
       rotate_left
       ·rintro w' ⟨s0, s1, s2, s3, s4, s5⟩
        go_simp
        with_reducible rfl
       rotate_left
       ·simp only [Act.put, sA_q, sZ_q, sS_q, i64_w, i32_w]
        rfl
       refine take_ (i := 4) (N := some 29) (v := ?_) (a' := ?_) #[true, true, true, true, true, false, false] rfl rfl (by kernel_rfl) (fun _ _ _ h => h) (Or.inl ⟨by rfl, ?_⟩) hHeld ?_ ?_
       rotate_left
       ·rintro w' ⟨s0, s1, s2, s3, s4, s5⟩
        go_simp
        with_reducible rfl
       rotate_left
       ·simp only [Act.put, sA_q, sZ_q, sS_q, i64_w, i32_w]
        rfl
       refine one_ (i := 5) (N := some 30) #[true, true, true, true, true, true, false] rfl rfl (by kernel_rfl) (by decide) (fun K hK => ?_)
       refine goes_ Try.func67 (by kernel_rfl) rfl #[.agg #[.int .i64 ((rd_T31 l0 x7_2).f0), .int .i64 ((rd_T31 l0 x7_2).f1), .int .i64 ((rd_T31 l0 x7_2).f2), .slice A246_3 ((rd_T31 l0 x7_2).f3).length c246_3], .agg #[.int .i64 a1_0, .slice A1_1 l1_1.length c1_1]] (by rfl) rfl rfl (by (try simp only [lM_q, lC_q, lN_q]); first | done | rfl | (simp only [lD_q, lT_q]; rfl)) ?_
       with_reducible refine (spec_l32Alone.calls ((rd_T31 l0 x7_2).f0) ((rd_T31 l0 x7_2).f1) ((rd_T31 l0 x7_2).f2) _ _ ((rd_T31 l0 x7_2).f3) a1_0 _ _ l1_1 false _ ?side1 ?side2 ?side3 ?side4 A18.out).mono ?_
       (case side1 => repeat (first | exact (cB_q HR246_3.out HB.out) | (with_reducible refine cA_q ?_ _) | (with_reducible refine cN_q ?_ _) | (with_reducible refine cD_q ?_)))
       (case side2 => exact HC246_3.out)
       (case side3 => repeat (first | exact (cB_q HR1_1.out HB.out) | (with_reducible refine cA_q ?_ _) | (with_reducible refine cN_q ?_ _) | (with_reducible refine cD_q ?_)))
       (case side4 => exact HC1_1.out)
       rintro e w57 ⟨rfl, hb⟩
       refine ⟨_, rfl, ?_⟩
       have n0_ := Ae_q (rO_q (rup HO_6.out) hb)
       have n1_ := Ae_q (bB_q (g := gb240) (o := .cells #[.int .i64 a1_0, .slice A1_1 l1_1.length c1_1] 41 (0, 0)) (bup BK240.out) hb)
       have n2_ := Ae_q (bT_q (by repeat (first | (with_reducible first | exact HB.out | apply bA_q | apply pB_q | apply bD_q | refine bS_q ?_ GE240.out) | exact HB.out)) hb)
       clear HO_6
       clear BK240
       clear HB
       have HO_6 := n0_
       have BK240 := n1_
       have HB := n2_
       clear n0_ n1_ n2_
       (try clear hb)
       (try clear hb2)
       (try clear hk)
       (try clear hi)
       refine hK.out _ _ ⟨(bC_q BK240.out 0).trans rfl, (bC_q BK240.out 1).trans rfl, (cel HB.out hw246_0), (cel HB.out hw246_1), (cel HB.out hw246_2), (cel HB.out hw246_3)⟩ (fun hHeld => ?_)
       clear hK K
       refine norm_ (a' := ?_) ?_ ?_
       rotate_left
       ·show Act.put _ (some 30) _ = _
        simp only [Act.put, sA_q, sZ_q, sS_q, i64_w, i32_w]
        rfl
       refine pure_ (i := 6) (N := some 31) (v := ?_) (a' := ?_) #[true, true, true, true, true, true, true] rfl rfl (by kernel_rfl) (fun _ _ _ h => h) (Or.inl ⟨by rfl, ?_⟩) ?_ ?_
       rotate_left
       ·intro w'
        go_simp
        with_reducible rfl
       rotate_left
       ·simp only [Act.put, sA_q, sZ_q, sS_q, i64_w, i32_w]
        rfl
       refine done_ (by kernel_rfl) ?_
       try go_wp2_with (first | ((with_reducible refine gD_q (N := 32) rfl ?_); refine Kd.R_lit kI_q _ 3 ?hg (N := 32) ?hd (xs := ([] : List Int)) (inner := []) (ok := fun _ => True) (okp := fun _ => True) ?hr ?hp (fun _ hk => hk) trivial (bR_q _ _) (nR_q _) (by simp) ?_; (case hd => rfl); (case hg => rfl); (case hr => first | (go_simp; done) | (go_simp; rfl)); (case hp => exact (Reps.none _ _)); intro v249 w58 ho59 hb hg_ hnew_; clear hg_ hnew_; (first | rw [← Ny248.out] at ho59 | (simp only [Int.reduceToNat] at ho59; rw [← Ny248.out] at ho59)); have n0_ := Ae_q (rE_q (rup HO_6.out) (rB_q ho59) hb); have n1_ := Ae_q (rL_q (rW_q ho59 (rT_q (rup HO_6.out))) (bZ_q (by repeat (first | (with_reducible first | exact HB.out | apply bA_q | apply pB_q | apply bD_q | refine bS_q ?_ GE240.out) | exact HB.out)))); have n2_ := Ae_q (bB_q (g := gb240) (o := .cells #[.int .i64 a1_0, .slice A1_1 l1_1.length c1_1] 41 (0, 0)) (bup BK240.out) hb); have n3_ := Ae_q (bT_q (by repeat (first | (with_reducible first | exact HB.out | apply bA_q | apply pB_q | apply bD_q | refine bS_q ?_ GE240.out) | exact HB.out)) hb); clear HO_6; clear BK240; clear HB; have HO_6 := n0_; have HO250 := n1_; have BK240 := n2_; have HB := n3_; clear n0_ n1_ n2_ n3_; clear hb ho59))
       go_ret2
       exact ⟨_, by first | rfl | (simp [eN_q, eS_q] <;> rfl) | (simp [*, eN_q, eS_q] <;> rfl), by (with_reducible repeat (first | apply rA_q | apply rN_q | apply rD_q)); exact rM_q HO250.out (fun _ hk => trivial), by repeat (first | (with_reducible first | exact HB.out | apply bA_q | apply pB_q | apply bD_q | refine bS_q ?_ GE240.out) | exact HB.out)⟩
      rw [if_neg c17] at H
      exact absurd H (by simp)
     rw [if_neg c16] at H
     have c16b0 : decide (x7_2 < (l0.length : Int)) = false := dF_q c16
     clear c16
     simp only [oE_q, pE_q] at H
     obtain ⟨rfl, rfl⟩ := H
     go_wp2
     go_ret2
     exact ⟨_, by first | rfl | (simp [eN_q, eS_q] <;> rfl) | (simp [*, eN_q, eS_q] <;> rfl), by (with_reducible repeat (first | apply rA_q | apply rN_q | apply rD_q)); exact HO_6.out, by repeat (first | (with_reducible first | exact HB.out | apply bA_q | apply pB_q | apply bD_q | refine bS_q ?_ GE240.out) | exact HB.out)⟩

end Go.Proofs.Ytoaigcdoblnmhaa.PPn
