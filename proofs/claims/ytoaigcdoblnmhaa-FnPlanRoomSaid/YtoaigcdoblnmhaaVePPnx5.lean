import Derived.Test.YtoaigcdoblnmhaaVePPnx0
import Derived.Test.YtoaigcdoblnmhaaVePPnx4
namespace Go.Proofs.Ytoaigcdoblnmhaa.PPn
open Go.RowKit Go.Proofs.YtoaigcdoblnmhaaW.PrintWords Go.Proofs.YtoaigcdoblnmhaaW.PrintLast Go.Proofs.YtoaigcdoblnmhaaW.PrintMore
attribute [local go_sem] max2_int min2_int max_two min_two max_three min_three max_four min_four
set_option linter.unusedVariables false
set_option linter.unusedSimpArgs false

mutual
def spec_l32Room.l0 : Nat → List (S31) → List Int → Int → Int → Int → List Int → Option (Bool)
 | 0, _, _, _, _, _, _ => none
 | k + 1, x0, x2, x7, x8, x219000, x219001 => if 0 ≤ x7 then (if x7 < (x2.length : Int) then (if x7 < (x0.length : Int) then (if x8 < (wrap64 ((rd x2 x7) + ((rd_T31 x0 x7).f0))) then ((spec_l32Use.f k x0 x2 x8).bind fun bt222 => (if bt222.1 > x219000 then (some false) else (spec_l32Room.l1 k x0 x2 x7 x8 bt222.2 0 x219000 x219001))) else (some true)) else (none)) else (none)) else (none)
def spec_l32Room.l1 : Nat → List (S31) → List Int → Int → Int → List Int → Int → Int → List Int → Option (Bool)
 | 0, _, _, _, _, _, _, _, _ => none
 | k + 1, x0, x2, x7, x8, x10, x11, x219000, x219001 => if x11 < (x10.length : Int) then (if 0 ≤ x11 then (if x11 < (x219001.length : Int) then (if (rd x10 x11) > (rd x219001 x11) then (some false) else (spec_l32Room.l1 k x0 x2 x7 x8 x10 (wrap64 (x11 + 1)) x219000 x219001)) else (none)) else (none)) else (spec_l32Room.l0 k x0 x2 x7 (wrap64 (x8 + 1)) x219000 x219001)
end
def spec_l32Room.f (k : Nat) (l0 : List (S31)) (a1_0 : Int) (l1_1 : List Int) (l2 : List Int) : Option (Bool) := if 0 ≤ (wrap64 ((l2.length : Int) - 1)) then (if (wrap64 ((l2.length : Int) - 1)) < (l2.length : Int) then (spec_l32Room.l0 k l0 l2 (wrap64 ((l2.length : Int) - 1)) (rd l2 (wrap64 ((l2.length : Int) - 1))) a1_0 l1_1) else (none)) else (none)
theorem spec_l32Room.mono_l : ∀ k, (∀ y0 y1 y2 y3 y4 y5, LeO (spec_l32Room.l0 k y0 y1 y2 y3 y4 y5) (spec_l32Room.l0 (k + 1) y0 y1 y2 y3 y4 y5)) ∧ (∀ y0 y1 y2 y3 y4 y5 y6 y7, LeO (spec_l32Room.l1 k y0 y1 y2 y3 y4 y5 y6 y7) (spec_l32Room.l1 (k + 1) y0 y1 y2 y3 y4 y5 y6 y7))
 | 0 => ⟨fun _ _ _ _ _ _ r h => by simp [spec_l32Room.l0] at h, fun _ _ _ _ _ _ _ _ r h => by simp [spec_l32Room.l1] at h⟩
 | k + 1 => by
  obtain ⟨ih0, ih1⟩ := spec_l32Room.mono_l k
  refine ⟨?_, ?_⟩
  ·intro y0 y1 y2 y3 y4 y5
   unfold spec_l32Room.l0
   repeat' first
   | (with_reducible exact ih0 _ _ _ _ _ _)
   | (with_reducible exact ih1 _ _ _ _ _ _ _ _)
   | (with_reducible exact spec_l32Use.mono _ _ _ _)
   | (with_reducible exact lR_q _)
   | (with_reducible exact lO_q _)
   | (with_reducible refine lI_q ?_ ?_)
   | (with_reducible refine lB_q ?_ (fun _ => ?_))
   | exact ih0 _ _ _ _ _ _
   | exact ih1 _ _ _ _ _ _ _ _
   | exact spec_l32Use.mono _ _ _ _
   | exact lO_q _
   | refine lI_q ?_ ?_
   | refine lB_q ?_ (fun _ => ?_)
  intro y0 y1 y2 y3 y4 y5 y6 y7
  unfold spec_l32Room.l1
  repeat' first
  | (with_reducible exact ih0 _ _ _ _ _ _)
  | (with_reducible exact ih1 _ _ _ _ _ _ _ _)
  | (with_reducible exact spec_l32Use.mono _ _ _ _)
  | (with_reducible exact lR_q _)
  | (with_reducible exact lO_q _)
  | (with_reducible refine lI_q ?_ ?_)
  | (with_reducible refine lB_q ?_ (fun _ => ?_))
  | exact ih0 _ _ _ _ _ _
  | exact ih1 _ _ _ _ _ _ _ _
  | exact spec_l32Use.mono _ _ _ _
  | exact lO_q _
  | refine lI_q ?_ ?_
  | refine lB_q ?_ (fun _ => ?_)
theorem spec_l32Room.mono : ∀ a0 a1 a2 a3 k, LeO (spec_l32Room.f k a0 a1 a2 a3) (spec_l32Room.f (k + 1) a0 a1 a2 a3) := by
 intro a0 a1 a2 a3 k
 obtain ⟨ih0, ih1⟩ := spec_l32Room.mono_l k
 unfold spec_l32Room.f
 repeat' first
  | (with_reducible exact ih0 _ _ _ _ _ _)
  | (with_reducible exact ih1 _ _ _ _ _ _ _ _)
  | (with_reducible exact spec_l32Use.mono _ _ _ _)
  | (with_reducible exact lR_q _)
  | (with_reducible exact lO_q _)
  | (with_reducible refine lI_q ?_ ?_)
  | (with_reducible refine lB_q ?_ (fun _ => ?_))
  | exact ih0 _ _ _ _ _ _
  | exact ih1 _ _ _ _ _ _ _ _
  | exact spec_l32Use.mono _ _ _ _
  | exact lO_q _
  | refine lI_q ?_ ?_
  | refine lB_q ?_ (fun _ => ?_)
set_option maxHeartbeats 8000000 in
set_option maxRecDepth 100000 in
theorem spec_l32Room.calls (k : Nat) (A0 : Option Addr) (c0 : Nat) (l0 : List (S31)) (a1_0 : Int) (A1_1 : Option Addr) (c1_1 : Nat) (l1_1 : List Int) (A2 : Option Addr) (c2 : Nat) (l2 : List Int) (r : Bool) (w : World) (hr0 : Kd.C k31 w A0 l0.length l0) (hc0 : l0.length ≤ c0) (hr1_1 : Kd.C kI_q w A1_1 l1_1.length l1_1) (hc1_1 : l1_1.length ≤ c1_1) (hr2 : Kd.C kI_q w A2 l2.length l2) (hc2 : l2.length ≤ c2) (h : spec_l32Room.f k l0 a1_0 l1_1 l2 = some r) :
    Calls Try.prog 42 #[.slice A0 l0.length c0, .agg #[.int .i64 a1_0, .slice A1_1 l1_1.length c1_1], .slice A2 l2.length c2] w fun e w' => e = .returned (.bool r) ∧ Below w.heap.size w w' := by
 have hu41 := Try.underlying41
 have HR0 := Ae_q hr0
 have HC0 := Ae_q hc0
 clear hr0 hc0
 have HR1_1 := Ae_q hr1_1
 have HC1_1 := Ae_q hc1_1
 clear hr1_1 hc1_1
 have HR2 := Ae_q hr2
 have HC2 := Ae_q hc2
 clear hr2 hc2
 have HB := Ae_q (bR_q w.heap.size w)
 have H : (if 0 ≤ (wrap64 ((l2.length : Int) - 1)) then (if (wrap64 ((l2.length : Int) - 1)) < (l2.length : Int) then (spec_l32Room.l0 k l0 l2 (wrap64 ((l2.length : Int) - 1)) (rd l2 (wrap64 ((l2.length : Int) - 1))) a1_0 l1_1) else (none)) else (none)) = some r := h
 clear h
 obtain ⟨ji4, hji4⟩ : ∃ j_ : Int, (wrap64 ((l2.length : Int) - 1)) = j_ := ⟨_, rfl⟩
 replace H : (if 0 ≤ (ji4) then (if (ji4) < (l2.length : Int) then (spec_l32Room.l0 k l0 l2 ji4 (rd l2 (ji4)) a1_0 l1_1) else (none)) else (none)) = some r := by first | (rw [hji4] at H; exact H) | (simp only [hji4] at H ⊢; exact H)
 have hji4w : (IntKind.i64.wrap ((l2.length : Int) - 1)) = ji4 := (i64_w _).trans hji4
 by_cases c5 : 0 ≤ (ji4)
 ·rw [if_pos c5] at H
  have c5b0 : decide (0 ≤ (ji4)) = true := dT_q c5
  clear c5
  by_cases c6 : (ji4) < (l2.length : Int)
  ·rw [if_pos c6] at H
   have c6b0 : decide ((ji4) < (l2.length : Int)) = true := dT_q c6
   clear c6
   have H' := Ae_q H
   clear H
   go_enter Try.func42, Try.ntmps42
   go_wp2_with (first | ((with_reducible refine gD_q (N := 4) rfl ?_); refine bE_q ?hg (N := 4) ?hd (cs := #[.int .i64 a1_0, .slice A1_1 l1_1.length c1_1]) (t := 41) ?hr ?_; (case hd => rfl); (case hg => rfl); (case hr => first | (go_simp; done) | (go_simp; rfl)); intro gb218 hg w7 hbox hb; have n0_ := Ae_q (bT_q (bel HB.out) hb); have n1_ := Ae_q (hbox); have n2_ := Ae_q ((by rw [hg]; exact (bZ_q (bel HB.out)) : w.heap.size ≤ gb218)); have n3_ := Ae_q ((by rw [hg]; exact (bZ_q (bel HB.out)) : w.heap.size ≤ gb218)); clear HB; have HB := n0_; have BK218 := n1_; have GW218 := n2_; have GE218 := n3_; clear n0_ n1_ n2_ n3_; clear hb hbox hg; have p219 : 0 ≤ ((ji4) : Int) := oD_q (by assumption); have q219 : (ji4) < (l2.length : Int) := oD_q (by assumption); obtain ⟨ad219, e219, hx219_0⟩ := aI_q HR2.out (ji4) p219 q219; cases e219; replace hx219_0 := (HB.out.cell (wL_q w _ hx219_0)).trans hx219_0; replace p219 := eq_true p219; replace q219 := eq_true q219))
   repeat (go_quiet (first | ((with_reducible refine gD_q (N := 4) rfl ?_); refine bE_q ?hg (N := 4) ?hd (cs := #[.int .i64 a1_0, .slice A1_1 l1_1.length c1_1]) (t := 41) ?hr ?_; (case hd => rfl); (case hg => rfl); (case hr => first | (go_simp; done) | (go_simp; rfl)); intro gb218 hg w7 hbox hb; have n0_ := Ae_q (bT_q (bel HB.out) hb); have n1_ := Ae_q (hbox); have n2_ := Ae_q ((by rw [hg]; exact (bZ_q (bel HB.out)) : w.heap.size ≤ gb218)); have n3_ := Ae_q ((by rw [hg]; exact (bZ_q (bel HB.out)) : w.heap.size ≤ gb218)); clear HB; have HB := n0_; have BK218 := n1_; have GW218 := n2_; have GE218 := n3_; clear n0_ n1_ n2_ n3_; clear hb hbox hg; have p219 : 0 ≤ ((ji4) : Int) := oD_q (by assumption); have q219 : (ji4) < (l2.length : Int) := oD_q (by assumption); obtain ⟨ad219, e219, hx219_0⟩ := aI_q HR2.out (ji4) p219 q219; cases e219; replace hx219_0 := (HB.out.cell (wL_q w _ hx219_0)).trans hx219_0; replace p219 := eq_true p219; replace q219 := eq_true q219)); try go_wp2_with (first | ((with_reducible refine gD_q (N := 4) rfl ?_); refine bE_q ?hg (N := 4) ?hd (cs := #[.int .i64 a1_0, .slice A1_1 l1_1.length c1_1]) (t := 41) ?hr ?_; (case hd => rfl); (case hg => rfl); (case hr => first | (go_simp; done) | (go_simp; rfl)); intro gb218 hg w7 hbox hb; have n0_ := Ae_q (bT_q (bel HB.out) hb); have n1_ := Ae_q (hbox); have n2_ := Ae_q ((by rw [hg]; exact (bZ_q (bel HB.out)) : w.heap.size ≤ gb218)); have n3_ := Ae_q ((by rw [hg]; exact (bZ_q (bel HB.out)) : w.heap.size ≤ gb218)); clear HB; have HB := n0_; have BK218 := n1_; have GW218 := n2_; have GE218 := n3_; clear n0_ n1_ n2_ n3_; clear hb hbox hg; have p219 : 0 ≤ ((ji4) : Int) := oD_q (by assumption); have q219 : (ji4) < (l2.length : Int) := oD_q (by assumption); obtain ⟨ad219, e219, hx219_0⟩ := aI_q HR2.out (ji4) p219 q219; cases e219; replace hx219_0 := (HB.out.cell (wL_q w _ hx219_0)).trans hx219_0; replace p219 := eq_true p219; replace q219 := eq_true q219)))
   go_loopg [8] k (fun kq v8 w' => ∃ (x8_1 : Int), v8 = .int .i64 x8_1 ∧ Aside0 (spec_l32Room.l0 kq l0 l2 ji4 x8_1 a1_0 l1_1 = some r) ∧ Aside0 (kq ≤ k) ∧ Aside0 (w'.heap[gb218]? = some (.cells #[.int .i64 a1_0, (.slice A1_1 l1_1.length c1_1)] 41 (0, 0))) ∧ Aside0 (Below w.heap.size w w'))
   case atStart => exact ⟨(rd l2 (ji4)), (by first | rfl | (simp; done) | (simp only [← hji4] <;> (first | rfl | simp)) | (simp [*]; done)), H', ⟨nR_q _⟩, ⟨by (with_reducible repeat (first | refine bN_q ?_ _ | refine bW_q ?_ | refine bL_q ?_ _)); exact BK218.out⟩, ⟨by repeat (first | (with_reducible first | exact HB.out | apply bA_q | apply pB_q | apply bD_q | refine bS_q ?_ GE218.out) | exact HB.out)⟩⟩
   case round =>
    clear H'
    try clear c1
    try clear c2
    try clear p2
    try clear q2
    try clear hx2
    try clear c4
    try clear c5
    try clear c5b0
    try clear c6
    try clear c6b0
    try clear p6
    try clear hx219_0
    try clear p219
    try clear q219
    obtain ⟨x8_1, rfl, HA, HK1, BK218, HB⟩ := hrel
    cases gk with
    | zero => exact absurd HA.out (by simp [spec_l32Room.l0])
    | succ k1 =>
     have H := HA.out
     clear HA
     simp only [spec_l32Room.l0] at H
     by_cases c8 : 0 ≤ ji4
     ·rw [if_pos c8] at H
      have c8b0 : decide (0 ≤ ji4) = true := dT_q c8
      clear c8
      by_cases c9 : ji4 < (l2.length : Int)
      ·rw [if_pos c9] at H
       have c9b0 : decide (ji4 < (l2.length : Int)) = true := dT_q c9
       clear c9
       by_cases c10 : ji4 < (l0.length : Int)
       ·rw [if_pos c10] at H
        have c10b0 : decide (ji4 < (l0.length : Int)) = true := dT_q c10
        clear c10
        by_cases c11 : x8_1 < (wrap64 ((rd l2 ji4) + ((rd_T31 l0 ji4).f0)))
        ·rw [if_pos c11] at H
         have c11b0 : decide (x8_1 < (wrap64 ((rd l2 ji4) + ((rd_T31 l0 ji4).f0)))) = true := dT_q c11
         clear c11
         replace H := oB_q.mp H
         obtain ⟨⟨t222, t223⟩, A120, H⟩ := H
         replace H : (if t222 > a1_0 then (some false) else (spec_l32Room.l1 k1 l0 l2 ji4 x8_1 t223 0 a1_0 l1_1)) = some r := H
         have A12 := Ae_q A120
         clear A120
         by_cases c13 : t222 > a1_0
         ·rw [if_pos c13] at H
          have c13b0 : decide (a1_0 < t222) = true := dT_q c13
          clear c13
          obtain rfl := oI_q H
          have p220 : 0 ≤ (ji4 : Int) := oD_q (by assumption)
          have q220 : ji4 < (l2.length : Int) := oD_q (by assumption)
          obtain ⟨ad220, e220, hx220_0⟩ := aI_q HR2.out ji4 p220 q220
          obtain rfl : ad219 = ad220 := (by injection e220)
          replace hx220_0 := (HB.out.cell (wL_q w _ hx220_0)).trans hx220_0
          replace p220 := eq_true p220
          replace q220 := eq_true q220
          have p221 : 0 ≤ (ji4 : Int) := oD_q (by assumption)
          have q221 : ji4 < (l0.length : Int) := oD_q (by assumption)
          obtain ⟨ad221, A221_3, c221_3, e221, hx221_0, hx221_1, hx221_2, hx221_3, hl221_3, hi221_3⟩ := at_T31 HR0.out ji4 p221 q221
          cases e221
          replace hx221_0 := (HB.out.cell (wL_q w _ hx221_0)).trans hx221_0
          replace hx221_1 := (HB.out.cell (wL_q w _ hx221_1)).trans hx221_1
          replace hx221_2 := (HB.out.cell (wL_q w _ hx221_2)).trans hx221_2
          replace hx221_3 := (HB.out.cell (wL_q w _ hx221_3)).trans hx221_3
          have HR221_3 := Ae_q hi221_3
          have HC221_3 := Ae_q hl221_3
          clear hi221_3 hl221_3
          replace p221 := eq_true p221
          replace q221 := eq_true q221
          go_wp2_with (first | (go_at_call 38; (with_reducible refine (spec_l32Use.calls k1 _ _ l0 _ _ l2 x8_1 t222 t223 _ ?side1 ?side2 ?side3 ?side4 A12.out).mono ?_); (case side1 => repeat (first | exact (cB_q HR0.out HB.out) | (with_reducible refine cA_q ?_ _) | (with_reducible refine cN_q ?_ _) | (with_reducible refine cD_q ?_))); (case side2 => exact HC0.out); (case side3 => repeat (first | exact (cB_q HR2.out HB.out) | (with_reducible refine cA_q ?_ _) | (with_reducible refine cN_q ?_ _) | (with_reducible refine cD_q ?_))); (case side4 => exact HC2.out); rintro e w14 ⟨v224, rfl, ho0, hb⟩; have n0_ := Ae_q (rL_q ho0 (bZ_q (by repeat (first | (with_reducible first | exact HB.out | apply bA_q | apply pB_q | apply bD_q | refine bS_q ?_ GE218.out) | exact HB.out)))); have n1_ := Ae_q (bB_q (g := gb218) (o := .cells #[.int .i64 a1_0, .slice A1_1 l1_1.length c1_1] 41 (0, 0)) (bup BK218.out) hb); have n2_ := Ae_q (bT_q (by repeat (first | (with_reducible first | exact HB.out | apply bA_q | apply pB_q | apply bD_q | refine bS_q ?_ GE218.out) | exact HB.out)) hb); clear BK218; clear HB; have HO225 := n0_; have BK218 := n1_; have HB := n2_; clear n0_ n1_ n2_; (try clear hb); (try clear hb2); (try clear hk); (try clear hi); (try clear ho0); have hcz15_0 : w14.cell? ⟨gb218, 0, none⟩ = some (.int .i64 a1_0) := (bC_q BK218.out 0).trans rfl; have hcz15_1 : w14.cell? ⟨gb218, 1, none⟩ = some (.slice A1_1 l1_1.length c1_1) := (bC_q BK218.out 1).trans rfl; have hfz15_0 := bF_q BK218.out 0; have hfz15_1 := bF_q BK218.out 1))
          repeat (go_quiet (first | (go_at_call 38; (with_reducible refine (spec_l32Use.calls k1 _ _ l0 _ _ l2 x8_1 t222 t223 _ ?side1 ?side2 ?side3 ?side4 A12.out).mono ?_); (case side1 => repeat (first | exact (cB_q HR0.out HB.out) | (with_reducible refine cA_q ?_ _) | (with_reducible refine cN_q ?_ _) | (with_reducible refine cD_q ?_))); (case side2 => exact HC0.out); (case side3 => repeat (first | exact (cB_q HR2.out HB.out) | (with_reducible refine cA_q ?_ _) | (with_reducible refine cN_q ?_ _) | (with_reducible refine cD_q ?_))); (case side4 => exact HC2.out); rintro e w14 ⟨v224, rfl, ho0, hb⟩; have n0_ := Ae_q (rL_q ho0 (bZ_q (by repeat (first | (with_reducible first | exact HB.out | apply bA_q | apply pB_q | apply bD_q | refine bS_q ?_ GE218.out) | exact HB.out)))); have n1_ := Ae_q (bB_q (g := gb218) (o := .cells #[.int .i64 a1_0, .slice A1_1 l1_1.length c1_1] 41 (0, 0)) (bup BK218.out) hb); have n2_ := Ae_q (bT_q (by repeat (first | (with_reducible first | exact HB.out | apply bA_q | apply pB_q | apply bD_q | refine bS_q ?_ GE218.out) | exact HB.out)) hb); clear BK218; clear HB; have HO225 := n0_; have BK218 := n1_; have HB := n2_; clear n0_ n1_ n2_; (try clear hb); (try clear hb2); (try clear hk); (try clear hi); (try clear ho0); have hcz15_0 : w14.cell? ⟨gb218, 0, none⟩ = some (.int .i64 a1_0) := (bC_q BK218.out 0).trans rfl; have hcz15_1 : w14.cell? ⟨gb218, 1, none⟩ = some (.slice A1_1 l1_1.length c1_1) := (bC_q BK218.out 1).trans rfl; have hfz15_0 := bF_q BK218.out 0; have hfz15_1 := bF_q BK218.out 1)); try go_wp2_with (first | (go_at_call 38; (with_reducible refine (spec_l32Use.calls k1 _ _ l0 _ _ l2 x8_1 t222 t223 _ ?side1 ?side2 ?side3 ?side4 A12.out).mono ?_); (case side1 => repeat (first | exact (cB_q HR0.out HB.out) | (with_reducible refine cA_q ?_ _) | (with_reducible refine cN_q ?_ _) | (with_reducible refine cD_q ?_))); (case side2 => exact HC0.out); (case side3 => repeat (first | exact (cB_q HR2.out HB.out) | (with_reducible refine cA_q ?_ _) | (with_reducible refine cN_q ?_ _) | (with_reducible refine cD_q ?_))); (case side4 => exact HC2.out); rintro e w14 ⟨v224, rfl, ho0, hb⟩; have n0_ := Ae_q (rL_q ho0 (bZ_q (by repeat (first | (with_reducible first | exact HB.out | apply bA_q | apply pB_q | apply bD_q | refine bS_q ?_ GE218.out) | exact HB.out)))); have n1_ := Ae_q (bB_q (g := gb218) (o := .cells #[.int .i64 a1_0, .slice A1_1 l1_1.length c1_1] 41 (0, 0)) (bup BK218.out) hb); have n2_ := Ae_q (bT_q (by repeat (first | (with_reducible first | exact HB.out | apply bA_q | apply pB_q | apply bD_q | refine bS_q ?_ GE218.out) | exact HB.out)) hb); clear BK218; clear HB; have HO225 := n0_; have BK218 := n1_; have HB := n2_; clear n0_ n1_ n2_; (try clear hb); (try clear hb2); (try clear hk); (try clear hi); (try clear ho0); have hcz15_0 : w14.cell? ⟨gb218, 0, none⟩ = some (.int .i64 a1_0) := (bC_q BK218.out 0).trans rfl; have hcz15_1 : w14.cell? ⟨gb218, 1, none⟩ = some (.slice A1_1 l1_1.length c1_1) := (bC_q BK218.out 1).trans rfl; have hfz15_0 := bF_q BK218.out 0; have hfz15_1 := bF_q BK218.out 1)))
          go_ret
          exact ⟨by first | rfl | (simp [eN_q, eS_q] <;> rfl) | (simp only [← hji4]; first | rfl | (simp [eN_q, eS_q] <;> rfl)) | (simp [*, eN_q, eS_q] <;> rfl), by repeat (first | (with_reducible first | exact HB.out | apply bA_q | apply pB_q | apply bD_q | refine bS_q ?_ GE218.out) | exact HB.out)⟩
         rw [if_neg c13] at H
         have c13b0 : decide (a1_0 < t222) = false := dF_q c13
         clear c13
         have H' := Ae_q H
         clear H
         have p220 : 0 ≤ (ji4 : Int) := oD_q (by assumption)
         have q220 : ji4 < (l2.length : Int) := oD_q (by assumption)
         obtain ⟨ad220, e220, hx220_0⟩ := aI_q HR2.out ji4 p220 q220
         obtain rfl : ad219 = ad220 := (by injection e220)
         replace hx220_0 := (HB.out.cell (wL_q w _ hx220_0)).trans hx220_0
         replace p220 := eq_true p220
         replace q220 := eq_true q220
         have p221 : 0 ≤ (ji4 : Int) := oD_q (by assumption)
         have q221 : ji4 < (l0.length : Int) := oD_q (by assumption)
         obtain ⟨ad221, A221_3, c221_3, e221, hx221_0, hx221_1, hx221_2, hx221_3, hl221_3, hi221_3⟩ := at_T31 HR0.out ji4 p221 q221
         cases e221
         replace hx221_0 := (HB.out.cell (wL_q w _ hx221_0)).trans hx221_0
         replace hx221_1 := (HB.out.cell (wL_q w _ hx221_1)).trans hx221_1
         replace hx221_2 := (HB.out.cell (wL_q w _ hx221_2)).trans hx221_2
         replace hx221_3 := (HB.out.cell (wL_q w _ hx221_3)).trans hx221_3
         have HR221_3 := Ae_q hi221_3
         have HC221_3 := Ae_q hl221_3
         clear hi221_3 hl221_3
         replace p221 := eq_true p221
         replace q221 := eq_true q221
         go_wp2_with (first | (go_at_call 38; (with_reducible refine (spec_l32Use.calls k1 _ _ l0 _ _ l2 x8_1 t222 t223 _ ?side1 ?side2 ?side3 ?side4 A12.out).mono ?_); (case side1 => repeat (first | exact (cB_q HR0.out HB.out) | (with_reducible refine cA_q ?_ _) | (with_reducible refine cN_q ?_ _) | (with_reducible refine cD_q ?_))); (case side2 => exact HC0.out); (case side3 => repeat (first | exact (cB_q HR2.out HB.out) | (with_reducible refine cA_q ?_ _) | (with_reducible refine cN_q ?_ _) | (with_reducible refine cD_q ?_))); (case side4 => exact HC2.out); rintro e w16 ⟨v224, rfl, ho0, hb⟩; have n0_ := Ae_q (rL_q ho0 (bZ_q (by repeat (first | (with_reducible first | exact HB.out | apply bA_q | apply pB_q | apply bD_q | refine bS_q ?_ GE218.out) | exact HB.out)))); have n1_ := Ae_q (bB_q (g := gb218) (o := .cells #[.int .i64 a1_0, .slice A1_1 l1_1.length c1_1] 41 (0, 0)) (bup BK218.out) hb); have n2_ := Ae_q (bT_q (by repeat (first | (with_reducible first | exact HB.out | apply bA_q | apply pB_q | apply bD_q | refine bS_q ?_ GE218.out) | exact HB.out)) hb); clear BK218; clear HB; have HO225 := n0_; have BK218 := n1_; have HB := n2_; clear n0_ n1_ n2_; (try clear hb); (try clear hb2); (try clear hk); (try clear hi); (try clear ho0); have hcz17_0 : w16.cell? ⟨gb218, 0, none⟩ = some (.int .i64 a1_0) := (bC_q BK218.out 0).trans rfl; have hcz17_1 : w16.cell? ⟨gb218, 1, none⟩ = some (.slice A1_1 l1_1.length c1_1) := (bC_q BK218.out 1).trans rfl; have hfz17_0 := bF_q BK218.out 0; have hfz17_1 := bF_q BK218.out 1))
         repeat (go_quiet (first | (go_at_call 38; (with_reducible refine (spec_l32Use.calls k1 _ _ l0 _ _ l2 x8_1 t222 t223 _ ?side1 ?side2 ?side3 ?side4 A12.out).mono ?_); (case side1 => repeat (first | exact (cB_q HR0.out HB.out) | (with_reducible refine cA_q ?_ _) | (with_reducible refine cN_q ?_ _) | (with_reducible refine cD_q ?_))); (case side2 => exact HC0.out); (case side3 => repeat (first | exact (cB_q HR2.out HB.out) | (with_reducible refine cA_q ?_ _) | (with_reducible refine cN_q ?_ _) | (with_reducible refine cD_q ?_))); (case side4 => exact HC2.out); rintro e w16 ⟨v224, rfl, ho0, hb⟩; have n0_ := Ae_q (rL_q ho0 (bZ_q (by repeat (first | (with_reducible first | exact HB.out | apply bA_q | apply pB_q | apply bD_q | refine bS_q ?_ GE218.out) | exact HB.out)))); have n1_ := Ae_q (bB_q (g := gb218) (o := .cells #[.int .i64 a1_0, .slice A1_1 l1_1.length c1_1] 41 (0, 0)) (bup BK218.out) hb); have n2_ := Ae_q (bT_q (by repeat (first | (with_reducible first | exact HB.out | apply bA_q | apply pB_q | apply bD_q | refine bS_q ?_ GE218.out) | exact HB.out)) hb); clear BK218; clear HB; have HO225 := n0_; have BK218 := n1_; have HB := n2_; clear n0_ n1_ n2_; (try clear hb); (try clear hb2); (try clear hk); (try clear hi); (try clear ho0); have hcz17_0 : w16.cell? ⟨gb218, 0, none⟩ = some (.int .i64 a1_0) := (bC_q BK218.out 0).trans rfl; have hcz17_1 : w16.cell? ⟨gb218, 1, none⟩ = some (.slice A1_1 l1_1.length c1_1) := (bC_q BK218.out 1).trans rfl; have hfz17_0 := bF_q BK218.out 0; have hfz17_1 := bF_q BK218.out 1)); try go_wp2_with (first | (go_at_call 38; (with_reducible refine (spec_l32Use.calls k1 _ _ l0 _ _ l2 x8_1 t222 t223 _ ?side1 ?side2 ?side3 ?side4 A12.out).mono ?_); (case side1 => repeat (first | exact (cB_q HR0.out HB.out) | (with_reducible refine cA_q ?_ _) | (with_reducible refine cN_q ?_ _) | (with_reducible refine cD_q ?_))); (case side2 => exact HC0.out); (case side3 => repeat (first | exact (cB_q HR2.out HB.out) | (with_reducible refine cA_q ?_ _) | (with_reducible refine cN_q ?_ _) | (with_reducible refine cD_q ?_))); (case side4 => exact HC2.out); rintro e w16 ⟨v224, rfl, ho0, hb⟩; have n0_ := Ae_q (rL_q ho0 (bZ_q (by repeat (first | (with_reducible first | exact HB.out | apply bA_q | apply pB_q | apply bD_q | refine bS_q ?_ GE218.out) | exact HB.out)))); have n1_ := Ae_q (bB_q (g := gb218) (o := .cells #[.int .i64 a1_0, .slice A1_1 l1_1.length c1_1] 41 (0, 0)) (bup BK218.out) hb); have n2_ := Ae_q (bT_q (by repeat (first | (with_reducible first | exact HB.out | apply bA_q | apply pB_q | apply bD_q | refine bS_q ?_ GE218.out) | exact HB.out)) hb); clear BK218; clear HB; have HO225 := n0_; have BK218 := n1_; have HB := n2_; clear n0_ n1_ n2_; (try clear hb); (try clear hb2); (try clear hk); (try clear hi); (try clear ho0); have hcz17_0 : w16.cell? ⟨gb218, 0, none⟩ = some (.int .i64 a1_0) := (bC_q BK218.out 0).trans rfl; have hcz17_1 : w16.cell? ⟨gb218, 1, none⟩ = some (.slice A1_1 l1_1.length c1_1) := (bC_q BK218.out 1).trans rfl; have hfz17_0 := bF_q BK218.out 0; have hfz17_1 := bF_q BK218.out 1)))
         go_loopg [11] k1 (fun kq v11 w' => ∃ (x11_2 : Int), v11 = .int .i64 x11_2 ∧ Aside0 (spec_l32Room.l1 kq l0 l2 ji4 x8_1 t223 x11_2 a1_0 l1_1 = some r) ∧ Aside0 (kq ≤ k1) ∧ Aside0 (Kd.R kI_q 3 w' w.heap.size (fun _ => True) v224 t223) ∧ Aside0 (w'.heap[gb218]? = some (.cells #[.int .i64 a1_0, (.slice A1_1 l1_1.length c1_1)] 41 (0, 0))) ∧ Aside0 (Below w.heap.size w w'))
         case atStart => exact ⟨(0), (by first | rfl | (simp; done) | (simp [*]; done)), H', ⟨nR_q _⟩, ⟨by (with_reducible repeat (first | apply rA_q | apply rN_q | apply rD_q)); exact HO225.out⟩, ⟨by (with_reducible repeat (first | refine bN_q ?_ _ | refine bW_q ?_ | refine bL_q ?_ _)); exact BK218.out⟩, ⟨by repeat (first | (with_reducible first | exact HB.out | apply bA_q | apply pB_q | apply bD_q | refine bS_q ?_ GE218.out) | exact HB.out)⟩⟩
         case round =>
          clear H'
          try clear c1
          try clear c2
          try clear p2
          try clear q2
          try clear hx2
          try clear c4
          try clear c5
          try clear c5b0
          try clear c6
          try clear c6b0
          try clear p6
          try clear c8
          try clear c8b0
          try clear c9
          try clear c9b0
          try clear c10
          try clear c10b0
          try clear c11
          try clear c11b0
          try clear c13
          try clear c13b0
          try clear hcz15_0
          try clear hcz15_1
          try clear hcz17_0
          try clear hcz17_1
          try clear hfz15_0
          try clear hfz15_1
          try clear hfz17_0
          try clear hfz17_1
          try clear hx219_0
          try clear hx220_0
          try clear hx221_0
          try clear hx221_1
          try clear hx221_2
          try clear hx221_3
          try clear p2
          try clear p219
          try clear p220
          try clear p221
          try clear p6
          try clear q2
          try clear q219
          try clear q220
          try clear q221
          obtain ⟨x11_2, rfl, HA, HK2, HO_10, BK218, HB⟩ := hrel
          cases gk with
          | zero => exact absurd HA.out (by simp [spec_l32Room.l1])
          | succ k2 =>
           have H := HA.out
           clear HA
           simp only [spec_l32Room.l1] at H
           by_cases c18 : x11_2 < (t223.length : Int)
           ·rw [if_pos c18] at H
            have c18b0 : decide (x11_2 < (t223.length : Int)) = true := dT_q c18
            clear c18
            by_cases c19 : 0 ≤ x11_2
            ·rw [if_pos c19] at H
             have c19b0 : decide (0 ≤ x11_2) = true := dT_q c19
             clear c19
             by_cases c20 : x11_2 < (l1_1.length : Int)
             ·rw [if_pos c20] at H
              have c20b0 : decide (x11_2 < (l1_1.length : Int)) = true := dT_q c20
              clear c20
              by_cases c21 : (rd t223 x11_2) > (rd l1_1 x11_2)
              ·rw [if_pos c21] at H
               have c21b0 : decide ((rd l1_1 x11_2) < (rd t223 x11_2)) = true := dT_q c21
               clear c21
               obtain rfl := oI_q H
               obtain ⟨Ao22, co22, eo22⟩ := rS_q HO_10.out
               subst eo22
               have p226 : 0 ≤ (x11_2 : Int) := oD_q (by assumption)
               have q226 : x11_2 < (t223.length : Int) := oD_q (by assumption)
               obtain ⟨ad226, e226, hx226_0⟩ := aI_q (rR_q HO_10.out).2.2 x11_2 p226 q226
               cases e226
               replace p226 := eq_true p226
               replace q226 := eq_true q226
               have hcz23_0 : wr.cell? ⟨gb218, 0, none⟩ = some (.int .i64 a1_0) := (bC_q BK218.out 0).trans rfl
               have hcz23_1 : wr.cell? ⟨gb218, 1, none⟩ = some (.slice A1_1 l1_1.length c1_1) := (bC_q BK218.out 1).trans rfl
               have hfz23_0 := bF_q BK218.out 0
               have hfz23_1 := bF_q BK218.out 1
               have p227 : 0 ≤ (x11_2 : Int) := oD_q (by assumption)
               have q227 : x11_2 < (l1_1.length : Int) := oD_q (by assumption)
               obtain ⟨ad227, e227, hx227_0⟩ := aI_q HR1_1.out x11_2 p227 q227
               cases e227
               replace hx227_0 := (HB.out.cell (wL_q w _ hx227_0)).trans hx227_0
               replace p227 := eq_true p227
               replace q227 := eq_true q227
               go_wp2
               repeat (go_quiet (fail); try go_wp2)
               go_ret
               exact ⟨by first | rfl | (simp [eN_q, eS_q] <;> rfl) | (simp only [← hji4]; first | rfl | (simp [eN_q, eS_q] <;> rfl)) | (simp [*, eN_q, eS_q] <;> rfl), by repeat (first | (with_reducible first | exact HB.out | apply bA_q | apply pB_q | apply bD_q | refine bS_q ?_ GE218.out) | exact HB.out)⟩
              rw [if_neg c21] at H
              have c21b0 : decide ((rd l1_1 x11_2) < (rd t223 x11_2)) = false := dF_q c21
              clear c21
              have H' := Ae_q H
              clear H
              obtain ⟨Ao24, co24, eo24⟩ := rS_q HO_10.out
              subst eo24
              have p226 : 0 ≤ (x11_2 : Int) := oD_q (by assumption)
              have q226 : x11_2 < (t223.length : Int) := oD_q (by assumption)
              obtain ⟨ad226, e226, hx226_0⟩ := aI_q (rR_q HO_10.out).2.2 x11_2 p226 q226
              cases e226
              replace p226 := eq_true p226
              replace q226 := eq_true q226
              have hcz25_0 : wr.cell? ⟨gb218, 0, none⟩ = some (.int .i64 a1_0) := (bC_q BK218.out 0).trans rfl
              have hcz25_1 : wr.cell? ⟨gb218, 1, none⟩ = some (.slice A1_1 l1_1.length c1_1) := (bC_q BK218.out 1).trans rfl
              have hfz25_0 := bF_q BK218.out 0
              have hfz25_1 := bF_q BK218.out 1
              have p227 : 0 ≤ (x11_2 : Int) := oD_q (by assumption)
              have q227 : x11_2 < (l1_1.length : Int) := oD_q (by assumption)
              obtain ⟨ad227, e227, hx227_0⟩ := aI_q HR1_1.out x11_2 p227 q227
              cases e227
              replace hx227_0 := (HB.out.cell (wL_q w _ hx227_0)).trans hx227_0
              replace p227 := eq_true p227
              replace q227 := eq_true q227
              go_wp2
              repeat (go_quiet (fail); try go_wp2)
              go_roundg k2
              case measure => have := HK1.out; have := HK2.out; omega
              case rel => exact ⟨(wrap64 (x11_2 + 1)), (by first | rfl | (simp; done) | (simp [*]; done)), H', ⟨by have := HK1.out; have := HK2.out; omega⟩, ⟨by (with_reducible repeat (first | apply rA_q | apply rN_q | apply rD_q)); exact HO_10.out⟩, ⟨by (with_reducible repeat (first | refine bN_q ?_ _ | refine bW_q ?_ | refine bL_q ?_ _)); exact BK218.out⟩, ⟨by repeat (first | (with_reducible first | exact HB.out | apply bA_q | apply pB_q | apply bD_q | refine bS_q ?_ GE218.out) | exact HB.out)⟩⟩
             rw [if_neg c20] at H
             exact absurd H (by simp)
            rw [if_neg c19] at H
            exact absurd H (by simp)
           rw [if_neg c18] at H
           have c18b0 : decide (x11_2 < (t223.length : Int)) = false := dF_q c18
           clear c18
           have H' := Ae_q H
           clear H
           obtain ⟨Ao26, co26, eo26⟩ := rS_q HO_10.out
           subst eo26
           go_wp2
           repeat (go_quiet (fail); try go_wp2)
           go_roundg k2
           case measure => have := HK1.out; have := HK2.out; omega
           case rel => exact ⟨(wrap64 (x8_1 + 1)), (by first | rfl | (simp; done) | (simp [*]; done)), H', ⟨by have := HK1.out; have := HK2.out; omega⟩, ⟨by (with_reducible repeat (first | refine bN_q ?_ _ | refine bW_q ?_ | refine bL_q ?_ _)); exact BK218.out⟩, ⟨by repeat (first | (with_reducible first | exact HB.out | apply bA_q | apply pB_q | apply bD_q | refine bS_q ?_ GE218.out) | exact HB.out)⟩⟩
        rw [if_neg c11] at H
        have c11b0 : decide (x8_1 < (wrap64 ((rd l2 ji4) + ((rd_T31 l0 ji4).f0)))) = false := dF_q c11
        clear c11
        obtain rfl := oI_q H
        have p220 : 0 ≤ (ji4 : Int) := oD_q (by assumption)
        have q220 : ji4 < (l2.length : Int) := oD_q (by assumption)
        obtain ⟨ad220, e220, hx220_0⟩ := aI_q HR2.out ji4 p220 q220
        obtain rfl : ad219 = ad220 := (by injection e220)
        replace hx220_0 := (HB.out.cell (wL_q w _ hx220_0)).trans hx220_0
        replace p220 := eq_true p220
        replace q220 := eq_true q220
        have p221 : 0 ≤ (ji4 : Int) := oD_q (by assumption)
        have q221 : ji4 < (l0.length : Int) := oD_q (by assumption)
        obtain ⟨ad221, A221_3, c221_3, e221, hx221_0, hx221_1, hx221_2, hx221_3, hl221_3, hi221_3⟩ := at_T31 HR0.out ji4 p221 q221
        cases e221
        replace hx221_0 := (HB.out.cell (wL_q w _ hx221_0)).trans hx221_0
        replace hx221_1 := (HB.out.cell (wL_q w _ hx221_1)).trans hx221_1
        replace hx221_2 := (HB.out.cell (wL_q w _ hx221_2)).trans hx221_2
        replace hx221_3 := (HB.out.cell (wL_q w _ hx221_3)).trans hx221_3
        have HR221_3 := Ae_q hi221_3
        have HC221_3 := Ae_q hl221_3
        clear hi221_3 hl221_3
        replace p221 := eq_true p221
        replace q221 := eq_true q221
        go_wp2
        repeat (go_quiet (fail); try go_wp2)
        go_ret
        exact ⟨by first | rfl | (simp [eN_q, eS_q] <;> rfl) | (simp only [← hji4]; first | rfl | (simp [eN_q, eS_q] <;> rfl)) | (simp [*, eN_q, eS_q] <;> rfl), by repeat (first | (with_reducible first | exact HB.out | apply bA_q | apply pB_q | apply bD_q | refine bS_q ?_ GE218.out) | exact HB.out)⟩
       rw [if_neg c10] at H
       exact absurd H (by simp)
      rw [if_neg c9] at H
      exact absurd H (by simp)
     rw [if_neg c8] at H
     exact absurd H (by simp)
  rw [if_neg c6] at H
  exact absurd H (by simp)
 rw [if_neg c5] at H
 exact absurd H (by simp)

end Go.Proofs.Ytoaigcdoblnmhaa.PPn
