import Derived.Test.YtnhenfmegpjigaaVBPEvx0
import Derived.Test.YtnhenfmegpjigaaVBPEvx1
import Derived.Test.YtnhenfmegpjigaaVBPEvx3
import Derived.Test.YtnhenfmegpjigaaVBPEvx5
import Derived.Test.YtnhenfmegpjigaaVBPEvx6
namespace Go.Proofs.Ytnhenfmegpjigaa.PEv
open Go.RowKit Go.Proofs.YtnhenfmegpjigaaW.PrintWords Go.Proofs.YtnhenfmegpjigaaW.PrintLast Go.Proofs.YtnhenfmegpjigaaW.PrintMore
attribute [local go_sem] max2_int min2_int max_two min_two max_three min_three max_four min_four
set_option linter.unusedVariables false
set_option linter.unusedSimpArgs false

def spec_DrawWatchServed.f (k : Nat) (l0 : List Int) : Option ((List (S27)) × Int) := (spec_l6Open.f l0).bind fun bt260 => ((spec_l92Events.f k bt260.1 bt260.2).bind fun bt263 => ((spec_l6Rd_pick.f k bt260.1 bt263.2 10).bind fun bt267 => (some (bt263.1, bt267.1))))
theorem spec_DrawWatchServed.mono : ∀ a0 k, LeO (spec_DrawWatchServed.f k a0) (spec_DrawWatchServed.f (k + 1) a0) := by
 intro a0 k
 unfold spec_DrawWatchServed.f
 repeat' first
  | (with_reducible exact spec_l6Rd_pick.mono _ _ _ _)
  | (with_reducible exact spec_l92Events.mono _ _ _)
  | (with_reducible exact lR_q _)
  | (with_reducible exact lO_q _)
  | (with_reducible refine lI_q ?_ ?_)
  | (with_reducible refine lB_q ?_ (fun _ => ?_))
  | exact spec_l6Rd_pick.mono _ _ _ _
  | exact spec_l92Events.mono _ _ _
  | exact lO_q _
  | refine lI_q ?_ ?_
  | refine lB_q ?_ (fun _ => ?_)
set_option maxHeartbeats 8000000 in
set_option maxRecDepth 100000 in
theorem spec_DrawWatchServed.calls (k : Nat) (A0 : Option Addr) (c0 : Nat) (l0 : List Int) (r1 : List (S27)) (r2 : Int) (w : World) (hr0 : Kd.C (Kd.int .u8) w A0 l0.length l0) (hc0 : l0.length ≤ c0) (h : spec_DrawWatchServed.f k l0 = some (r1, r2)) :
    Calls Try.prog 21 #[.slice A0 l0.length c0] w fun e w' => ∃ v0_ : Value, e = .returned (.tuple #[v0_, .int .i64 r2]) ∧ Kd.R k27 27 w' w.heap.size (fun _ => True) v0_ r1 ∧ Below w.heap.size w w' := by
 have HR0 := Ae_q hr0
 have HC0 := Ae_q hc0
 clear hr0 hc0
 have HB := Ae_q (bR_q w.heap.size w)
 have H : ((spec_l6Open.f l0).bind fun bt260 => ((spec_l92Events.f k bt260.1 bt260.2).bind fun bt263 => ((spec_l6Rd_pick.f k bt260.1 bt263.2 10).bind fun bt267 => (some (bt263.1, bt267.1))))) = some (r1, r2) := h
 clear h
 replace H := oB_q.mp H
 obtain ⟨⟨t260, t261⟩, A20, H⟩ := H
 replace H : ((spec_l92Events.f k t260 t261).bind fun bt263 => ((spec_l6Rd_pick.f k t260 bt263.2 10).bind fun bt267 => (some (bt263.1, bt267.1)))) = some (r1, r2) := H
 have A2 := Ae_q A20
 clear A20
 replace H := oB_q.mp H
 obtain ⟨⟨t263, t266⟩, A30, H⟩ := H
 replace H : ((spec_l6Rd_pick.f k t260 t266 10).bind fun bt267 => (some (t263, bt267.1))) = some (r1, r2) := H
 have A3 := Ae_q A30
 clear A30
 replace H := oB_q.mp H
 obtain ⟨⟨t267, t268⟩, A40, H⟩ := H
 replace H : (some (t263, t267)) = some (r1, r2) := H
 have A4 := Ae_q A40
 clear A40
 simp only [oE_q, pE_q] at H
 obtain ⟨rfl, rfl⟩ := H
 go_enter Try.func21, Try.ntmps21
 go_wp2_with (first | ((with_reducible refine gC_q (f := 43) rfl ?_); refine gL_q (some 7) rfl rfl Try.func43 (by kernel_rfl) rfl #[.slice A0 l0.length c0] rfl (by (try simp only [lM_q, lC_q, lN_q]); first | done | rfl | (simp only [lD_q, lT_q]; rfl)) ?_; (with_reducible refine (spec_l6Open.calls _ _ l0 t260 t261 w _ ?side1 ?side2 ?side3 A2.out).mono ?_); (case side1 => repeat (with_reducible first | exact HB.out | apply bA_q | apply pB_q | apply bD_q)); (case side2 => exact HR0.out); (case side3 => exact HC0.out); rintro e w5 ⟨g262, rfl, hi, hb, hb2⟩; refine ⟨_, rfl, ?_⟩; have n0_ := Ae_q (hb); have n1_ := Ae_q (hi); clear HB; have HB := n0_; have HI262 := n1_; clear n0_ n1_; (try clear hb); (try clear hb2); (try clear hk); (try clear hi)) | ((with_reducible refine gC_q (f := 42) rfl ?_); refine gL_q (some 9) rfl rfl Try.func42 (by kernel_rfl) rfl #[.pointer (some ⟨g262, 0, none⟩)] rfl (by (try simp only [lM_q, lC_q, lN_q]); first | done | rfl | (simp only [lD_q, lT_q]; rfl)) ?_; (with_reducible refine (spec_l92Events.calls k g262 t260 t261 t263 t266 w _ ?side1 ?side2 A3.out).mono ?_); (case side1 => repeat (with_reducible first | exact HI262.out | apply i2_q | apply i1_q | apply i0_q | apply i3_q)); (case side2 => repeat (with_reducible first | exact HB.out | apply bA_q | apply pB_q | apply bD_q | refine bS_q ?_ (i5_q HI262.out))); rintro e w6 ⟨v264, rfl, ho0, hi, hb, hk⟩; refine ⟨_, rfl, ?_⟩; have n0_ := Ae_q (rL_q ho0 (bZ_q (by repeat (with_reducible first | exact HB.out | apply bA_q | apply pB_q | apply bD_q | refine bS_q ?_ (i5_q HI262.out))))); have n1_ := Ae_q (hb); have n2_ := Ae_q (hi); clear HB; clear HI262; have HO265 := n0_; have HB := n1_; have HI262 := n2_; clear n0_ n1_ n2_; (try clear hb); (try clear hb2); (try clear hk); (try clear hi); (try clear ho0)) | ((with_reducible refine gC_q (f := 49) rfl ?_); refine gL_q (some 12) rfl rfl Try.func49 (by kernel_rfl) rfl #[.pointer (some ⟨g262, 0, none⟩), .int .i64 10] rfl (by (try simp only [lM_q, lC_q, lN_q]); first | done | rfl | (simp only [lD_q, lT_q]; rfl)) ?_; (with_reducible refine (spec_l6Rd_pick.calls k g262 t260 t266 10 t267 t268 w _ ?side1 ?side2 A4.out).mono ?_); (case side1 => repeat (with_reducible first | exact HI262.out | apply i2_q | apply i1_q | apply i0_q | apply i3_q)); (case side2 => repeat (with_reducible first | exact HB.out | apply bA_q | apply pB_q | apply bD_q | refine bS_q ?_ (i5_q HI262.out))); rintro e w7 ⟨rfl, hi, hb, hk⟩; refine ⟨_, rfl, ?_⟩; have n0_ := Ae_q (rM_q (rK_q (i6_q (show IsS81 w _ g262 t260 t266 from by repeat (with_reducible first | exact HI262.out | apply i2_q | apply i1_q | apply i0_q | apply i3_q)) (rup HO265.out) (by decide)) hk (fun _ h => h.2)) (fun _ h => h.1)); have n1_ := Ae_q (hb); have n2_ := Ae_q (hi); clear HO265; clear HB; clear HI262; have HO265 := n0_; have HB := n1_; have HI262 := n2_; clear n0_ n1_ n2_; (try clear hb); (try clear hb2); (try clear hk); (try clear hi)))
 go_ret2
 exact ⟨_, by first | rfl | (simp [eN_q, eS_q] <;> rfl) | (simp [*, eN_q, eS_q] <;> rfl), by (with_reducible repeat (first | apply rA_q | apply rN_q | apply rD_q)); exact HO265.out, by repeat (with_reducible first | exact HB.out | apply bA_q | apply pB_q | apply bD_q | refine bS_q ?_ (i5_q HI262.out))⟩

def impl_WatchServed.l0 : Nat → Int → List Int → List (S27) → Int → Int → Option (List Int)
 | 0, _, _, _, _, _ => none
 | k + 1, x1, x5, x13, x14, x15 => if x15 < x14 then (if 0 ≤ x15 then (if x15 < (x13.length : Int) then (if ((rd_T27 x13 x15).f0) = 2 then (if ((rd_T27 x13 x15).f3) = x1 then (if x5.length < 17592186044416 then (impl_WatchServed.l0 k x1 (x5 ++ [(rd_T27 x13 x15).f2]) x13 x14 (wrap64 (x15 + 1))) else (none)) else (impl_WatchServed.l0 k x1 x5 x13 x14 (wrap64 (x15 + 1)))) else (impl_WatchServed.l0 k x1 x5 x13 x14 (wrap64 (x15 + 1)))) else (none)) else (none)) else (some x5)
def impl_WatchServed.f (k : Nat) (l0 : List (S27)) (a1 : Int) : Option (List Int) := (some (([] : List Int) : List Int)).bind fun y269 => ((impl_EventsValid.f k l0).bind fun t272 => (if t272 = true then (impl_WatchServed.l0 k a1 y269 l0 (l0.length : Int) 0) else (some y269)))
theorem impl_WatchServed.mono_l : ∀ k, (∀ y0 y1 y2 y3 y4, LeO (impl_WatchServed.l0 k y0 y1 y2 y3 y4) (impl_WatchServed.l0 (k + 1) y0 y1 y2 y3 y4))
 | 0 => fun _ _ _ _ _ r h => by simp [impl_WatchServed.l0] at h
 | k + 1 => by
  have ih0 := impl_WatchServed.mono_l k
  intro y0 y1 y2 y3 y4
  unfold impl_WatchServed.l0
  repeat' first
  | (with_reducible exact ih0 _ _ _ _ _)
  | (with_reducible exact impl_EventsValid.mono _ _)
  | (with_reducible exact lR_q _)
  | (with_reducible exact lO_q _)
  | (with_reducible refine lI_q ?_ ?_)
  | (with_reducible refine lB_q ?_ (fun _ => ?_))
  | exact ih0 _ _ _ _ _
  | exact impl_EventsValid.mono _ _
  | exact lO_q _
  | refine lI_q ?_ ?_
  | refine lB_q ?_ (fun _ => ?_)
theorem impl_WatchServed.mono : ∀ a0 a1 k, LeO (impl_WatchServed.f k a0 a1) (impl_WatchServed.f (k + 1) a0 a1) := by
 intro a0 a1 k
 have ih0 := impl_WatchServed.mono_l k
 unfold impl_WatchServed.f
 repeat' first
  | (with_reducible exact ih0 _ _ _ _ _)
  | (with_reducible exact impl_EventsValid.mono _ _)
  | (with_reducible exact lR_q _)
  | (with_reducible exact lO_q _)
  | (with_reducible refine lI_q ?_ ?_)
  | (with_reducible refine lB_q ?_ (fun _ => ?_))
  | exact ih0 _ _ _ _ _
  | exact impl_EventsValid.mono _ _
  | exact lO_q _
  | refine lI_q ?_ ?_
  | refine lB_q ?_ (fun _ => ?_)
set_option maxHeartbeats 8000000 in
set_option maxRecDepth 100000 in
theorem impl_WatchServed.calls (k : Nat) (A0 : Option Addr) (c0 : Nat) (l0 : List (S27)) (a1 : Int) (r : List Int) (w : World) (hr0 : Kd.C k27 w A0 l0.length l0) (hc0 : l0.length ≤ c0) (h : impl_WatchServed.f k l0 a1 = some r) :
    Calls Try.prog 22 #[.slice A0 l0.length c0, .int .i64 a1] w fun e w' => ∃ v0_ : Value, e = .returned (v0_) ∧ Kd.R kI_q 3 w' w.heap.size (fun _ => True) v0_ r ∧ Below w.heap.size w w' := by
 have hu27 := Try.underlying27
 have HR0 := Ae_q hr0
 have HC0 := Ae_q hc0
 clear hr0 hc0
 have HB := Ae_q (bR_q w.heap.size w)
 have H : ((some (([] : List Int) : List Int)).bind fun y269 => ((impl_EventsValid.f k l0).bind fun t272 => (if t272 = true then (impl_WatchServed.l0 k a1 y269 l0 (l0.length : Int) 0) else (some y269)))) = some r := h
 clear h
 obtain ⟨y269, hy269⟩ : ∃ y_ : List Int, y_ = (([] : List Int)) := ⟨_, rfl⟩
 replace H : ((impl_EventsValid.f k l0).bind fun t272 => (if t272 = true then (impl_WatchServed.l0 k a1 y269 l0 (l0.length : Int) 0) else (some y269))) = some r := by first | (rw [hy269]; with_reducible exact H) | (have H2_ := (oS_q _ _).symm.trans H; rw [hy269]; with_reducible exact H2_) | (have H2_ := (oS_q _ _).symm.trans H; with_reducible exact H2_) | with_reducible exact H | (rw [hy269]; exact H) | exact H
 have Ny269 := Ae_q hy269
 clear hy269
 replace H := oB_q.mp H
 obtain ⟨t272, A30, H⟩ := H
 replace H : (if t272 = true then (impl_WatchServed.l0 k a1 y269 l0 (l0.length : Int) 0) else (some y269)) = some r := H
 have A3 := Ae_q A30
 clear A30
 by_cases c4 : t272 = true
 ·subst c4
  have H1 : (impl_WatchServed.l0 k a1 y269 l0 (l0.length : Int) 0) = some r := by rw [if_pos rfl] at H; exact H
  clear H
  have H := H1
  clear H1
  have H' := Ae_q H
  clear H
  go_enter Try.func22, Try.ntmps22
  go_wp2_with (first | ((with_reducible refine gD_q (N := 8) rfl ?_); refine Kd.R_lit kI_q _ 3 ?hg (N := 8) ?hd (xs := ([] : List Int)) (inner := []) (ok := fun _ => True) (okp := fun _ => True) ?hr ?hp (fun _ hk => hk) trivial (bR_q _ _) (nR_q _) (by simp) ?_; (case hd => rfl); (case hg => rfl); (case hr => first | (go_simp; done) | (go_simp; rfl)); (case hp => exact (Reps.none _ _)); intro v270 w5 ho6 hb hg_ hnew_; clear hg_ hnew_; (first | rw [← Ny269.out] at ho6 | (simp only [Int.reduceToNat] at ho6; rw [← Ny269.out] at ho6)); have n0_ := Ae_q (rL_q ho6 (bZ_q (bel HB.out))); have n1_ := Ae_q (bT_q (bel HB.out) hb); clear HB; have HO271 := n0_; have HB := n1_; clear n0_ n1_; clear hb ho6) | ((with_reducible refine gC_q (f := 16) rfl ?_); refine gL_q (some 10) rfl rfl Try.func16 (by kernel_rfl) rfl #[.slice A0 l0.length c0] rfl (by (try simp only [lM_q, lC_q, lN_q]); first | done | rfl | (simp only [lD_q, lT_q]; rfl)) ?_; (with_reducible refine (impl_EventsValid.calls k _ _ l0 true _ ?side1 ?side2 A3.out).mono ?_); (case side1 => exact cup (cB_q HR0.out HB.out)); (case side2 => exact HC0.out); rintro e w7 ⟨rfl, hb⟩; refine ⟨_, rfl, ?_⟩; have n0_ := Ae_q (rO_q (rup HO271.out) hb); have n1_ := Ae_q (bT_q (bel HB.out) hb); clear HO271; clear HB; have HO271 := n0_; have HB := n1_; clear n0_ n1_; (try clear hb); (try clear hb2); (try clear hk); (try clear hi)))
  go_loopg [5, 15] k (fun kq v5 v15 w' => ∃ (x5_1 : List Int) (x15_1 : Int), v15 = .int .i64 x15_1 ∧ Aside0 (impl_WatchServed.l0 kq a1 x5_1 l0 (l0.length : Int) x15_1 = some r) ∧ Aside0 (kq ≤ k) ∧ Aside0 (Kd.R kI_q 3 w' w.heap.size (fun _ => True) v5 x5_1) ∧ Aside0 (Below w.heap.size w w'))
  case atStart => exact ⟨(y269), (0), (by first | rfl | (simp; done) | (simp [*]; done)), H', ⟨nR_q _⟩, ⟨by (with_reducible repeat (first | apply rA_q | apply rN_q | apply rD_q)); exact HO271.out⟩, ⟨bel HB.out⟩⟩
  case round =>
   clear H'
   try clear c1
   try clear c2
   try clear p2
   try clear c4
   obtain ⟨x5_1, x15_1, rfl, HA, HK1, HO_5, HB⟩ := hrel
   cases gk with
   | zero => exact absurd HA.out (by simp [impl_WatchServed.l0])
   | succ k1 =>
    have H := HA.out
    clear HA
    simp only [impl_WatchServed.l0] at H
    by_cases c8 : x15_1 < (l0.length : Int)
    ·rw [if_pos c8] at H
     have c8b0 : decide (x15_1 < (l0.length : Int)) = true := dT_q c8
     clear c8
     by_cases c9 : 0 ≤ x15_1
     ·rw [if_pos c9] at H
      have c9b0 : decide (0 ≤ x15_1) = true := dT_q c9
      clear c9
      by_cases c10 : x15_1 < (l0.length : Int)
      ·rw [if_pos c10] at H
       have c10b0 : decide (x15_1 < (l0.length : Int)) = true := dT_q c10
       clear c10
       by_cases c11 : ((rd_T27 l0 x15_1).f0) = 2
       ·rw [if_pos c11] at H
        have c11b0 : (((rd_T27 l0 x15_1).f0) == 2) = true := beq_iff_eq.mpr c11
        have c11b1 : (((rd_T27 l0 x15_1).f0) != 2) = false := nE_q.mpr c11
        clear c11
        by_cases c12 : ((rd_T27 l0 x15_1).f3) = a1
        ·rw [if_pos c12] at H
         have c12b0 : (((rd_T27 l0 x15_1).f3) == a1) = true := beq_iff_eq.mpr c12
         have c12b1 : (((rd_T27 l0 x15_1).f3) != a1) = false := nE_q.mpr c12
         clear c12
         by_cases c13 : x5_1.length < 17592186044416
         ·rw [if_pos c13] at H
          have LMc13 := Ae_q c13
          clear c13
          obtain ⟨y275, hy275⟩ : ∃ y_ : List Int, y_ = (x5_1 ++ [(rd_T27 l0 x15_1).f2]) := ⟨_, rfl⟩
          replace H : (impl_WatchServed.l0 k1 a1 y275 l0 (l0.length : Int) (wrap64 (x15_1 + 1))) = some r := by first | (rw [hy275]; with_reducible exact H) | (have H2_ := (oS_q _ _).symm.trans H; rw [hy275]; with_reducible exact H2_) | (have H2_ := (oS_q _ _).symm.trans H; with_reducible exact H2_) | with_reducible exact H | (rw [hy275]; exact H) | exact H
          have Ny275 := Ae_q hy275
          clear hy275
          have H' := Ae_q H
          clear H
          have p273 : 0 ≤ (x15_1 : Int) := oD_q (by assumption)
          have q273 : x15_1 < (l0.length : Int) := oD_q (by assumption)
          obtain ⟨ad273, e273, hx273_0, hx273_1, hx273_2, hx273_3, hx273_4, hx273_5⟩ := at_T27 HR0.out x15_1 p273 q273
          cases e273
          replace hx273_0 := cel HB.out hx273_0
          replace hx273_1 := cel HB.out hx273_1
          replace hx273_2 := cel HB.out hx273_2
          replace hx273_3 := cel HB.out hx273_3
          replace hx273_4 := cel HB.out hx273_4
          replace hx273_5 := cel HB.out hx273_5
          replace p273 := eq_true p273
          replace q273 := eq_true q273
          go_wp2_with (first | ((with_reducible refine gD_q (N := 7) rfl ?_); refine bE_q ?hg (N := 7) ?hd (cs := #[.int .i64 0, .int .i64 0, .int .i64 0, .int .i64 0, .int .i64 0, .int .i64 0]) (t := 27) ?hr ?_; (case hd => rfl); (case hg => rfl); (case hr => first | (go_simp; done) | (go_simp; rfl)); intro gb274 hg w14 hbox hb; have n0_ := Ae_q (rO_q (rup HO_5.out) hb); have n1_ := Ae_q (bT_q (bel HB.out) hb); have n2_ := Ae_q (hbox); have n3_ := Ae_q ((by rw [hg]; exact (bZ_q (bel HB.out)) : w.heap.size ≤ gb274)); have n4_ := Ae_q ((by rw [hg]; exact (bZ_q (bel HB.out)) : w.heap.size ≤ gb274)); clear HO_5; clear HB; have HO_5 := n0_; have HB := n1_; have BK274 := n2_; have GW274 := n3_; have GE274 := n4_; clear n0_ n1_ n2_ n3_ n4_; clear hb hbox hg; have hcz15_0 : w14.cell? ⟨gb274, 0, none⟩ = some (.int .i64 0) := (bC_q BK274.out 0).trans rfl; have hcz15_1 : w14.cell? ⟨gb274, 1, none⟩ = some (.int .i64 0) := (bC_q BK274.out 1).trans rfl; have hcz15_2 : w14.cell? ⟨gb274, 2, none⟩ = some (.int .i64 0) := (bC_q BK274.out 2).trans rfl; have hcz15_3 : w14.cell? ⟨gb274, 3, none⟩ = some (.int .i64 0) := (bC_q BK274.out 3).trans rfl; have hcz15_4 : w14.cell? ⟨gb274, 4, none⟩ = some (.int .i64 0) := (bC_q BK274.out 4).trans rfl; have hcz15_5 : w14.cell? ⟨gb274, 5, none⟩ = some (.int .i64 0) := (bC_q BK274.out 5).trans rfl; have hfz15_0 := bF_q BK274.out 0; have hfz15_1 := bF_q BK274.out 1; have hfz15_2 := bF_q BK274.out 2; have hfz15_3 := bF_q BK274.out 3; have hfz15_4 := bF_q BK274.out 4; have hfz15_5 := bF_q BK274.out 5) | ((with_reducible refine gate_builtin (b := .append) (xs := #[.tmp 28, .tmp 31]) rfl ?_); at_builtin; refine Kd.R_append kI_q (w0 := w) w.heap.size rfl (.tmp 28) (.tmp 31) 36 3 (.int .i64 0) 8 rfl Try.underlying36 info3 rfl (by decide) (by omega) u5 x5_1 ((rd_T27 l0 x15_1).f2) [.int .i64 ((rd_T27 l0 x15_1).f2)] (fun _ => True) (fun _ => False) rfl (by first | (go_simp; done) | (go_simp; rfl)) ?aP (fun _ hk => hk.elim) ?aF ?aO ?aB ?aS ?aL ?_; (case aP => exact rfl); (case aB => exact (by repeat (with_reducible first | exact HB.out | apply bA_q | apply pB_q | apply bD_q | refine bS_q ?_ GE274.out))); (case aF => exact (fun _ _ => trivial)); (case aO => exact (by (with_reducible repeat (first | apply rA_q | apply rN_q | apply rD_q)); exact rM_q (Kd.R_far (p := ⟨gb274, 5, none⟩) (Kd.R_far (p := ⟨gb274, 4, none⟩) (Kd.R_far (p := ⟨gb274, 3, none⟩) (Kd.R_far (p := ⟨gb274, 2, none⟩) (Kd.R_far (p := ⟨gb274, 1, none⟩) (Kd.R_far (p := ⟨gb274, 0, none⟩) (Kd.R_types HO_5.out BK274.out (by decide)) (fun _ hk => hk.2) (.int .i64 ((rd_T27 l0 x15_1).f0))) (fun _ hk => hk.2) (.int .i64 ((rd_T27 l0 x15_1).f1))) (fun _ hk => hk.2) (.int .i64 ((rd_T27 l0 x15_1).f2))) (fun _ hk => hk.2) (.int .i64 ((rd_T27 l0 x15_1).f3))) (fun _ hk => hk.2) (.int .i64 ((rd_T27 l0 x15_1).f4))) (fun _ hk => hk.2) (.int .i64 ((rd_T27 l0 x15_1).f5))) (fun _ hk => trivial))); (case aS => exact (bZ_q (by repeat (with_reducible first | exact HB.out | apply bA_q | apply pB_q | apply bD_q | refine bS_q ?_ GE274.out)))); (case aL => have := LMc13.out; omega); intro v276 w16 ho hb hg hat; rw [← Ny275.out] at ho; have n0_ := Ae_q (bG_q (g := gb274) (o := .cells #[.int .i64 ((rd_T27 l0 x15_1).f0), .int .i64 ((rd_T27 l0 x15_1).f1), .int .i64 ((rd_T27 l0 x15_1).f2), .int .i64 ((rd_T27 l0 x15_1).f3), .int .i64 ((rd_T27 l0 x15_1).f4), .int .i64 ((rd_T27 l0 x15_1).f5)] 27 (0, 0)) (by (with_reducible repeat (first | refine bN_q ?_ _ | refine bW_q ?_ | refine bL_q ?_ _)); refine blk_put (cs := #[.int .i64 ((rd_T27 l0 x15_1).f0), .int .i64 ((rd_T27 l0 x15_1).f1), .int .i64 ((rd_T27 l0 x15_1).f2), .int .i64 ((rd_T27 l0 x15_1).f3), .int .i64 ((rd_T27 l0 x15_1).f4), .int .i64 0]) ?_ 5 _ rfl; (with_reducible repeat (first | refine bN_q ?_ _ | refine bW_q ?_ | refine bL_q ?_ _)); refine blk_put (cs := #[.int .i64 ((rd_T27 l0 x15_1).f0), .int .i64 ((rd_T27 l0 x15_1).f1), .int .i64 ((rd_T27 l0 x15_1).f2), .int .i64 ((rd_T27 l0 x15_1).f3), .int .i64 0, .int .i64 0]) ?_ 4 _ rfl; (with_reducible repeat (first | refine bN_q ?_ _ | refine bW_q ?_ | refine bL_q ?_ _)); refine blk_put (cs := #[.int .i64 ((rd_T27 l0 x15_1).f0), .int .i64 ((rd_T27 l0 x15_1).f1), .int .i64 ((rd_T27 l0 x15_1).f2), .int .i64 0, .int .i64 0, .int .i64 0]) ?_ 3 _ rfl; (with_reducible repeat (first | refine bN_q ?_ _ | refine bW_q ?_ | refine bL_q ?_ _)); refine blk_put (cs := #[.int .i64 ((rd_T27 l0 x15_1).f0), .int .i64 ((rd_T27 l0 x15_1).f1), .int .i64 0, .int .i64 0, .int .i64 0, .int .i64 0]) ?_ 2 _ rfl; (with_reducible repeat (first | refine bN_q ?_ _ | refine bW_q ?_ | refine bL_q ?_ _)); refine blk_put (cs := #[.int .i64 ((rd_T27 l0 x15_1).f0), .int .i64 0, .int .i64 0, .int .i64 0, .int .i64 0, .int .i64 0]) ?_ 1 _ rfl; (with_reducible repeat (first | refine bN_q ?_ _ | refine bW_q ?_ | refine bL_q ?_ _)); refine blk_put (cs := #[.int .i64 0, .int .i64 0, .int .i64 0, .int .i64 0, .int .i64 0, .int .i64 0]) ?_ 0 _ rfl; (with_reducible repeat (first | refine bN_q ?_ _ | refine bW_q ?_ | refine bL_q ?_ _)); exact BK274.out) hg (Kd.R_ne HO_5.out BK274.out (by decide))); have n1_ := Ae_q (hb); have n2_ := Ae_q (ho); clear BK274; clear HB; clear HO_5; have BK274 := n0_; have HB := n1_; have HO277 := n2_; clear n0_ n1_ n2_; clear ho hb hg hat))
          go_roundg k1
          case measure => have := HK1.out; omega
          case rel => exact ⟨(y275), (wrap64 (x15_1 + 1)), (by first | rfl | (simp; done) | (simp [*]; done)), H', ⟨by have := HK1.out; omega⟩, ⟨by (with_reducible repeat (first | apply rA_q | apply rN_q | apply rD_q)); exact HO277.out⟩, ⟨by repeat (with_reducible first | exact HB.out | apply bA_q | apply pB_q | apply bD_q | refine bS_q ?_ GE274.out)⟩⟩
         rw [if_neg c13] at H
         exact absurd H (by simp)
        rw [if_neg c12] at H
        have c12b0 : (((rd_T27 l0 x15_1).f3) == a1) = false := fN_q.mpr c12
        have c12b1 : (((rd_T27 l0 x15_1).f3) != a1) = true := nI_q.mpr c12
        have H' := Ae_q H
        clear H
        have p273 : 0 ≤ (x15_1 : Int) := oD_q (by assumption)
        have q273 : x15_1 < (l0.length : Int) := oD_q (by assumption)
        obtain ⟨ad273, e273, hx273_0, hx273_1, hx273_2, hx273_3, hx273_4, hx273_5⟩ := at_T27 HR0.out x15_1 p273 q273
        cases e273
        replace hx273_0 := cel HB.out hx273_0
        replace hx273_1 := cel HB.out hx273_1
        replace hx273_2 := cel HB.out hx273_2
        replace hx273_3 := cel HB.out hx273_3
        replace hx273_4 := cel HB.out hx273_4
        replace hx273_5 := cel HB.out hx273_5
        replace p273 := eq_true p273
        replace q273 := eq_true q273
        go_wp2_with (first | ((with_reducible refine gD_q (N := 7) rfl ?_); refine bE_q ?hg (N := 7) ?hd (cs := #[.int .i64 0, .int .i64 0, .int .i64 0, .int .i64 0, .int .i64 0, .int .i64 0]) (t := 27) ?hr ?_; (case hd => rfl); (case hg => rfl); (case hr => first | (go_simp; done) | (go_simp; rfl)); intro gb274 hg w17 hbox hb; have n0_ := Ae_q (rO_q (rup HO_5.out) hb); have n1_ := Ae_q (bT_q (bel HB.out) hb); have n2_ := Ae_q (hbox); have n3_ := Ae_q ((by rw [hg]; exact (bZ_q (bel HB.out)) : w.heap.size ≤ gb274)); have n4_ := Ae_q ((by rw [hg]; exact (bZ_q (bel HB.out)) : w.heap.size ≤ gb274)); clear HO_5; clear HB; have HO_5 := n0_; have HB := n1_; have BK274 := n2_; have GW274 := n3_; have GE274 := n4_; clear n0_ n1_ n2_ n3_ n4_; clear hb hbox hg; have hcz18_0 : w17.cell? ⟨gb274, 0, none⟩ = some (.int .i64 0) := (bC_q BK274.out 0).trans rfl; have hcz18_1 : w17.cell? ⟨gb274, 1, none⟩ = some (.int .i64 0) := (bC_q BK274.out 1).trans rfl; have hcz18_2 : w17.cell? ⟨gb274, 2, none⟩ = some (.int .i64 0) := (bC_q BK274.out 2).trans rfl; have hcz18_3 : w17.cell? ⟨gb274, 3, none⟩ = some (.int .i64 0) := (bC_q BK274.out 3).trans rfl; have hcz18_4 : w17.cell? ⟨gb274, 4, none⟩ = some (.int .i64 0) := (bC_q BK274.out 4).trans rfl; have hcz18_5 : w17.cell? ⟨gb274, 5, none⟩ = some (.int .i64 0) := (bC_q BK274.out 5).trans rfl; have hfz18_0 := bF_q BK274.out 0; have hfz18_1 := bF_q BK274.out 1; have hfz18_2 := bF_q BK274.out 2; have hfz18_3 := bF_q BK274.out 3; have hfz18_4 := bF_q BK274.out 4; have hfz18_5 := bF_q BK274.out 5))
        go_roundg k1
        case measure => have := HK1.out; omega
        case rel => exact ⟨(x5_1), (wrap64 (x15_1 + 1)), (by first | rfl | (simp; done) | (simp [*]; done)), H', ⟨by have := HK1.out; omega⟩, ⟨by (with_reducible repeat (first | apply rA_q | apply rN_q | apply rD_q)); exact rM_q (Kd.R_far (p := ⟨gb274, 5, none⟩) (Kd.R_far (p := ⟨gb274, 4, none⟩) (Kd.R_far (p := ⟨gb274, 3, none⟩) (Kd.R_far (p := ⟨gb274, 2, none⟩) (Kd.R_far (p := ⟨gb274, 1, none⟩) (Kd.R_far (p := ⟨gb274, 0, none⟩) (Kd.R_types HO_5.out BK274.out (by decide)) (fun _ hk => hk.2) (.int .i64 ((rd_T27 l0 x15_1).f0))) (fun _ hk => hk.2) (.int .i64 ((rd_T27 l0 x15_1).f1))) (fun _ hk => hk.2) (.int .i64 ((rd_T27 l0 x15_1).f2))) (fun _ hk => hk.2) (.int .i64 ((rd_T27 l0 x15_1).f3))) (fun _ hk => hk.2) (.int .i64 ((rd_T27 l0 x15_1).f4))) (fun _ hk => hk.2) (.int .i64 ((rd_T27 l0 x15_1).f5))) (fun _ hk => trivial)⟩, ⟨by repeat (with_reducible first | exact HB.out | apply bA_q | apply pB_q | apply bD_q | refine bS_q ?_ GE274.out)⟩⟩
       rw [if_neg c11] at H
       have c11b0 : (((rd_T27 l0 x15_1).f0) == 2) = false := fN_q.mpr c11
       have c11b1 : (((rd_T27 l0 x15_1).f0) != 2) = true := nI_q.mpr c11
       have H' := Ae_q H
       clear H
       have p273 : 0 ≤ (x15_1 : Int) := oD_q (by assumption)
       have q273 : x15_1 < (l0.length : Int) := oD_q (by assumption)
       obtain ⟨ad273, e273, hx273_0, hx273_1, hx273_2, hx273_3, hx273_4, hx273_5⟩ := at_T27 HR0.out x15_1 p273 q273
       cases e273
       replace hx273_0 := cel HB.out hx273_0
       replace hx273_1 := cel HB.out hx273_1
       replace hx273_2 := cel HB.out hx273_2
       replace hx273_3 := cel HB.out hx273_3
       replace hx273_4 := cel HB.out hx273_4
       replace hx273_5 := cel HB.out hx273_5
       replace p273 := eq_true p273
       replace q273 := eq_true q273
       go_wp2_with (first | ((with_reducible refine gD_q (N := 7) rfl ?_); refine bE_q ?hg (N := 7) ?hd (cs := #[.int .i64 0, .int .i64 0, .int .i64 0, .int .i64 0, .int .i64 0, .int .i64 0]) (t := 27) ?hr ?_; (case hd => rfl); (case hg => rfl); (case hr => first | (go_simp; done) | (go_simp; rfl)); intro gb274 hg w19 hbox hb; have n0_ := Ae_q (rO_q (rup HO_5.out) hb); have n1_ := Ae_q (bT_q (bel HB.out) hb); have n2_ := Ae_q (hbox); have n3_ := Ae_q ((by rw [hg]; exact (bZ_q (bel HB.out)) : w.heap.size ≤ gb274)); have n4_ := Ae_q ((by rw [hg]; exact (bZ_q (bel HB.out)) : w.heap.size ≤ gb274)); clear HO_5; clear HB; have HO_5 := n0_; have HB := n1_; have BK274 := n2_; have GW274 := n3_; have GE274 := n4_; clear n0_ n1_ n2_ n3_ n4_; clear hb hbox hg; have hcz20_0 : w19.cell? ⟨gb274, 0, none⟩ = some (.int .i64 0) := (bC_q BK274.out 0).trans rfl; have hcz20_1 : w19.cell? ⟨gb274, 1, none⟩ = some (.int .i64 0) := (bC_q BK274.out 1).trans rfl; have hcz20_2 : w19.cell? ⟨gb274, 2, none⟩ = some (.int .i64 0) := (bC_q BK274.out 2).trans rfl; have hcz20_3 : w19.cell? ⟨gb274, 3, none⟩ = some (.int .i64 0) := (bC_q BK274.out 3).trans rfl; have hcz20_4 : w19.cell? ⟨gb274, 4, none⟩ = some (.int .i64 0) := (bC_q BK274.out 4).trans rfl; have hcz20_5 : w19.cell? ⟨gb274, 5, none⟩ = some (.int .i64 0) := (bC_q BK274.out 5).trans rfl; have hfz20_0 := bF_q BK274.out 0; have hfz20_1 := bF_q BK274.out 1; have hfz20_2 := bF_q BK274.out 2; have hfz20_3 := bF_q BK274.out 3; have hfz20_4 := bF_q BK274.out 4; have hfz20_5 := bF_q BK274.out 5))
       go_roundg k1
       case measure => have := HK1.out; omega
       case rel => exact ⟨(x5_1), (wrap64 (x15_1 + 1)), (by first | rfl | (simp; done) | (simp [*]; done)), H', ⟨by have := HK1.out; omega⟩, ⟨by (with_reducible repeat (first | apply rA_q | apply rN_q | apply rD_q)); exact rM_q (Kd.R_far (p := ⟨gb274, 5, none⟩) (Kd.R_far (p := ⟨gb274, 4, none⟩) (Kd.R_far (p := ⟨gb274, 3, none⟩) (Kd.R_far (p := ⟨gb274, 2, none⟩) (Kd.R_far (p := ⟨gb274, 1, none⟩) (Kd.R_far (p := ⟨gb274, 0, none⟩) (Kd.R_types HO_5.out BK274.out (by decide)) (fun _ hk => hk.2) (.int .i64 ((rd_T27 l0 x15_1).f0))) (fun _ hk => hk.2) (.int .i64 ((rd_T27 l0 x15_1).f1))) (fun _ hk => hk.2) (.int .i64 ((rd_T27 l0 x15_1).f2))) (fun _ hk => hk.2) (.int .i64 ((rd_T27 l0 x15_1).f3))) (fun _ hk => hk.2) (.int .i64 ((rd_T27 l0 x15_1).f4))) (fun _ hk => hk.2) (.int .i64 ((rd_T27 l0 x15_1).f5))) (fun _ hk => trivial)⟩, ⟨by repeat (with_reducible first | exact HB.out | apply bA_q | apply pB_q | apply bD_q | refine bS_q ?_ GE274.out)⟩⟩
      rw [if_neg c10] at H
      exact absurd H (by simp)
     rw [if_neg c9] at H
     exact absurd H (by simp)
    rw [if_neg c8] at H
    have c8b0 : decide (x15_1 < (l0.length : Int)) = false := dF_q c8
    clear c8
    obtain rfl := oI_q H
    go_wp2
    go_ret
    exact ⟨_, by first | rfl | (simp [eN_q, eS_q] <;> rfl) | (simp [*, eN_q, eS_q] <;> rfl), by (with_reducible repeat (first | apply rA_q | apply rN_q | apply rD_q)); exact HO_5.out, bel HB.out⟩
 replace c4 := fM_q.mpr c4
 subst c4
 have H1 : (some y269) = some r := by rw [if_neg (show ¬ (false = true) by decide)] at H; exact H
 clear H
 have H := H1
 clear H1
 obtain rfl := oI_q H
 go_enter Try.func22, Try.ntmps22
 go_wp2_with (first | ((with_reducible refine gD_q (N := 8) rfl ?_); refine Kd.R_lit kI_q _ 3 ?hg (N := 8) ?hd (xs := ([] : List Int)) (inner := []) (ok := fun _ => True) (okp := fun _ => True) ?hr ?hp (fun _ hk => hk) trivial (bR_q _ _) (nR_q _) (by simp) ?_; (case hd => rfl); (case hg => rfl); (case hr => first | (go_simp; done) | (go_simp; rfl)); (case hp => exact (Reps.none _ _)); intro v270 w21 ho22 hb hg_ hnew_; clear hg_ hnew_; (first | rw [← Ny269.out] at ho22 | (simp only [Int.reduceToNat] at ho22; rw [← Ny269.out] at ho22)); have n0_ := Ae_q (rL_q ho22 (bZ_q (bel HB.out))); have n1_ := Ae_q (bT_q (bel HB.out) hb); clear HB; have HO271 := n0_; have HB := n1_; clear n0_ n1_; clear hb ho22) | ((with_reducible refine gC_q (f := 16) rfl ?_); refine gL_q (some 10) rfl rfl Try.func16 (by kernel_rfl) rfl #[.slice A0 l0.length c0] rfl (by (try simp only [lM_q, lC_q, lN_q]); first | done | rfl | (simp only [lD_q, lT_q]; rfl)) ?_; (with_reducible refine (impl_EventsValid.calls k _ _ l0 false _ ?side1 ?side2 A3.out).mono ?_); (case side1 => exact cup (cB_q HR0.out HB.out)); (case side2 => exact HC0.out); rintro e w23 ⟨rfl, hb⟩; refine ⟨_, rfl, ?_⟩; have n0_ := Ae_q (rO_q (rup HO271.out) hb); have n1_ := Ae_q (bT_q (bel HB.out) hb); clear HO271; clear HB; have HO271 := n0_; have HB := n1_; clear n0_ n1_; (try clear hb); (try clear hb2); (try clear hk); (try clear hi)))
 go_ret
 exact ⟨_, by first | rfl | (simp [eN_q, eS_q] <;> rfl) | (simp [*, eN_q, eS_q] <;> rfl), by (with_reducible repeat (first | apply rA_q | apply rN_q | apply rD_q)); exact HO271.out, bel HB.out⟩

mutual
def spec_WatchServed.l0 : Nat → List (S27) → Int → List Int → Int → Option (List Int)
 | 0, _, _, _, _ => none
 | k + 1, x0, x1, x5, x6 => if x6 < (x0.length : Int) then ((spec_EventsValid.f k x0).bind fun t281 => (spec_WatchServed.j1 k x0 x1 x5 x6 t281)) else (spec_WatchServed.j1 k x0 x1 x5 x6 false)
def spec_WatchServed.j1 : Nat → List (S27) → Int → List Int → Int → Bool → Option (List Int)
 | 0, _, _, _, _, _ => none
 | k + 1, x0, x1, x5, x6, x15 => if x15 = true then (if 0 ≤ x6 then (if x6 < (x0.length : Int) then (if ((rd_T27 x0 x6).f0) = 2 then (if ((rd_T27 x0 x6).f3) = x1 then (if x5.length < 17592186044416 then (spec_WatchServed.l0 k x0 x1 (x5 ++ [(rd_T27 x0 x6).f2]) (wrap64 (x6 + 1))) else (none)) else (spec_WatchServed.l0 k x0 x1 x5 (wrap64 (x6 + 1)))) else (spec_WatchServed.l0 k x0 x1 x5 (wrap64 (x6 + 1)))) else (none)) else (none)) else (some x5)
end
def spec_WatchServed.f (k : Nat) (l0 : List (S27)) (a1 : Int) : Option (List Int) := spec_WatchServed.l0 k l0 a1 (([] : List Int)) 0
theorem spec_WatchServed.mono_l : ∀ k, (∀ y0 y1 y2 y3, LeO (spec_WatchServed.l0 k y0 y1 y2 y3) (spec_WatchServed.l0 (k + 1) y0 y1 y2 y3)) ∧ (∀ y0 y1 y2 y3 y4, LeO (spec_WatchServed.j1 k y0 y1 y2 y3 y4) (spec_WatchServed.j1 (k + 1) y0 y1 y2 y3 y4))
 | 0 => ⟨fun _ _ _ _ r h => by simp [spec_WatchServed.l0] at h, fun _ _ _ _ _ r h => by simp [spec_WatchServed.j1] at h⟩
 | k + 1 => by
  obtain ⟨ih0, ih1⟩ := spec_WatchServed.mono_l k
  refine ⟨?_, ?_⟩
  ·intro y0 y1 y2 y3
   unfold spec_WatchServed.l0
   repeat' first
   | (with_reducible exact ih0 _ _ _ _)
   | (with_reducible exact ih1 _ _ _ _ _)
   | (with_reducible exact spec_EventsValid.mono _ _)
   | (with_reducible exact lR_q _)
   | (with_reducible exact lO_q _)
   | (with_reducible refine lI_q ?_ ?_)
   | (with_reducible refine lB_q ?_ (fun _ => ?_))
   | exact ih0 _ _ _ _
   | exact ih1 _ _ _ _ _
   | exact spec_EventsValid.mono _ _
   | exact lO_q _
   | refine lI_q ?_ ?_
   | refine lB_q ?_ (fun _ => ?_)
  intro y0 y1 y2 y3 y4
  unfold spec_WatchServed.j1
  repeat' first
  | (with_reducible exact ih0 _ _ _ _)
  | (with_reducible exact ih1 _ _ _ _ _)
  | (with_reducible exact spec_EventsValid.mono _ _)
  | (with_reducible exact lR_q _)
  | (with_reducible exact lO_q _)
  | (with_reducible refine lI_q ?_ ?_)
  | (with_reducible refine lB_q ?_ (fun _ => ?_))
  | exact ih0 _ _ _ _
  | exact ih1 _ _ _ _ _
  | exact spec_EventsValid.mono _ _
  | exact lO_q _
  | refine lI_q ?_ ?_
  | refine lB_q ?_ (fun _ => ?_)
theorem spec_WatchServed.mono : ∀ a0 a1 k, LeO (spec_WatchServed.f k a0 a1) (spec_WatchServed.f (k + 1) a0 a1) := by
 intro a0 a1 k
 obtain ⟨ih0, ih1⟩ := spec_WatchServed.mono_l k
 unfold spec_WatchServed.f
 repeat' first
  | (with_reducible exact ih0 _ _ _ _)
  | (with_reducible exact ih1 _ _ _ _ _)
  | (with_reducible exact spec_EventsValid.mono _ _)
  | (with_reducible exact lR_q _)
  | (with_reducible exact lO_q _)
  | (with_reducible refine lI_q ?_ ?_)
  | (with_reducible refine lB_q ?_ (fun _ => ?_))
  | exact ih0 _ _ _ _
  | exact ih1 _ _ _ _ _
  | exact spec_EventsValid.mono _ _
  | exact lO_q _
  | refine lI_q ?_ ?_
  | refine lB_q ?_ (fun _ => ?_)
set_option maxHeartbeats 8000000 in
set_option maxRecDepth 100000 in
theorem spec_WatchServed.calls (k : Nat) (A0 : Option Addr) (c0 : Nat) (l0 : List (S27)) (a1 : Int) (r : List Int) (w : World) (hr0 : Kd.C k27 w A0 l0.length l0) (hc0 : l0.length ≤ c0) (h : spec_WatchServed.f k l0 a1 = some r) :
    Calls Try.prog 23 #[.slice A0 l0.length c0, .int .i64 a1] w fun e w' => ∃ v0_ : Value, e = .returned (v0_) ∧ Kd.R kI_q 3 w' w.heap.size (fun _ => True) v0_ r ∧ Below w.heap.size w w' := by
 have HR0 := Ae_q hr0
 have HC0 := Ae_q hc0
 clear hr0 hc0
 have HB := Ae_q (bR_q w.heap.size w)
 have H : (spec_WatchServed.l0 k l0 a1 (([] : List Int)) 0) = some r := h
 clear h
 obtain ⟨y278, hy278⟩ : ∃ y_ : List Int, y_ = (([] : List Int)) := ⟨_, rfl⟩
 replace H : (spec_WatchServed.l0 k l0 a1 y278 0) = some r := by first | (rw [hy278]; with_reducible exact H) | (have H2_ := (oS_q _ _).symm.trans H; rw [hy278]; with_reducible exact H2_) | (have H2_ := (oS_q _ _).symm.trans H; with_reducible exact H2_) | with_reducible exact H | (rw [hy278]; exact H) | exact H
 have Ny278 := Ae_q hy278
 clear hy278
 have H' := Ae_q H
 clear H
 go_enter Try.func23, Try.ntmps23
 go_wp2_with (first | ((with_reducible refine gD_q (N := 7) rfl ?_); refine Kd.R_lit kI_q _ 3 ?hg (N := 7) ?hd (xs := ([] : List Int)) (inner := []) (ok := fun _ => True) (okp := fun _ => True) ?hr ?hp (fun _ hk => hk) trivial (bR_q _ _) (nR_q _) (by simp) ?_; (case hd => rfl); (case hg => rfl); (case hr => first | (go_simp; done) | (go_simp; rfl)); (case hp => exact (Reps.none _ _)); intro v279 w3 ho4 hb hg_ hnew_; clear hg_ hnew_; (first | rw [← Ny278.out] at ho4 | (simp only [Int.reduceToNat] at ho4; rw [← Ny278.out] at ho4)); have n0_ := Ae_q (rL_q ho4 (bZ_q (bel HB.out))); have n1_ := Ae_q (bT_q (bel HB.out) hb); clear HB; have HO280 := n0_; have HB := n1_; clear n0_ n1_; clear hb ho4))
 go_loopg [5, 6] k (fun kq v5 v6 w' => ∃ (x5_1 : List Int) (x6_1 : Int), v6 = .int .i64 x6_1 ∧ Aside0 (spec_WatchServed.l0 kq l0 a1 x5_1 x6_1 = some r) ∧ Aside0 (kq ≤ k) ∧ Aside0 (Kd.R kI_q 3 w' w.heap.size (fun _ => True) v5 x5_1) ∧ Aside0 (Below w.heap.size w w'))
 case atStart => exact ⟨(y278), (0), (by first | rfl | (simp; done) | (simp [*]; done)), H', ⟨nR_q _⟩, ⟨by (with_reducible repeat (first | apply rA_q | apply rN_q | apply rD_q)); exact HO280.out⟩, ⟨bel HB.out⟩⟩
 case round =>
  clear H'
  try clear c2
  try clear p2
  obtain ⟨x5_1, x6_1, rfl, HA, HK1, HO_5, HB⟩ := hrel
  cases gk with
  | zero => exact absurd HA.out (by simp [spec_WatchServed.l0])
  | succ k1 =>
   have H := HA.out
   clear HA
   simp only [spec_WatchServed.l0] at H
   have HC5 := Ae_q H
   clear H
   go_upto_region 3 with (fail)
   go_cut [15] (fun v15 wc => ∃ (kq : Nat) (x15_4 : Bool), v15 = .bool x15_4 ∧ Aside0 (spec_WatchServed.j1 kq l0 a1 x5_1 x6_1 x15_4 = some r) ∧ Aside0 (kq ≤ k1) ∧ Aside0 (Kd.R kI_q 3 wc w.heap.size (fun _ => True) u5 x5_1) ∧ Aside0 (Below w.heap.size w wc))
   case first =>
    have H := HC5.out
    clear HC5
    by_cases c6 : x6_1 < (l0.length : Int)
    ·rw [if_pos c6] at H
     have c6b0 : decide (x6_1 < (l0.length : Int)) = true := dT_q c6
     clear c6
     (first | rw [c6b0] | (simp only [i64_w, i32_w]; rw [c6b0]) | skip)
     replace H := oB_q.mp H
     obtain ⟨t281, A70, H⟩ := H
     replace H : (spec_WatchServed.j1 k1 l0 a1 x5_1 x6_1 t281) = some r := H
     have A7 := Ae_q A70
     clear A70
     have H' := Ae_q H
     clear H
     go_wp2_with (first | (go_at_call 17; (with_reducible refine (spec_EventsValid.calls k1 _ _ l0 t281 _ ?side1 ?side2 A7.out).mono ?_); (case side1 => exact cup (cB_q HR0.out HB.out)); (case side2 => exact HC0.out); rintro e w8 ⟨rfl, hb⟩; have n0_ := Ae_q (rO_q (rup HO_5.out) hb); have n1_ := Ae_q (bT_q (bel HB.out) hb); clear HO_5; clear HB; have HO_5 := n0_; have HB := n1_; clear n0_ n1_; (try clear hb); (try clear hb2); (try clear hk); (try clear hi)))
     go_meet
     case rel => exact ⟨_, (t281), (by first | rfl | (simp; done) | (simp [*]; done)), H', ⟨by have := HK1.out; first | omega | exact nR_q _⟩, ⟨by (with_reducible repeat (first | apply rA_q | apply rN_q | apply rD_q)); exact HO_5.out⟩, ⟨bel HB.out⟩⟩
    rw [if_neg c6] at H
    have c6b0 : decide (x6_1 < (l0.length : Int)) = false := dF_q c6
    clear c6
    (first | rw [c6b0] | (simp only [i64_w, i32_w]; rw [c6b0]) | skip)
    have H' := Ae_q H
    clear H
    go_wp2
    go_meet
    case rel => exact ⟨_, (false), (by first | rfl | (simp; done) | (simp [*]; done)), H', ⟨by have := HK1.out; first | omega | exact nR_q _⟩, ⟨by (with_reducible repeat (first | apply rA_q | apply rN_q | apply rD_q)); exact HO_5.out⟩, ⟨bel HB.out⟩⟩
   case rest =>
    clear HC5
    try clear c2
    try clear p2
    try clear c6
    try clear c6b0
    try clear p2
    obtain ⟨kq, x15_4, rfl, HA, HJ4, HO_5, HB⟩ := hcut
    cases kq with
    | zero => exact absurd HA.out (by simp [spec_WatchServed.j1])
    | succ kj4 =>
     have H := HA.out
     clear HA
     simp only [spec_WatchServed.j1] at H
     by_cases c9 : x15_4 = true
     ·subst c9
      have H1 : (if 0 ≤ x6_1 then (if x6_1 < (l0.length : Int) then (if ((rd_T27 l0 x6_1).f0) = 2 then (if ((rd_T27 l0 x6_1).f3) = a1 then (if x5_1.length < 17592186044416 then (spec_WatchServed.l0 kj4 l0 a1 (x5_1 ++ [(rd_T27 l0 x6_1).f2]) (wrap64 (x6_1 + 1))) else (none)) else (spec_WatchServed.l0 kj4 l0 a1 x5_1 (wrap64 (x6_1 + 1)))) else (spec_WatchServed.l0 kj4 l0 a1 x5_1 (wrap64 (x6_1 + 1)))) else (none)) else (none)) = some r := by rw [if_pos rfl] at H; exact H
      clear H
      have H := H1
      clear H1
      by_cases c10 : 0 ≤ x6_1
      ·rw [if_pos c10] at H
       have c10b0 : decide (0 ≤ x6_1) = true := dT_q c10
       clear c10
       by_cases c11 : x6_1 < (l0.length : Int)
       ·rw [if_pos c11] at H
        have c11b0 : decide (x6_1 < (l0.length : Int)) = true := dT_q c11
        clear c11
        by_cases c12 : ((rd_T27 l0 x6_1).f0) = 2
        ·rw [if_pos c12] at H
         have c12b0 : (((rd_T27 l0 x6_1).f0) == 2) = true := beq_iff_eq.mpr c12
         have c12b1 : (((rd_T27 l0 x6_1).f0) != 2) = false := nE_q.mpr c12
         clear c12
         by_cases c13 : ((rd_T27 l0 x6_1).f3) = a1
         ·rw [if_pos c13] at H
          have c13b0 : (((rd_T27 l0 x6_1).f3) == a1) = true := beq_iff_eq.mpr c13
          have c13b1 : (((rd_T27 l0 x6_1).f3) != a1) = false := nE_q.mpr c13
          clear c13
          by_cases c14 : x5_1.length < 17592186044416
          ·rw [if_pos c14] at H
           have LMc14 := Ae_q c14
           clear c14
           obtain ⟨y285, hy285⟩ : ∃ y_ : List Int, y_ = (x5_1 ++ [(rd_T27 l0 x6_1).f2]) := ⟨_, rfl⟩
           replace H : (spec_WatchServed.l0 kj4 l0 a1 y285 (wrap64 (x6_1 + 1))) = some r := by first | (rw [hy285]; with_reducible exact H) | (have H2_ := (oS_q _ _).symm.trans H; rw [hy285]; with_reducible exact H2_) | (have H2_ := (oS_q _ _).symm.trans H; with_reducible exact H2_) | with_reducible exact H | (rw [hy285]; exact H) | exact H
           have Ny285 := Ae_q hy285
           clear hy285
           have H' := Ae_q H
           clear H
           have p282 : 0 ≤ (x6_1 : Int) := oD_q (by assumption)
           have q282 : x6_1 < (l0.length : Int) := oD_q (by assumption)
           obtain ⟨ad282, e282, hx282_0, hx282_1, hx282_2, hx282_3, hx282_4, hx282_5⟩ := at_T27 HR0.out x6_1 p282 q282
           cases e282
           replace hx282_0 := cel HB.out hx282_0
           replace hx282_1 := cel HB.out hx282_1
           replace hx282_2 := cel HB.out hx282_2
           replace hx282_3 := cel HB.out hx282_3
           replace hx282_4 := cel HB.out hx282_4
           replace hx282_5 := cel HB.out hx282_5
           replace p282 := eq_true p282
           replace q282 := eq_true q282
           have p283 : 0 ≤ (x6_1 : Int) := oD_q (by assumption)
           have q283 : x6_1 < (l0.length : Int) := oD_q (by assumption)
           obtain ⟨ad283, e283, hx283_0, hx283_1, hx283_2, hx283_3, hx283_4, hx283_5⟩ := at_T27 HR0.out x6_1 p283 q283
           obtain rfl : ad282 = ad283 := (by injection e283)
           replace hx283_0 := cel HB.out hx283_0
           replace hx283_1 := cel HB.out hx283_1
           replace hx283_2 := cel HB.out hx283_2
           replace hx283_3 := cel HB.out hx283_3
           replace hx283_4 := cel HB.out hx283_4
           replace hx283_5 := cel HB.out hx283_5
           replace p283 := eq_true p283
           replace q283 := eq_true q283
           have p284 : 0 ≤ (x6_1 : Int) := oD_q (by assumption)
           have q284 : x6_1 < (l0.length : Int) := oD_q (by assumption)
           obtain ⟨ad284, e284, hx284_0, hx284_1, hx284_2, hx284_3, hx284_4, hx284_5⟩ := at_T27 HR0.out x6_1 p284 q284
           obtain rfl : ad282 = ad284 := (by injection e284)
           replace hx284_0 := cel HB.out hx284_0
           replace hx284_1 := cel HB.out hx284_1
           replace hx284_2 := cel HB.out hx284_2
           replace hx284_3 := cel HB.out hx284_3
           replace hx284_4 := cel HB.out hx284_4
           replace hx284_5 := cel HB.out hx284_5
           replace p284 := eq_true p284
           replace q284 := eq_true q284
           go_wp2_with (first | ((with_reducible refine gate_builtin (b := .append) (xs := #[.tmp 33, .tmp 39]) rfl ?_); at_builtin; refine Kd.R_append kI_q (w0 := w) w.heap.size rfl (.tmp 33) (.tmp 39) 36 3 (.int .i64 0) 8 rfl Try.underlying36 info3 rfl (by decide) (by omega) u5 x5_1 ((rd_T27 l0 x6_1).f2) [.int .i64 ((rd_T27 l0 x6_1).f2)] (fun _ => True) (fun _ => False) rfl rfl ?aP (fun _ hk => hk.elim) ?aF ?aO ?aB ?aS ?aL ?_; (case aP => exact rfl); (case aB => exact (bel HB.out)); (case aF => exact (fun _ _ => trivial)); (case aO => exact (rup HO_5.out)); (case aS => exact (bZ_q (bel HB.out))); (case aL => have := LMc14.out; omega); intro v286 w15 ho hb hg hat; rw [← Ny285.out] at ho; have n0_ := Ae_q (hb); have n1_ := Ae_q (ho); clear HB; clear HO_5; have HB := n0_; have HO287 := n1_; clear n0_ n1_; clear ho hb hg hat))
           go_roundg kj4
           case measure => have := HK1.out; have := HJ4.out; omega
           case rel => exact ⟨(y285), (wrap64 (x6_1 + 1)), (by first | rfl | (simp; done) | (simp [*]; done)), H', ⟨by have := HK1.out; have := HJ4.out; omega⟩, ⟨by (with_reducible repeat (first | apply rA_q | apply rN_q | apply rD_q)); exact HO287.out⟩, ⟨bel HB.out⟩⟩
          rw [if_neg c14] at H
          exact absurd H (by simp)
         rw [if_neg c13] at H
         have c13b0 : (((rd_T27 l0 x6_1).f3) == a1) = false := fN_q.mpr c13
         have c13b1 : (((rd_T27 l0 x6_1).f3) != a1) = true := nI_q.mpr c13
         have H' := Ae_q H
         clear H
         have p282 : 0 ≤ (x6_1 : Int) := oD_q (by assumption)
         have q282 : x6_1 < (l0.length : Int) := oD_q (by assumption)
         obtain ⟨ad282, e282, hx282_0, hx282_1, hx282_2, hx282_3, hx282_4, hx282_5⟩ := at_T27 HR0.out x6_1 p282 q282
         cases e282
         replace hx282_0 := cel HB.out hx282_0
         replace hx282_1 := cel HB.out hx282_1
         replace hx282_2 := cel HB.out hx282_2
         replace hx282_3 := cel HB.out hx282_3
         replace hx282_4 := cel HB.out hx282_4
         replace hx282_5 := cel HB.out hx282_5
         replace p282 := eq_true p282
         replace q282 := eq_true q282
         have p283 : 0 ≤ (x6_1 : Int) := oD_q (by assumption)
         have q283 : x6_1 < (l0.length : Int) := oD_q (by assumption)
         obtain ⟨ad283, e283, hx283_0, hx283_1, hx283_2, hx283_3, hx283_4, hx283_5⟩ := at_T27 HR0.out x6_1 p283 q283
         obtain rfl : ad282 = ad283 := (by injection e283)
         replace hx283_0 := cel HB.out hx283_0
         replace hx283_1 := cel HB.out hx283_1
         replace hx283_2 := cel HB.out hx283_2
         replace hx283_3 := cel HB.out hx283_3
         replace hx283_4 := cel HB.out hx283_4
         replace hx283_5 := cel HB.out hx283_5
         replace p283 := eq_true p283
         replace q283 := eq_true q283
         go_wp2
         go_roundg kj4
         case measure => have := HK1.out; have := HJ4.out; omega
         case rel => exact ⟨(x5_1), (wrap64 (x6_1 + 1)), (by first | rfl | (simp; done) | (simp [*]; done)), H', ⟨by have := HK1.out; have := HJ4.out; omega⟩, ⟨by (with_reducible repeat (first | apply rA_q | apply rN_q | apply rD_q)); exact HO_5.out⟩, ⟨bel HB.out⟩⟩
        rw [if_neg c12] at H
        have c12b0 : (((rd_T27 l0 x6_1).f0) == 2) = false := fN_q.mpr c12
        have c12b1 : (((rd_T27 l0 x6_1).f0) != 2) = true := nI_q.mpr c12
        have H' := Ae_q H
        clear H
        have p282 : 0 ≤ (x6_1 : Int) := oD_q (by assumption)
        have q282 : x6_1 < (l0.length : Int) := oD_q (by assumption)
        obtain ⟨ad282, e282, hx282_0, hx282_1, hx282_2, hx282_3, hx282_4, hx282_5⟩ := at_T27 HR0.out x6_1 p282 q282
        cases e282
        replace hx282_0 := cel HB.out hx282_0
        replace hx282_1 := cel HB.out hx282_1
        replace hx282_2 := cel HB.out hx282_2
        replace hx282_3 := cel HB.out hx282_3
        replace hx282_4 := cel HB.out hx282_4
        replace hx282_5 := cel HB.out hx282_5
        replace p282 := eq_true p282
        replace q282 := eq_true q282
        go_wp2
        go_roundg kj4
        case measure => have := HK1.out; have := HJ4.out; omega
        case rel => exact ⟨(x5_1), (wrap64 (x6_1 + 1)), (by first | rfl | (simp; done) | (simp [*]; done)), H', ⟨by have := HK1.out; have := HJ4.out; omega⟩, ⟨by (with_reducible repeat (first | apply rA_q | apply rN_q | apply rD_q)); exact HO_5.out⟩, ⟨bel HB.out⟩⟩
       rw [if_neg c11] at H
       exact absurd H (by simp)
      rw [if_neg c10] at H
      exact absurd H (by simp)
     replace c9 := fM_q.mpr c9
     subst c9
     have H1 : (some x5_1) = some r := by rw [if_neg (show ¬ (false = true) by decide)] at H; exact H
     clear H
     have H := H1
     clear H1
     obtain rfl := oI_q H
     go_wp2
     go_ret
     exact ⟨_, by first | rfl | (simp [eN_q, eS_q] <;> rfl) | (simp [*, eN_q, eS_q] <;> rfl), by (with_reducible repeat (first | apply rA_q | apply rN_q | apply rD_q)); exact HO_5.out, bel HB.out⟩

def laws_sameInts.l0 : Nat → List Int → List Int → Int → Option (Bool)
 | 0, _, _, _ => none
 | k + 1, x0, x1, x5 => if x5 < (x0.length : Int) then (if 0 ≤ x5 then (if x5 < (x1.length : Int) then (if (rd x0 x5) = (rd x1 x5) then (laws_sameInts.l0 k x0 x1 (wrap64 (x5 + 1))) else (some false)) else (none)) else (none)) else (some true)
def laws_sameInts.f (k : Nat) (l0 : List Int) (l1 : List Int) : Option (Bool) := if (l0.length : Int) = (l1.length : Int) then (laws_sameInts.l0 k l0 l1 0) else (some false)
theorem laws_sameInts.mono_l : ∀ k, (∀ y0 y1 y2, LeO (laws_sameInts.l0 k y0 y1 y2) (laws_sameInts.l0 (k + 1) y0 y1 y2))
 | 0 => fun _ _ _ r h => by simp [laws_sameInts.l0] at h
 | k + 1 => by
  have ih0 := laws_sameInts.mono_l k
  intro y0 y1 y2
  unfold laws_sameInts.l0
  repeat' first
  | (with_reducible exact ih0 _ _ _)
  | (with_reducible exact lR_q _)
  | (with_reducible exact lO_q _)
  | (with_reducible refine lI_q ?_ ?_)
  | (with_reducible refine lB_q ?_ (fun _ => ?_))
  | exact ih0 _ _ _
  | exact lO_q _
  | refine lI_q ?_ ?_
  | refine lB_q ?_ (fun _ => ?_)
theorem laws_sameInts.mono : ∀ a0 a1 k, LeO (laws_sameInts.f k a0 a1) (laws_sameInts.f (k + 1) a0 a1) := by
 intro a0 a1 k
 have ih0 := laws_sameInts.mono_l k
 unfold laws_sameInts.f
 repeat' first
  | (with_reducible exact ih0 _ _ _)
  | (with_reducible exact lR_q _)
  | (with_reducible exact lO_q _)
  | (with_reducible refine lI_q ?_ ?_)
  | (with_reducible refine lB_q ?_ (fun _ => ?_))
  | exact ih0 _ _ _
  | exact lO_q _
  | refine lI_q ?_ ?_
  | refine lB_q ?_ (fun _ => ?_)
set_option maxHeartbeats 8000000 in
set_option maxRecDepth 100000 in
theorem laws_sameInts.calls (k : Nat) (A0 : Option Addr) (c0 : Nat) (l0 : List Int) (A1 : Option Addr) (c1 : Nat) (l1 : List Int) (r : Bool) (w : World) (hr0 : Kd.C kI_q w A0 l0.length l0) (hc0 : l0.length ≤ c0) (hr1 : Kd.C kI_q w A1 l1.length l1) (hc1 : l1.length ≤ c1) (h : laws_sameInts.f k l0 l1 = some r) :
    Calls Try.prog 24 #[.slice A0 l0.length c0, .slice A1 l1.length c1] w fun e w' => e = .returned (.bool r) ∧ Drawn0 w w' := by
 have HR0 := Ae_q hr0
 have HC0 := Ae_q hc0
 clear hr0 hc0
 have HR1 := Ae_q hr1
 have HC1 := Ae_q hc1
 clear hr1 hc1
 have H : (if (l0.length : Int) = (l1.length : Int) then (laws_sameInts.l0 k l0 l1 0) else (some false)) = some r := h
 clear h
 by_cases c3 : (l0.length : Int) = (l1.length : Int)
 ·rw [if_pos c3] at H
  have c3b0 : ((l0.length : Int) == (l1.length : Int)) = true := beq_iff_eq.mpr c3
  have c3b1 : ((l0.length : Int) != (l1.length : Int)) = false := nE_q.mpr c3
  have c3b2 : (l0.length == l1.length) = true := by first | simpa using c3 | (simp at c3 ⊢; omega)
  clear c3
  have H' := Ae_q H
  clear H
  go_enter Try.func24, Try.ntmps24
  go_wp2
  repeat (go_quiet (fail); try go_wp2)
  go_loopg [5] k (fun kq v5 w' => ∃ (x5_1 : Int), v5 = .int .i64 x5_1 ∧ Aside0 (laws_sameInts.l0 kq l0 l1 x5_1 = some r) ∧ Aside0 (kq ≤ k) ∧ Drawn0 w w')
  case atStart => exact ⟨(0), (by first | rfl | (simp; done) | (simp [*]; done)), H', ⟨nR_q _⟩, by repeat (first | exact Drawn0.refl _ | apply Drawn0.step)⟩
  case round =>
   clear H'
   try clear c1
   try clear c2
   try clear p2
   try clear c3
   try clear c3b0
   try clear c3b1
   try clear c3b2
   obtain ⟨x5_1, rfl, HA, HK1, ⟨m1, rfl⟩⟩ := hrel
   cases gk with
   | zero => exact absurd HA.out (by simp [laws_sameInts.l0])
   | succ k1 =>
    have H := HA.out
    clear HA
    simp only [laws_sameInts.l0] at H
    by_cases c4 : x5_1 < (l0.length : Int)
    ·rw [if_pos c4] at H
     have c4b0 : decide (x5_1 < (l0.length : Int)) = true := dT_q c4
     clear c4
     by_cases c5 : 0 ≤ x5_1
     ·rw [if_pos c5] at H
      have c5b0 : decide (0 ≤ x5_1) = true := dT_q c5
      clear c5
      by_cases c6 : x5_1 < (l1.length : Int)
      ·rw [if_pos c6] at H
       have c6b0 : decide (x5_1 < (l1.length : Int)) = true := dT_q c6
       clear c6
       by_cases c7 : (rd l0 x5_1) = (rd l1 x5_1)
       ·rw [if_pos c7] at H
        have c7b0 : ((rd l0 x5_1) == (rd l1 x5_1)) = true := beq_iff_eq.mpr c7
        have c7b1 : ((rd l0 x5_1) != (rd l1 x5_1)) = false := nE_q.mpr c7
        clear c7
        have H' := Ae_q H
        clear H
        have p288 : 0 ≤ (x5_1 : Int) := oD_q (by assumption)
        have q288 : x5_1 < (l0.length : Int) := oD_q (by assumption)
        obtain ⟨ad288, e288, hx288_0⟩ := aI_q HR0.out x5_1 p288 q288
        cases e288
        replace p288 := eq_true p288
        replace q288 := eq_true q288
        have p289 : 0 ≤ (x5_1 : Int) := oD_q (by assumption)
        have q289 : x5_1 < (l1.length : Int) := oD_q (by assumption)
        obtain ⟨ad289, e289, hx289_0⟩ := aI_q HR1.out x5_1 p289 q289
        cases e289
        replace p289 := eq_true p289
        replace q289 := eq_true q289
        go_wp2
        repeat (go_quiet (fail); try go_wp2)
        go_roundg k1
        case measure => have := HK1.out; omega
        case rel => exact ⟨(wrap64 (x5_1 + 1)), (by first | rfl | (simp; done) | (simp [*]; done)), H', ⟨by have := HK1.out; omega⟩, by repeat (first | exact Drawn0.refl _ | apply Drawn0.step)⟩
       rw [if_neg c7] at H
       have c7b0 : ((rd l0 x5_1) == (rd l1 x5_1)) = false := fN_q.mpr c7
       have c7b1 : ((rd l0 x5_1) != (rd l1 x5_1)) = true := nI_q.mpr c7
       obtain rfl := oI_q H
       have p288 : 0 ≤ (x5_1 : Int) := oD_q (by assumption)
       have q288 : x5_1 < (l0.length : Int) := oD_q (by assumption)
       obtain ⟨ad288, e288, hx288_0⟩ := aI_q HR0.out x5_1 p288 q288
       cases e288
       replace p288 := eq_true p288
       replace q288 := eq_true q288
       have p289 : 0 ≤ (x5_1 : Int) := oD_q (by assumption)
       have q289 : x5_1 < (l1.length : Int) := oD_q (by assumption)
       obtain ⟨ad289, e289, hx289_0⟩ := aI_q HR1.out x5_1 p289 q289
       cases e289
       replace p289 := eq_true p289
       replace q289 := eq_true q289
       go_wp2
       repeat (go_quiet (fail); try go_wp2)
       go_ret
       exact ⟨by first | rfl | (simp; done) | (simp [*]; done), by repeat (first | exact Drawn0.refl _ | apply Drawn0.step)⟩
      rw [if_neg c6] at H
      exact absurd H (by simp)
     rw [if_neg c5] at H
     exact absurd H (by simp)
    rw [if_neg c4] at H
    have c4b0 : decide (x5_1 < (l0.length : Int)) = false := dF_q c4
    clear c4
    obtain rfl := oI_q H
    go_wp2
    repeat (go_quiet (fail); try go_wp2)
    go_ret
    exact ⟨by first | rfl | (simp; done) | (simp [*]; done), by repeat (first | exact Drawn0.refl _ | apply Drawn0.step)⟩
 rw [if_neg c3] at H
 have c3b0 : ((l0.length : Int) == (l1.length : Int)) = false := fN_q.mpr c3
 have c3b1 : ((l0.length : Int) != (l1.length : Int)) = true := nI_q.mpr c3
 have c3b2 : (l0.length == l1.length) = false := by first | simpa using c3 | (simp at c3 ⊢; omega)
 obtain rfl := oI_q H
 go_enter Try.func24, Try.ntmps24
 go_wp2
 repeat (go_quiet (fail); try go_wp2)
 go_ret
 exact ⟨by first | rfl | (simp; done) | (simp [*]; done), by repeat (first | exact Drawn0.refl _ | apply Drawn0.step)⟩

end Go.Proofs.Ytnhenfmegpjigaa.PEv
