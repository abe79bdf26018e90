import Derived.Test.YtoaigcdoblnmhaaVePPnx0
import Derived.Test.YtoaigcdoblnmhaaVePPnx1
import Derived.Test.YtoaigcdoblnmhaaVePPnx8
namespace Go.Proofs.Ytoaigcdoblnmhaa.PPn
open Go.RowKit Go.Proofs.YtoaigcdoblnmhaaW.PrintWords Go.Proofs.YtoaigcdoblnmhaaW.PrintLast Go.Proofs.YtoaigcdoblnmhaaW.PrintMore
attribute [local go_sem] max2_int min2_int max_two min_two max_three min_three max_four min_four
set_option linter.unusedVariables false
set_option linter.unusedSimpArgs false

def spec_DrawPlanValid.j0 : Nat → List (S31) → List Int → Int → Int → Bool → List Int → Int → Int → List Int → Option ((List (S31)) × Int × List Int × List Int)
 | 0, _, _, _, _, _, _, _, _, _ => none
 | k + 1, x6, x8, x9, x26, x27, x609000, x609001, x621000, x621001 => if x27 = true then (if 0 ≤ x9 then (if x9 < (x8.length : Int) then ((spec_l6Rd_pick.f k x609000 x609001 6).bind fun bt626 => (some (x6, x621000, x621001, (x8.set (x9 : Int).toNat (wrap64 ((rd x8 x9) + bt626.1)))))) else (none)) else (none)) else (if x26 = 2 then (if 0 ≤ x9 then (if x9 < (x8.length : Int) then (some (x6, x621000, x621001, (x8.set (x9 : Int).toNat (wrap64 ((rd x8 x9) - 1))))) else (none)) else (none)) else (if x26 = 3 then (if 1 ≤ (x8.length : Int) then (some (x6, x621000, x621001, (x8.drop (1 : Int).toNat))) else (none)) else (some (x6, x621000, x621001, x8))))
def spec_DrawPlanValid.f (k : Nat) (l0 : List Int) : Option ((List (S31)) × Int × List Int × List Int) := (spec_l6Open.f l0).bind fun bt606 => ((spec_l92Plan.f k bt606.1 bt606.2).bind fun bt609 => (if (bt609.2.2.2.1.length : Int) > 0 then ((spec_l6Rd_pick.f k bt606.1 bt609.2.2.2.2 (bt609.2.2.2.1.length : Int)).bind fun bt621 => ((spec_l6Rd_pick.f k bt606.1 bt621.2 8).bind fun bt623 => (if bt623.1 = 0 then (spec_DrawPlanValid.j0 k bt609.1 bt609.2.2.2.1 bt621.1 bt623.1 (bt623.1 == 0) bt606.1 bt623.2 bt609.2.1 bt609.2.2.1) else (spec_DrawPlanValid.j0 k bt609.1 bt609.2.2.2.1 bt621.1 bt623.1 (bt623.1 == 1) bt606.1 bt623.2 bt609.2.1 bt609.2.2.1)))) else (some (bt609.1, bt609.2.1, bt609.2.2.1, bt609.2.2.2.1))))
theorem spec_DrawPlanValid.mono_l : ∀ k, (∀ y0 y1 y2 y3 y4 y5 y6 y7 y8, LeO (spec_DrawPlanValid.j0 k y0 y1 y2 y3 y4 y5 y6 y7 y8) (spec_DrawPlanValid.j0 (k + 1) y0 y1 y2 y3 y4 y5 y6 y7 y8))
 | 0 => fun _ _ _ _ _ _ _ _ _ r h => by simp [spec_DrawPlanValid.j0] at h
 | k + 1 => by
  have ih0 := spec_DrawPlanValid.mono_l k
  intro y0 y1 y2 y3 y4 y5 y6 y7 y8
  unfold spec_DrawPlanValid.j0
  repeat' first
  | (with_reducible exact ih0 _ _ _ _ _ _ _ _ _)
  | (with_reducible exact spec_l6Rd_pick.mono _ _ _ _)
  | (with_reducible exact spec_l92Plan.mono _ _ _)
  | (with_reducible exact lR_q _)
  | (with_reducible exact lO_q _)
  | (with_reducible refine lI_q ?_ ?_)
  | (with_reducible refine lB_q ?_ (fun _ => ?_))
  | exact ih0 _ _ _ _ _ _ _ _ _
  | exact spec_l6Rd_pick.mono _ _ _ _
  | exact spec_l92Plan.mono _ _ _
  | exact lO_q _
  | refine lI_q ?_ ?_
  | refine lB_q ?_ (fun _ => ?_)
theorem spec_DrawPlanValid.mono : ∀ a0 k, LeO (spec_DrawPlanValid.f k a0) (spec_DrawPlanValid.f (k + 1) a0) := by
 intro a0 k
 have ih0 := spec_DrawPlanValid.mono_l k
 unfold spec_DrawPlanValid.f
 repeat' first
  | (with_reducible exact ih0 _ _ _ _ _ _ _ _ _)
  | (with_reducible exact spec_l6Rd_pick.mono _ _ _ _)
  | (with_reducible exact spec_l92Plan.mono _ _ _)
  | (with_reducible exact lR_q _)
  | (with_reducible exact lO_q _)
  | (with_reducible refine lI_q ?_ ?_)
  | (with_reducible refine lB_q ?_ (fun _ => ?_))
  | exact ih0 _ _ _ _ _ _ _ _ _
  | exact spec_l6Rd_pick.mono _ _ _ _
  | exact spec_l92Plan.mono _ _ _
  | exact lO_q _
  | refine lI_q ?_ ?_
  | refine lB_q ?_ (fun _ => ?_)
def spec_DrawPlanValid.T8 : Bool × List (List Nat × List Nat) := (true, [([], []), ([], []), ([], []), ([], []), ([2, 3], [2, 3]), ([4], [4]), ([], []), ([6], [6]), ([5, 7], [5, 7]), ([0, 1, 0, 1, 2, 3, 4, 5, 6, 7, 8], [0, 1]), ([9, 8, 7, 0, 1, 2, 3, 4, 5, 6, 7, 8], [8, 9])])
def spec_DrawPlanValid.B8 : List Nat := [0, 0, 0, 0, 12, 28, 0, 64, 252, 511, 1023]
theorem spec_DrawPlanValid.tab8 : rtab .any (opsOf Try.f24 8) = spec_DrawPlanValid.T8 := by kernel_rfl
theorem spec_DrawPlanValid.bits8 : waitsOk spec_DrawPlanValid.T8.2 spec_DrawPlanValid.B8 = true := by kernel_rfl
set_option maxHeartbeats 8000000 in
set_option maxRecDepth 100000 in
theorem spec_DrawPlanValid.calls (k : Nat) (A0 : Option Addr) (c0 : Nat) (l0 : List Int) (r1 : List (S31)) (r2 : Int) (r3 : List Int) (r4 : List Int) (w : World) (hr0 : Kd.C (Kd.int .u8) w A0 l0.length l0) (hc0 : l0.length ≤ c0) (h : spec_DrawPlanValid.f k l0 = some (r1, r2, r3, r4)) :
    Calls Try.prog 24 #[.slice A0 l0.length c0] w fun e w' => ∃ v0_ v2_ v3_ : Value, e = .returned (.tuple #[v0_, .agg #[.int .i64 r2, v2_], v3_]) ∧ Kd.S k31 31 w' w.heap.size (fun k_ => some k_ ≠ (v2_ : Value).ownBlock ∧ some k_ ≠ (v3_ : Value).ownBlock) v0_ r1 ∧ Kd.R kI_q 3 w' w.heap.size (fun k_ => some k_ ≠ (v3_ : Value).ownBlock) v2_ r3 ∧ Kd.Q kI_q 3 w' w.heap.size (fun k_ => some k_ ≠ (v2_ : Value).ownBlock) v3_ r4 ∧ Below w.heap.size w w' := by
 have hu41 := Try.underlying41
 have HR0 := Ae_q hr0
 have HC0 := Ae_q hc0
 clear hr0 hc0
 have HB := Ae_q (bR_q w.heap.size w)
 have H : ((spec_l6Open.f l0).bind fun bt606 => ((spec_l92Plan.f k bt606.1 bt606.2).bind fun bt609 => (if (bt609.2.2.2.1.length : Int) > 0 then ((spec_l6Rd_pick.f k bt606.1 bt609.2.2.2.2 (bt609.2.2.2.1.length : Int)).bind fun bt621 => ((spec_l6Rd_pick.f k bt606.1 bt621.2 8).bind fun bt623 => (if bt623.1 = 0 then (spec_DrawPlanValid.j0 k bt609.1 bt609.2.2.2.1 bt621.1 bt623.1 (bt623.1 == 0) bt606.1 bt623.2 bt609.2.1 bt609.2.2.1) else (spec_DrawPlanValid.j0 k bt609.1 bt609.2.2.2.1 bt621.1 bt623.1 (bt623.1 == 1) bt606.1 bt623.2 bt609.2.1 bt609.2.2.1)))) else (some (bt609.1, bt609.2.1, bt609.2.2.1, bt609.2.2.2.1))))) = some (r1, r2, r3, r4) := h
 clear h
 replace H := oB_q.mp H
 obtain ⟨⟨t606, t607⟩, A20, H⟩ := H
 replace H : ((spec_l92Plan.f k t606 t607).bind fun bt609 => (if (bt609.2.2.2.1.length : Int) > 0 then ((spec_l6Rd_pick.f k t606 bt609.2.2.2.2 (bt609.2.2.2.1.length : Int)).bind fun bt621 => ((spec_l6Rd_pick.f k t606 bt621.2 8).bind fun bt623 => (if bt623.1 = 0 then (spec_DrawPlanValid.j0 k bt609.1 bt609.2.2.2.1 bt621.1 bt623.1 (bt623.1 == 0) t606 bt623.2 bt609.2.1 bt609.2.2.1) else (spec_DrawPlanValid.j0 k bt609.1 bt609.2.2.2.1 bt621.1 bt623.1 (bt623.1 == 1) t606 bt623.2 bt609.2.1 bt609.2.2.1)))) else (some (bt609.1, bt609.2.1, bt609.2.2.1, bt609.2.2.2.1)))) = some (r1, r2, r3, r4) := H
 have A2 := Ae_q A20
 clear A20
 replace H := oB_q.mp H
 obtain ⟨⟨t609, t612, t613, t616, t619⟩, A30, H⟩ := H
 replace H : (if (t616.length : Int) > 0 then ((spec_l6Rd_pick.f k t606 t619 (t616.length : Int)).bind fun bt621 => ((spec_l6Rd_pick.f k t606 bt621.2 8).bind fun bt623 => (if bt623.1 = 0 then (spec_DrawPlanValid.j0 k t609 t616 bt621.1 bt623.1 (bt623.1 == 0) t606 bt623.2 t612 t613) else (spec_DrawPlanValid.j0 k t609 t616 bt621.1 bt623.1 (bt623.1 == 1) t606 bt623.2 t612 t613)))) else (some (t609, t612, t613, t616))) = some (r1, r2, r3, r4) := H
 have A3 := Ae_q A30
 clear A30
 by_cases c4 : (t616.length : Int) > 0
 ·rw [if_pos c4] at H
  have c4b0 : decide (0 < (t616.length : Int)) = true := dT_q c4
  have c4b1 : decide (0 < t616.length) = true := dT_q (by omega)
  clear c4
  replace H := oB_q.mp H
  obtain ⟨⟨t621, t622⟩, A50, H⟩ := H
  replace H : ((spec_l6Rd_pick.f k t606 t622 8).bind fun bt623 => (if bt623.1 = 0 then (spec_DrawPlanValid.j0 k t609 t616 t621 bt623.1 (bt623.1 == 0) t606 bt623.2 t612 t613) else (spec_DrawPlanValid.j0 k t609 t616 t621 bt623.1 (bt623.1 == 1) t606 bt623.2 t612 t613))) = some (r1, r2, r3, r4) := H
  have A5 := Ae_q A50
  clear A50
  replace H := oB_q.mp H
  obtain ⟨⟨t623, t624⟩, A60, H⟩ := H
  replace H : (if t623 = 0 then (spec_DrawPlanValid.j0 k t609 t616 t621 t623 (t623 == 0) t606 t624 t612 t613) else (spec_DrawPlanValid.j0 k t609 t616 t621 t623 (t623 == 1) t606 t624 t612 t613)) = some (r1, r2, r3, r4) := H
  have A6 := Ae_q A60
  clear A60
  have HC7 := Ae_q H
  clear H
  go_enter Try.func24, Try.ntmps24
  go_upto_if 27 with (first | ((with_reducible refine gD_q (N := 3) rfl ?_); refine bE_q ?hg (N := 3) ?hd (cs := #[.int .i64 0, .slice none 0 0]) (t := 41) ?hr ?_; (case hd => rfl); (case hg => rfl); (case hr => first | (go_simp; done) | (go_simp; rfl)); intro gb605 hg w8 hbox hb; have n0_ := Ae_q (bT_q (bel HB.out) hb); have n1_ := Ae_q (hbox); have n2_ := Ae_q ((by rw [hg]; exact (bZ_q (bel HB.out)) : w.heap.size ≤ gb605)); have n3_ := Ae_q ((by rw [hg]; exact (bZ_q (bel HB.out)) : w.heap.size ≤ gb605)); clear HB; have HB := n0_; have BK605 := n1_; have GW605 := n2_; have GE605 := n3_; clear n0_ n1_ n2_ n3_; clear hb hbox hg) | ((with_reducible refine gC_q (f := 32) rfl ?_); refine gL_q (some 11) rfl rfl Try.func32 (by kernel_rfl) rfl #[.slice A0 l0.length c0] rfl (by (try simp only [lM_q, lC_q, lN_q]); first | done | rfl | (simp only [lD_q, lT_q]; rfl)) ?_; (with_reducible refine (spec_l6Open.calls _ _ l0 t606 t607 w _ ?side1 ?side2 ?side3 A2.out).mono ?_); (case side1 => repeat (first | (with_reducible first | exact HB.out | apply bA_q | apply pB_q | apply bD_q | refine bS_q ?_ GE605.out) | exact HB.out)); (case side2 => exact HR0.out); (case side3 => exact HC0.out); rintro e w9 ⟨g608, rfl, hi, hb, hb2⟩; refine ⟨_, rfl, ?_⟩; have n0_ := Ae_q (bB_q (g := gb605) (o := .cells #[.int .i64 0, .slice none 0 0] 41 (0, 0)) (bup BK605.out) hb2); have n1_ := Ae_q (hb); have n2_ := Ae_q (hi); have n3_ := Ae_q (IsS74.ne_blk hi (bB_q (g := gb605) (o := .cells #[.int .i64 0, .slice none 0 0] 41 (0, 0)) (bup BK605.out) hb2) (by decide)); have n4_ := Ae_q (Ne.symm (IsS74.ne_blk hi (bB_q (g := gb605) (o := .cells #[.int .i64 0, .slice none 0 0] 41 (0, 0)) (bup BK605.out) hb2) (by decide))); clear BK605; clear HB; have BK605 := n0_; have HB := n1_; have HI608 := n2_; have NB608_605 := n3_; have NB605_608 := n4_; clear n0_ n1_ n2_ n3_ n4_; (try clear hb); (try clear hb2); (try clear hk); (try clear hi)) | ((with_reducible refine gC_q (f := 33) rfl ?_); refine gL_q (some 14) rfl rfl Try.func33 (by kernel_rfl) rfl #[.pointer (some ⟨g608, 0, none⟩)] rfl (by (try simp only [lM_q, lC_q, lN_q]); first | done | rfl | (simp only [lD_q, lT_q]; rfl)) ?_; (with_reducible refine (spec_l92Plan.calls k g608 t606 t607 t609 t612 t613 t616 t619 w _ ?side1 ?side2 A3.out).mono ?_); (case side1 => repeat (first | (with_reducible first | exact HI608.out | apply i2_q | apply i1_q | apply i0_q | apply i3_q | refine i4_q ?_ NB608_605.out _) | exact HI608.out)); (case side2 => repeat (first | (with_reducible first | exact HB.out | apply bA_q | apply pB_q | apply bD_q | refine bS_q ?_ (i5_q HI608.out) | refine bS_q ?_ GE605.out) | exact HB.out)); rintro e w10 ⟨v610, v614, v617, rfl, ho0, ho1, ho2, hi, hb, hk⟩; refine ⟨_, rfl, ?_⟩; have n0_ := Ae_q (kB_q hk (g' := gb605) (o := .cells #[.int .i64 0, .slice none 0 0] 41 (0, 0)) (bup BK605.out) NB605_608.out (by simp)); have n1_ := Ae_q (Kd.S_lower ho0 (bZ_q (by repeat (first | (with_reducible first | exact HB.out | apply bA_q | apply pB_q | apply bD_q | refine bS_q ?_ (i5_q HI608.out) | refine bS_q ?_ GE605.out) | exact HB.out)))); have n2_ := Ae_q (rL_q ho1 (bZ_q (by repeat (first | (with_reducible first | exact HB.out | apply bA_q | apply pB_q | apply bD_q | refine bS_q ?_ (i5_q HI608.out) | refine bS_q ?_ GE605.out) | exact HB.out)))); have n3_ := Ae_q (rL_q ho2 (bZ_q (by repeat (first | (with_reducible first | exact HB.out | apply bA_q | apply pB_q | apply bD_q | refine bS_q ?_ (i5_q HI608.out) | refine bS_q ?_ GE605.out) | exact HB.out)))); have n4_ := Ae_q (hb); have n5_ := Ae_q (hi); clear BK605; clear HB; clear HI608; have BK605 := n0_; have HO611 := n1_; have HO615 := n2_; have HO618 := n3_; have HB := n4_; have HI608 := n5_; clear n0_ n1_ n2_ n3_ n4_ n5_; (try clear hb); (try clear hb2); (try clear hk); (try clear hi); (try clear ho0); (try clear ho1); (try clear ho2)) | ((with_reducible refine gD_q (N := 7) rfl ?_); refine bE_q ?hg (N := 7) ?hd (cs := #[.int .i64 0, .slice none 0 0]) (t := 41) ?hr ?_; (case hd => rfl); (case hg => rfl); (case hr => first | (go_simp; done) | (go_simp; rfl)); intro gb620 hg w11 hbox hb; have n0_ := Ae_q (Kd.S_below (by (with_reducible repeat (first | apply tA_q | apply tN_q | apply tD_q)); exact HO611.out) hb); have n1_ := Ae_q (rO_q (rup HO615.out) hb); have n2_ := Ae_q (rO_q (rup HO618.out) hb); have n3_ := Ae_q (bB_q (g := gb605) (o := .cells #[.int .i64 0, .slice none 0 0] 41 (0, 0)) (bup BK605.out) hb); have n4_ := Ae_q (i6_q (by repeat (first | (with_reducible first | exact HI608.out | apply i2_q | apply i1_q | apply i0_q | apply i3_q | refine i4_q ?_ NB608_605.out _) | exact HI608.out)) hb); have n5_ := Ae_q (bT_q (by repeat (first | (with_reducible first | exact HB.out | apply bA_q | apply pB_q | apply bD_q | refine bS_q ?_ (i5_q HI608.out) | refine bS_q ?_ GE605.out) | exact HB.out)) hb); have n6_ := Ae_q (hbox); have n7_ := Ae_q ((by rw [hg]; exact (bZ_q (by repeat (first | (with_reducible first | exact HB.out | apply bA_q | apply pB_q | apply bD_q | refine bS_q ?_ (i5_q HI608.out) | refine bS_q ?_ GE605.out) | exact HB.out))) : w.heap.size ≤ gb620)); have n8_ := Ae_q ((by rw [hg]; exact (bZ_q (by repeat (first | (with_reducible first | exact HB.out | apply bA_q | apply pB_q | apply bD_q | refine bS_q ?_ (i5_q HI608.out) | refine bS_q ?_ GE605.out) | exact HB.out))) : w.heap.size ≤ gb620)); have n9_ := Ae_q ((by rw [hg]; exact nL_q (blk_lt (g := gb605) (o := .cells #[.int .i64 0, .slice none 0 0] 41 (0, 0)) (bup BK605.out)) : gb605 ≠ gb620)); have n10_ := Ae_q ((by rw [hg]; exact nG_q (blk_lt (g := gb605) (o := .cells #[.int .i64 0, .slice none 0 0] 41 (0, 0)) (bup BK605.out)) : gb620 ≠ gb605)); have n11_ := Ae_q ((by rw [hg]; exact nL_q (i7_q (show IsS74 w _ g608 t606 t619 from by repeat (first | (with_reducible first | exact HI608.out | apply i2_q | apply i1_q | apply i0_q | apply i3_q | refine i4_q ?_ NB608_605.out _) | exact HI608.out))) : g608 ≠ gb620)); have n12_ := Ae_q ((by rw [hg]; exact nG_q (i7_q (show IsS74 w _ g608 t606 t619 from by repeat (first | (with_reducible first | exact HI608.out | apply i2_q | apply i1_q | apply i0_q | apply i3_q | refine i4_q ?_ NB608_605.out _) | exact HI608.out))) : gb620 ≠ g608)); clear HO611; clear HO615; clear HO618; clear BK605; clear HI608; clear HB; have HO611 := n0_; have HO615 := n1_; have HO618 := n2_; have BK605 := n3_; have HI608 := n4_; have HB := n5_; have BK620 := n6_; have GW620 := n7_; have GE620 := n8_; have NB605_620 := n9_; have NB620_605 := n10_; have NB608_620 := n11_; have NB620_608 := n12_; clear n0_ n1_ n2_ n3_ n4_ n5_ n6_ n7_ n8_ n9_ n10_ n11_ n12_; clear hb hbox hg; have hnb12 := NB620_605.out; have hnc12 := NB605_620.out; have hnb13 := NB620_608.out; have hnc13 := NB608_620.out; have hcz14_0 : w11.cell? ⟨gb620, 0, none⟩ = some (.int .i64 0) := (bC_q BK620.out 0).trans rfl; have hcz14_1 : w11.cell? ⟨gb620, 1, none⟩ = some (.slice none 0 0) := (bC_q BK620.out 1).trans rfl; have hfz14_0 := bF_q BK620.out 0; have hfz14_1 := bF_q BK620.out 1; obtain ⟨Ao15, co15, eo15⟩ := rS_q HO615.out; subst eo15; obtain ⟨Ao16, co16, eo16⟩ := rS_q HO618.out; subst eo16) | ((with_reducible refine gC_q (f := 34) rfl ?_); refine gL_q (some 24) rfl rfl Try.func34 (by kernel_rfl) rfl #[.pointer (some ⟨g608, 0, none⟩), .int .i64 (t616.length : Int)] rfl (by (try simp only [lM_q, lC_q, lN_q]); first | done | rfl | (simp only [lD_q, lT_q]; rfl)) ?_; (with_reducible refine (spec_l6Rd_pick.calls k g608 t606 t619 (t616.length : Int) t621 t622 w _ ?side1 ?side2 A5.out).mono ?_); (case side1 => repeat (first | (with_reducible first | exact HI608.out | apply i2_q | apply i1_q | apply i0_q | apply i3_q | refine i4_q ?_ NB608_605.out _ | refine i4_q ?_ NB608_620.out _) | exact HI608.out)); (case side2 => repeat (first | (with_reducible first | exact HB.out | apply bA_q | apply pB_q | apply bD_q | refine bS_q ?_ (i5_q HI608.out) | refine bS_q ?_ GE605.out | refine bS_q ?_ GE620.out) | exact HB.out)); rintro e w17 ⟨rfl, hi, hb, hk⟩; refine ⟨_, rfl, ?_⟩; have n0_ := Ae_q (kB_q hk (g' := gb605) (o := .cells #[.int .i64 0, .slice none 0 0] 41 (0, 0)) (by (with_reducible repeat (first | refine bN_q ?_ _ | refine bW_q ?_ | refine bL_q ?_ _)); refine blk_far ?_ NB605_620.out _; (with_reducible repeat (first | refine bN_q ?_ _ | refine bW_q ?_ | refine bL_q ?_ _)); refine blk_far ?_ NB605_620.out _; (with_reducible repeat (first | refine bN_q ?_ _ | refine bW_q ?_ | refine bL_q ?_ _)); exact BK605.out) NB605_608.out (by simp)); have n1_ := Ae_q (Kd.S_mono (Kd.S_keep (IsS74.apartS (show IsS74 w _ g608 t606 t619 from by repeat (first | (with_reducible first | exact HI608.out | apply i2_q | apply i1_q | apply i0_q | apply i3_q | refine i4_q ?_ NB608_605.out _ | refine i4_q ?_ NB608_620.out _) | exact HI608.out)) (by (with_reducible repeat (first | apply tA_q | apply tN_q | apply tD_q)); exact (Kd.S_mono (Kd.S_far (p := ⟨gb620, 1, none⟩) (Kd.S_far (p := ⟨gb620, 0, none⟩) (Kd.S_types HO611.out BK620.out (by decide)) (fun _ hk => hk.2) (.int .i64 t612)) (fun _ hk => hk.2) (.slice Ao15 t613.length co15)) (fun _ h_ => h_.1))) (by decide)) hk (fun _ h => h.2)) (fun _ h => h.1)); have n2_ := Ae_q (rM_q (rK_q (i8_q (show IsS74 w _ g608 t606 t619 from by repeat (first | (with_reducible first | exact HI608.out | apply i2_q | apply i1_q | apply i0_q | apply i3_q | refine i4_q ?_ NB608_605.out _ | refine i4_q ?_ NB608_620.out _) | exact HI608.out)) (by (with_reducible repeat (first | apply rA_q | apply rN_q | apply rD_q)); exact (rM_q (Kd.R_far (p := ⟨gb620, 1, none⟩) (Kd.R_far (p := ⟨gb620, 0, none⟩) (Kd.R_types HO615.out BK620.out (by decide)) (fun _ hk => hk.2) (.int .i64 t612)) (fun _ hk => hk.2) (.slice Ao15 t613.length co15)) (fun _ h_ => h_.1))) (by decide)) hk (fun _ h => h.2)) (fun _ h => h.1)); have n3_ := Ae_q (rM_q (rK_q (i8_q (show IsS74 w _ g608 t606 t619 from by repeat (first | (with_reducible first | exact HI608.out | apply i2_q | apply i1_q | apply i0_q | apply i3_q | refine i4_q ?_ NB608_605.out _ | refine i4_q ?_ NB608_620.out _) | exact HI608.out)) (by (with_reducible repeat (first | apply rA_q | apply rN_q | apply rD_q)); exact (rM_q (Kd.R_far (p := ⟨gb620, 1, none⟩) (Kd.R_far (p := ⟨gb620, 0, none⟩) (Kd.R_types HO618.out BK620.out (by decide)) (fun _ hk => hk.2) (.int .i64 t612)) (fun _ hk => hk.2) (.slice Ao15 t613.length co15)) (fun _ h_ => h_.1))) (by decide)) hk (fun _ h => h.2)) (fun _ h => h.1)); have n4_ := Ae_q (kB_q hk (g' := gb620) (o := .cells #[.int .i64 t612, .slice Ao15 t613.length co15] 41 (0, 0)) (by (with_reducible repeat (first | refine bN_q ?_ _ | refine bW_q ?_ | refine bL_q ?_ _)); refine blk_put (cs := #[.int .i64 t612, .slice none 0 0]) ?_ 1 _ rfl; (with_reducible repeat (first | refine bN_q ?_ _ | refine bW_q ?_ | refine bL_q ?_ _)); refine blk_put (cs := #[.int .i64 0, .slice none 0 0]) ?_ 0 _ rfl; (with_reducible repeat (first | refine bN_q ?_ _ | refine bW_q ?_ | refine bL_q ?_ _)); exact BK620.out) NB620_608.out (by simp)); have n5_ := Ae_q (hb); have n6_ := Ae_q (hi); clear BK605; clear HO611; clear HO615; clear HO618; clear BK620; clear HB; clear HI608; have BK605 := n0_; have HO611 := n1_; have HO615 := n2_; have HO618 := n3_; have BK620 := n4_; have HB := n5_; have HI608 := n6_; clear n0_ n1_ n2_ n3_ n4_ n5_ n6_; (try clear hb); (try clear hb2); (try clear hk); (try clear hi)) | ((with_reducible refine gC_q (f := 34) rfl ?_); refine gL_q (some 26) rfl rfl Try.func34 (by kernel_rfl) rfl #[.pointer (some ⟨g608, 0, none⟩), .int .i64 8] rfl (by (try simp only [lM_q, lC_q, lN_q]); first | done | rfl | (simp only [lD_q, lT_q]; rfl)) ?_; (with_reducible refine (spec_l6Rd_pick.calls k g608 t606 t622 8 t623 t624 w _ ?side1 ?side2 A6.out).mono ?_); (case side1 => repeat (first | (with_reducible first | exact HI608.out | apply i2_q | apply i1_q | apply i0_q | apply i3_q | refine i4_q ?_ NB608_605.out _ | refine i4_q ?_ NB608_620.out _) | exact HI608.out)); (case side2 => repeat (first | (with_reducible first | exact HB.out | apply bA_q | apply pB_q | apply bD_q | refine bS_q ?_ (i5_q HI608.out) | refine bS_q ?_ GE605.out | refine bS_q ?_ GE620.out) | exact HB.out)); rintro e w18 ⟨rfl, hi, hb, hk⟩; refine ⟨_, rfl, ?_⟩; have n0_ := Ae_q (kB_q hk (g' := gb605) (o := .cells #[.int .i64 0, .slice none 0 0] 41 (0, 0)) (bup BK605.out) NB605_608.out (by simp)); have n1_ := Ae_q (Kd.S_mono (Kd.S_keep (IsS74.apartS (show IsS74 w _ g608 t606 t622 from by repeat (first | (with_reducible first | exact HI608.out | apply i2_q | apply i1_q | apply i0_q | apply i3_q | refine i4_q ?_ NB608_605.out _ | refine i4_q ?_ NB608_620.out _) | exact HI608.out)) (by (with_reducible repeat (first | apply tA_q | apply tN_q | apply tD_q)); exact HO611.out) (by decide)) hk (fun _ h => h.2)) (fun _ h => h.1)); have n2_ := Ae_q (rM_q (rK_q (i8_q (show IsS74 w _ g608 t606 t622 from by repeat (first | (with_reducible first | exact HI608.out | apply i2_q | apply i1_q | apply i0_q | apply i3_q | refine i4_q ?_ NB608_605.out _ | refine i4_q ?_ NB608_620.out _) | exact HI608.out)) (rup HO615.out) (by decide)) hk (fun _ h => h.2)) (fun _ h => h.1)); have n3_ := Ae_q (rM_q (rK_q (i8_q (show IsS74 w _ g608 t606 t622 from by repeat (first | (with_reducible first | exact HI608.out | apply i2_q | apply i1_q | apply i0_q | apply i3_q | refine i4_q ?_ NB608_605.out _ | refine i4_q ?_ NB608_620.out _) | exact HI608.out)) (rup HO618.out) (by decide)) hk (fun _ h => h.2)) (fun _ h => h.1)); have n4_ := Ae_q (kB_q hk (g' := gb620) (o := .cells #[.int .i64 t612, .slice Ao15 t613.length co15] 41 (0, 0)) (bup BK620.out) NB620_608.out (by simp)); have n5_ := Ae_q (hb); have n6_ := Ae_q (hi); clear BK605; clear HO611; clear HO615; clear HO618; clear BK620; clear HB; clear HI608; have BK605 := n0_; have HO611 := n1_; have HO615 := n2_; have HO618 := n3_; have BK620 := n4_; have HB := n5_; have HI608 := n6_; clear n0_ n1_ n2_ n3_ n4_ n5_ n6_; (try clear hb); (try clear hb2); (try clear hk); (try clear hi)))
  (try simp only [Act.put, sA_q, sZ_q, sS_q])
  go_cut [27] (fun v27 wc => ∃ (kq : Nat) (x27_6 : Bool), v27 = .bool x27_6 ∧ Aside0 (spec_DrawPlanValid.j0 kq t609 t616 t621 t623 x27_6 t606 t624 t612 t613 = some (r1, r2, r3, r4)) ∧ Aside0 (kq ≤ k) ∧ Aside0 (Kd.S k31 31 wc w.heap.size (fun k_ => some k_ ≠ ((.slice Ao16 t616.length co16) : Value).ownBlock ∧ some k_ ≠ ((.slice Ao15 t613.length co15) : Value).ownBlock) v610 t609) ∧ Aside0 (Kd.R kI_q 3 wc w.heap.size (fun k_ => some k_ ≠ ((.slice Ao15 t613.length co15) : Value).ownBlock) (.slice Ao16 t616.length co16) t616) ∧ Aside0 (Kd.R kI_q 3 wc w.heap.size (fun k_ => some k_ ≠ ((.slice Ao16 t616.length co16) : Value).ownBlock) (.slice Ao15 t613.length co15) t613) ∧ Aside0 (wc.heap[gb605]? = some (.cells #[.int .i64 0, (.slice none 0 0)] 41 (0, 0))) ∧ Aside0 (wc.heap[gb620]? = some (.cells #[.int .i64 t612, (.slice Ao15 t613.length co15)] 41 (0, 0))) ∧ Aside0 (IsS74 w wc g608 t606 t624) ∧ Aside0 (Below w.heap.size w wc))
  case first =>
   have H := HC7.out
   clear HC7
   by_cases c19 : t623 = 0
   ·rw [if_pos c19] at H
    have c19b0 : (t623 == 0) = true := beq_iff_eq.mpr c19
    have c19b1 : (t623 != 0) = false := nE_q.mpr c19
    clear c19
    (first | rw [c19b0] | (simp only [i64_w, i32_w]; rw [c19b0]) | skip)
    have H' := Ae_q H
    clear H
    go_wp2
    go_meet
    case rel => exact ⟨_, ((t623 == 0)), (by first | rfl | (simp; done) | (simp [*]; done)), H', ⟨by first | omega | exact nR_q _⟩, ⟨by (with_reducible repeat (first | apply tA_q | apply tN_q | apply tD_q)); exact Kd.S_mono HO611.out (fun _ hk => ⟨hk.2, hk.1⟩)⟩, ⟨by (with_reducible repeat (first | apply rA_q | apply rN_q | apply rD_q)); exact HO618.out⟩, ⟨by (with_reducible repeat (first | apply rA_q | apply rN_q | apply rD_q)); exact HO615.out⟩, ⟨by (with_reducible repeat (first | refine bN_q ?_ _ | refine bW_q ?_ | refine bL_q ?_ _)); exact BK605.out⟩, ⟨by (with_reducible repeat (first | refine bN_q ?_ _ | refine bW_q ?_ | refine bL_q ?_ _)); exact BK620.out⟩, ⟨by repeat (first | (with_reducible first | exact HI608.out | apply i2_q | apply i1_q | apply i0_q | apply i3_q | refine i4_q ?_ NB608_605.out _ | refine i4_q ?_ NB608_620.out _) | exact HI608.out)⟩, ⟨by repeat (first | (with_reducible first | exact HB.out | apply bA_q | apply pB_q | apply bD_q | refine bS_q ?_ (i5_q HI608.out) | refine bS_q ?_ GE605.out | refine bS_q ?_ GE620.out) | exact HB.out)⟩⟩
   rw [if_neg c19] at H
   have c19b0 : (t623 == 0) = false := fN_q.mpr c19
   have c19b1 : (t623 != 0) = true := nI_q.mpr c19
   (first | rw [c19b0] | (simp only [i64_w, i32_w]; rw [c19b0]) | skip)
   have H' := Ae_q H
   clear H
   go_wp2
   go_meet
   case rel => exact ⟨_, ((t623 == 1)), (by first | rfl | (simp; done) | (simp [*]; done)), H', ⟨by first | omega | exact nR_q _⟩, ⟨by (with_reducible repeat (first | apply tA_q | apply tN_q | apply tD_q)); exact Kd.S_mono HO611.out (fun _ hk => ⟨hk.2, hk.1⟩)⟩, ⟨by (with_reducible repeat (first | apply rA_q | apply rN_q | apply rD_q)); exact HO618.out⟩, ⟨by (with_reducible repeat (first | apply rA_q | apply rN_q | apply rD_q)); exact HO615.out⟩, ⟨by (with_reducible repeat (first | refine bN_q ?_ _ | refine bW_q ?_ | refine bL_q ?_ _)); exact BK605.out⟩, ⟨by (with_reducible repeat (first | refine bN_q ?_ _ | refine bW_q ?_ | refine bL_q ?_ _)); exact BK620.out⟩, ⟨by repeat (first | (with_reducible first | exact HI608.out | apply i2_q | apply i1_q | apply i0_q | apply i3_q | refine i4_q ?_ NB608_605.out _ | refine i4_q ?_ NB608_620.out _) | exact HI608.out)⟩, ⟨by repeat (first | (with_reducible first | exact HB.out | apply bA_q | apply pB_q | apply bD_q | refine bS_q ?_ (i5_q HI608.out) | refine bS_q ?_ GE605.out | refine bS_q ?_ GE620.out) | exact HB.out)⟩⟩
  case rest =>
   clear HC7
   try clear c1
   try clear c2
   try clear p2
   try clear c3
   try clear c4
   try clear c4b0
   try clear c4b1
   try clear c12
   try clear c13
   try clear c19
   try clear c19b0
   try clear c19b1
   try clear hcz14_0
   try clear hcz14_1
   try clear hfz14_0
   try clear hfz14_1
   obtain ⟨kq, x27_6, rfl, HA, HJ6, HO_6, HO_8, HO_621001, BK605, BK620, HI608, HB⟩ := hcut
   cases kq with
   | zero => exact absurd HA.out (by simp [spec_DrawPlanValid.j0])
   | succ kj6 =>
    have H := HA.out
    clear HA
    simp only [spec_DrawPlanValid.j0] at H
    by_cases c20 : x27_6 = true
    ·subst c20
     have H1 : (if 0 ≤ t621 then (if t621 < (t616.length : Int) then ((spec_l6Rd_pick.f kj6 t606 t624 6).bind fun bt626 => (some (t609, t612, t613, (t616.set (t621 : Int).toNat (wrap64 ((rd t616 t621) + bt626.1)))))) else (none)) else (none)) = some (r1, r2, r3, r4) := by rw [if_pos rfl] at H; exact H
     clear H
     have H := H1
     clear H1
     by_cases c21 : 0 ≤ t621
     ·rw [if_pos c21] at H
      have c21b0 : decide (0 ≤ t621) = true := dT_q c21
      clear c21
      by_cases c22 : t621 < (t616.length : Int)
      ·rw [if_pos c22] at H
       have c22b0 : decide (t621 < (t616.length : Int)) = true := dT_q c22
       clear c22
       replace H := oB_q.mp H
       obtain ⟨⟨t626, t627⟩, A230, H⟩ := H
       replace H : (some (t609, t612, t613, (t616.set (t621 : Int).toNat (wrap64 ((rd t616 t621) + t626))))) = some (r1, r2, r3, r4) := H
       have A23 := Ae_q A230
       clear A230
       obtain ⟨y628, hy628⟩ : ∃ y_ : List Int, y_ = (t616.set (t621 : Int).toNat (wrap64 ((rd t616 t621) + t626))) := ⟨_, rfl⟩
       replace H : (some (t609, t612, t613, y628)) = some (r1, r2, r3, r4) := by first | (rw [hy628]; with_reducible exact H) | (have H2_ := (oS_q _ _).symm.trans H; rw [hy628]; with_reducible exact H2_) | (have H2_ := (oS_q _ _).symm.trans H; with_reducible exact H2_) | with_reducible exact H | (rw [hy628]; exact H) | exact H
       have Ny628 := Ae_q hy628
       clear hy628
       simp only [oE_q, pE_q] at H
       obtain ⟨rfl, rfl, rfl, rfl⟩ := H
       try go_wp2
       have n0_ := Ae_q (tD_q HO_6.out)
       have n1_ := Ae_q (rD_q HO_8.out)
       have n2_ := Ae_q (rD_q HO_621001.out)
       have n3_ := Ae_q (bW_q BK605.out)
       have n4_ := Ae_q (bW_q BK620.out)
       have n5_ := Ae_q (i0_q HI608.out)
       have n6_ := Ae_q (bD_q HB.out)
       clear HO_6
       clear HO_8
       clear HO_621001
       clear BK605
       clear BK620
       clear HI608
       clear HB
       have HO_6 := n0_
       have HO_8 := n1_
       have HO_621001 := n2_
       have BK605 := n3_
       have BK620 := n4_
       have HI608 := n5_
       have HB := n6_
       clear n0_ n1_ n2_ n3_ n4_ n5_ n6_
       have p625 : 0 ≤ (t621 : Int) := oD_q (by assumption)
       have q625 : t621 < (t616.length : Int) := oD_q (by assumption)
       obtain ⟨ad625, e625, hx625_0⟩ := aI_q (rR_q HO_8.out).2.2 t621 p625 q625
       cases e625
       replace p625 := eq_true p625
       replace q625 := eq_true q625
       refine start_ (n := 11) (S := fun w' => w'.cell? (ad625.add (t621).toNat) = some (.int .i64 (rd t616 t621))) (ds := [10]) #[false, false, false, false, false, false, false, false, false, false, false] (by kernel_rfl) rfl rfl (hx625_0) (fun hHeld => ?_); refine with_tabW spec_DrawPlanValid.tab8 spec_DrawPlanValid.bits8 (fun HT_ HW_ => ?_)
       generalize wc.drew = w25 at HO_6 HO_8 HO_621001 BK605 BK620 HI608 HB hx625_0 hHeld ⊢
       refine pure_ (i := 0) (N := some 30) (v := ?_) (a' := ?_) #[true, false, false, false, false, false, false, false, false, false, false] rfl rfl (any_of HT_.out (by kernel_rfl)) (fun _ _ _ h => h) (Or.inl ⟨by rfl, ?_⟩) ?_ ?_
       rotate_left
       ·intro w'
        go_simp
        with_reducible rfl
       rotate_left
       ·simp only [Act.put, sA_q, sZ_q, sS_q, i64_w, i32_w]
        rfl
       refine pure_ (i := 1) (N := some 31) (v := ?_) (a' := ?_) #[true, true, false, false, false, false, false, false, false, false, false] rfl rfl (any_of HT_.out (by kernel_rfl)) (fun _ _ _ h => h) (Or.inl ⟨by rfl, ?_⟩) ?_ ?_
       rotate_left
       ·intro w'
        go_simp
        with_reducible rfl
       rotate_left
       ·simp only [Act.put, sA_q, sZ_q, sS_q, i64_w, i32_w]
        rfl
       refine pure_ (i := 2) (N := some 32) (v := ?_) (a' := ?_) #[true, true, true, false, false, false, false, false, false, false, false] rfl rfl (any_of HT_.out (by kernel_rfl)) (fun _ _ _ h => h) (Or.inl ⟨by rfl, ?_⟩) ?_ ?_
       rotate_left
       ·intro w'
        go_simp
        with_reducible rfl
       rotate_left
       ·simp only [Act.put, sA_q, sZ_q, sS_q, i64_w, i32_w]
        rfl
       refine pure_ (i := 3) (N := some 33) (v := ?_) (a' := ?_) #[true, true, true, true, false, false, false, false, false, false, false] rfl rfl (any_of HT_.out (by kernel_rfl)) (fun _ _ _ h => h) (Or.inl ⟨by rfl, ?_⟩) ?_ ?_
       rotate_left
       ·intro w'
        go_simp
        with_reducible rfl
       rotate_left
       ·simp only [Act.put, sA_q, sZ_q, sS_q, i64_w, i32_w]
        rfl
       refine pure_ (i := 4) (N := some 34) (v := ?_) (a' := ?_) #[true, true, true, true, true, false, false, false, false, false, false] rfl rfl (any_of HT_.out (by kernel_rfl)) (fun _ _ _ h => h) (Or.inl ⟨by rfl, ?_⟩) ?_ ?_
       rotate_left
       ·intro w'
        go_simp
        with_reducible rfl
       rotate_left
       ·simp only [Act.put, sA_q, sZ_q, sS_q, i64_w, i32_w]
        rfl
       refine pure_ (i := 6) (N := some 36) (v := ?_) (a' := ?_) #[true, true, true, true, true, false, true, false, false, false, false] rfl rfl (any_of HT_.out (by kernel_rfl)) (fun _ _ _ h => h) (Or.inl ⟨by rfl, ?_⟩) ?_ ?_
       rotate_left
       ·intro w'
        go_simp
        with_reducible rfl
       rotate_left
       ·simp only [Act.put, sA_q, sZ_q, sS_q, i64_w, i32_w]
        rfl
       refine take_ (i := 5) (N := some 35) (v := ?_) (a' := ?_) #[true, true, true, true, true, true, true, false, false, false, false] rfl rfl (take_ofW HT_.out HW_.out (by kernel_rfl)) (fun _ _ _ h => h) (Or.inl ⟨by rfl, ?_⟩) hHeld ?_ ?_
       rotate_left
       ·intro w' s0
        go_simp
        with_reducible rfl
       rotate_left
       ·simp only [Act.put, sA_q, sZ_q, sS_q, i64_w, i32_w]
        rfl
       refine one_ (i := 7) (N := some 37) #[true, true, true, true, true, true, true, true, false, false, false] rfl rfl (one_of HT_.out (by kernel_rfl)) (by decide) (fun K hK => ?_)
       refine goes_ Try.func34 (by kernel_rfl) rfl #[.pointer (some ⟨g608, 0, none⟩), .int .i64 6] (by rfl) rfl rfl (by (try simp only [lM_q, lC_q, lN_q]); first | done | rfl | (simp only [lD_q, lT_q]; rfl)) ?_
       with_reducible refine (spec_l6Rd_pick.calls kj6 g608 t606 t624 6 t626 t627 w _ ?side1 ?side2 A23.out).mono ?_
       (case side1 => repeat (first | (with_reducible first | exact HI608.out | apply i2_q | apply i1_q | apply i0_q | apply i3_q | refine i4_q ?_ NB608_605.out _ | refine i4_q ?_ NB608_620.out _) | exact HI608.out))
       (case side2 => repeat (first | (with_reducible first | exact HB.out | apply bA_q | apply pB_q | apply bD_q | refine bS_q ?_ (i5_q HI608.out) | refine bS_q ?_ GE605.out | refine bS_q ?_ GE620.out) | exact HB.out))
       rintro e w26 ⟨rfl, hi, hb, hk⟩
       have HS0_ := keep_cell hk (hHeld) (by first | (rw [add_block]; exact Kd.own_blk (IsS74.own_ne HI608.out HO_8.out (by decide))) | (show (Addr.add _ _).block ≠ _; rw [add_block]; exact Kd.own_blk (IsS74.own_ne HI608.out HO_8.out (by decide))) | exact Kd.own_blk (IsS74.own_ne HI608.out HO_8.out (by decide)))
       refine ⟨_, rfl, ?_⟩
       have n0_ := Ae_q (Kd.S_mono (Kd.S_keep (IsS74.apartS (show IsS74 w _ g608 t606 t624 from by repeat (first | (with_reducible first | exact HI608.out | apply i2_q | apply i1_q | apply i0_q | apply i3_q | refine i4_q ?_ NB608_605.out _ | refine i4_q ?_ NB608_620.out _) | exact HI608.out)) (by (with_reducible repeat (first | apply tA_q | apply tN_q | apply tD_q)); exact HO_6.out) (by decide)) hk (fun _ h => h.2)) (fun _ h => h.1))
       have n1_ := Ae_q (rM_q (rK_q (i8_q (show IsS74 w _ g608 t606 t624 from by repeat (first | (with_reducible first | exact HI608.out | apply i2_q | apply i1_q | apply i0_q | apply i3_q | refine i4_q ?_ NB608_605.out _ | refine i4_q ?_ NB608_620.out _) | exact HI608.out)) (rup HO_8.out) (by decide)) hk (fun _ h => h.2)) (fun _ h => h.1))
       have n2_ := Ae_q (rM_q (rK_q (i8_q (show IsS74 w _ g608 t606 t624 from by repeat (first | (with_reducible first | exact HI608.out | apply i2_q | apply i1_q | apply i0_q | apply i3_q | refine i4_q ?_ NB608_605.out _ | refine i4_q ?_ NB608_620.out _) | exact HI608.out)) (rup HO_621001.out) (by decide)) hk (fun _ h => h.2)) (fun _ h => h.1))
       have n3_ := Ae_q (kB_q hk (g' := gb605) (o := .cells #[.int .i64 0, .slice none 0 0] 41 (0, 0)) (bup BK605.out) NB605_608.out (by simp))
       have n4_ := Ae_q (kB_q hk (g' := gb620) (o := .cells #[.int .i64 t612, .slice Ao15 t613.length co15] 41 (0, 0)) (bup BK620.out) NB620_608.out (by simp))
       have n5_ := Ae_q (hb)
       have n6_ := Ae_q (hi)
       clear HO_6
       clear HO_8
       clear HO_621001
       clear BK605
       clear BK620
       clear HB
       clear HI608
       have HO_6 := n0_
       have HO_8 := n1_
       have HO_621001 := n2_
       have BK605 := n3_
       have BK620 := n4_
       have HB := n5_
       have HI608 := n6_
       clear n0_ n1_ n2_ n3_ n4_ n5_ n6_
       (try clear hb)
       (try clear hb2)
       (try clear hk)
       (try clear hi)
       have p24 : 0 ≤ (t621 : Int) := oD_q (by assumption)
       have q24 : (t621 : Int) < ((t616.length : Int) : Int) := oD_q (by assumption)
       obtain ⟨go24, co24, eo24, gb24, gl24, cl24, HG24⟩ := Kd.R_form HO_8.out (by omega)
       (first | cases eo24 | (injection eo24 with ea_ en_ ec_; (first | subst ea_ | (injection ea_ with ea_; subst ea_)); subst ec_; clear en_))
       have GB24 := Ae_q gb24
       have GG24 := Ae_q HG24
       clear gb24 gl24 HG24
       (first | simp only [add_plain] at hx625_0 | skip)
       obtain ⟨hx24_0, hf24_0⟩ := Kd.R_celln 0 HO_8.out (t621 : Int) p24 q24
       replace p24 := eq_true p24
       replace q24 := eq_true q24
       have HN608_go24 := Ae_q (show g608 ≠ go24 from by have h_ := IsS74.own_ne HI608.out HO_8.out (by decide); intro e_; exact h_ (by rw [e_]; rfl))
       have HP27 := Kd.R_putn HO_8.out (t621 : Int) (wrap64 ((rd t616 t621) + t626))
       rw [← Ny628.out] at HP27
       have HQ27 := Ae_q HP27
       clear HP27
       refine hK.out _ _ (HS0_) (fun hHeld => ?_)
       clear hK K
       refine norm_ (a' := ?_) ?_ ?_
       rotate_left
       ·show Act.put _ (some 37) _ = _
        simp only [Act.put, sA_q, sZ_q, sS_q, i64_w, i32_w]
        rfl
       refine pure_ (i := 8) (N := some 38) (v := ?_) (a' := ?_) #[true, true, true, true, true, true, true, true, true, false, false] rfl rfl (any_of HT_.out (by kernel_rfl)) (fun _ _ _ h => h) (Or.inl ⟨by rfl, ?_⟩) ?_ ?_
       rotate_left
       ·intro w'
        go_simp
        with_reducible rfl
       rotate_left
       ·simp only [Act.put, sA_q, sZ_q, sS_q, i64_w, i32_w]
        rfl
       refine pure_ (i := 9) (N := some 39) (v := ?_) (a' := ?_) #[true, true, true, true, true, true, true, true, true, true, false] rfl rfl (any_of HT_.out (by kernel_rfl)) (fun _ _ _ h => h) (Or.inl ⟨by rfl, ?_⟩) ?_ ?_
       rotate_left
       ·intro w'
        go_simp
        with_reducible rfl
       rotate_left
       ·simp only [Act.put, sA_q, sZ_q, sS_q, i64_w, i32_w]
        rfl
       refine last_ (i := 10) (N := none) #[true, true, true, true, true, true, true, true, true, true, true] rfl rfl (one_of HT_.out (by kernel_rfl)) (by decide) (fun K hK => ?_)
       refine skip_ (w1 := ?_) (by rfl) rfl ?_ ?_
       rotate_left
       ·go_simp
        rfl
       refine hK.out _ _ ?_
       clear hK K
       refine done_ (done_of HT_.out (by kernel_rfl)) ?_
       have n0_ : Aside0 (Kd.S k31 31 (w26.setCell ⟨go24, (t621 : Int).toNat, none⟩ (.int .i64 (wrap64 ((rd t616 t621) + t626)))) w.heap.size (fun k_ => some k_ ≠ (.slice (some ⟨go24, 0, none⟩) t616.length co16 : Value).ownBlock ∧ some k_ ≠ (.slice Ao15 t613.length co15 : Value).ownBlock) v610 t609) := ⟨by (with_reducible repeat (first | apply tA_q | apply tN_q | apply tD_q)); exact Kd.S_mono (Kd.S_far (p := ⟨go24, (t621 : Int).toNat, none⟩) (Kd.S_mono HO_6.out (fun k_ hk => (⟨hk, fun e_ => hk.1 (by rw [e_]; rfl)⟩ : _ ∧ k_ ≠ go24))) (fun _ hk => hk.2) (.int .i64 (wrap64 ((rd t616 t621) + t626)))) (fun _ hk => ⟨hk.1.1, hk.1.2⟩)⟩
       have n1_ : Aside0 (Kd.R kI_q 3 (w26.setCell ⟨go24, (t621 : Int).toNat, none⟩ (.int .i64 (wrap64 ((rd t616 t621) + t626)))) w.heap.size (fun k_ => some k_ ≠ (.slice Ao15 t613.length co15 : Value).ownBlock) (.slice (some ⟨go24, 0, none⟩) t616.length co16) y628) := ⟨by (with_reducible repeat (first | apply rA_q | apply rN_q | apply rD_q)); exact HQ27.out⟩
       have n2_ : Aside0 (Kd.R kI_q 3 (w26.setCell ⟨go24, (t621 : Int).toNat, none⟩ (.int .i64 (wrap64 ((rd t616 t621) + t626)))) w.heap.size (fun k_ => some k_ ≠ (.slice (some ⟨go24, 0, none⟩) t616.length co16 : Value).ownBlock) (.slice Ao15 t613.length co15) t613) := ⟨by (with_reducible repeat (first | apply rA_q | apply rN_q | apply rD_q)); exact rM_q (Kd.R_far (p := ⟨go24, (t621 : Int).toNat, none⟩) (rM_q HO_621001.out (fun k_ hk => (⟨hk, fun e_ => hk (by rw [e_]; rfl)⟩ : _ ∧ k_ ≠ go24))) (fun _ hk => hk.2) (.int .i64 (wrap64 ((rd t616 t621) + t626)))) (fun _ hk => hk.1)⟩
       have n3_ : Aside0 ((w26.setCell ⟨go24, (t621 : Int).toNat, none⟩ (.int .i64 (wrap64 ((rd t616 t621) + t626)))).heap[gb605]? = some (.cells #[.int .i64 0, .slice none 0 0] 41 (0, 0))) := ⟨by (with_reducible repeat (first | refine bN_q ?_ _ | refine bW_q ?_ | refine bL_q ?_ _)); refine blk_far ?_ (by have h_ := Kd.R_ne HO_8.out BK605.out (by decide); intro e_; exact h_ (by rw [e_]; rfl)) _; (with_reducible repeat (first | refine bN_q ?_ _ | refine bW_q ?_ | refine bL_q ?_ _)); exact BK605.out⟩
       have n4_ : Aside0 ((w26.setCell ⟨go24, (t621 : Int).toNat, none⟩ (.int .i64 (wrap64 ((rd t616 t621) + t626)))).heap[gb620]? = some (.cells #[.int .i64 t612, .slice Ao15 t613.length co15] 41 (0, 0))) := ⟨by (with_reducible repeat (first | refine bN_q ?_ _ | refine bW_q ?_ | refine bL_q ?_ _)); refine blk_far ?_ (by have h_ := Kd.R_ne HO_8.out BK620.out (by decide); intro e_; exact h_ (by rw [e_]; rfl)) _; (with_reducible repeat (first | refine bN_q ?_ _ | refine bW_q ?_ | refine bL_q ?_ _)); exact BK620.out⟩
       have n5_ : Aside0 (IsS74 w (w26.setCell ⟨go24, (t621 : Int).toNat, none⟩ (.int .i64 (wrap64 ((rd t616 t621) + t626)))) g608 t606 t627) := ⟨by repeat (first | (with_reducible first | exact HI608.out | apply i2_q | apply i1_q | apply i0_q | apply i3_q | refine i4_q ?_ HN608_go24.out _ | refine i4_q ?_ NB608_605.out _ | refine i4_q ?_ NB608_620.out _) | exact HI608.out)⟩
       have n6_ : Aside0 (Below w.heap.size w (w26.setCell ⟨go24, (t621 : Int).toNat, none⟩ (.int .i64 (wrap64 ((rd t616 t621) + t626))))) := ⟨by repeat (first | (with_reducible first | exact HB.out | apply bA_q | apply pB_q | apply bD_q | refine bS_q ?_ GB24.out | refine bS_q ?_ (i5_q HI608.out) | refine bS_q ?_ GE605.out | refine bS_q ?_ GE620.out) | exact HB.out)⟩
       (try clear HO_6)
       (try clear HO_8)
       (try clear HO_621001)
       (try clear BK605)
       (try clear BK620)
       (try clear HI608)
       (try clear HB)
       generalize (w26.setCell ⟨go24, (t621 : Int).toNat, none⟩ (.int .i64 (wrap64 ((rd t616 t621) + t626)))) = w28 at n0_ n1_ n2_ n3_ n4_ n5_ n6_ ⊢
       have HO_6 := n0_
       have HO_8 := n1_
       have HO_621001 := n2_
       have BK605 := n3_
       have BK620 := n4_
       have HI608 := n5_
       have HB := n6_
       clear n0_ n1_ n2_ n3_ n4_ n5_ n6_
       try go_wp2
       have n0_ := Ae_q (tD_q HO_6.out)
       have n1_ := Ae_q (rD_q HO_8.out)
       have n2_ := Ae_q (rD_q HO_621001.out)
       have n3_ := Ae_q (bW_q BK605.out)
       have n4_ := Ae_q (bW_q BK620.out)
       have n5_ := Ae_q (i0_q HI608.out)
       have n6_ := Ae_q (bD_q HB.out)
       clear HO_6
       clear HO_8
       clear HO_621001
       clear BK605
       clear BK620
       clear HI608
       clear HB
       have HO_6 := n0_
       have HO_8 := n1_
       have HO_621001 := n2_
       have BK605 := n3_
       have BK620 := n4_
       have HI608 := n5_
       have HB := n6_
       clear n0_ n1_ n2_ n3_ n4_ n5_ n6_
       refine start_ (n := 6) (S := fun w' => w'.cell? ⟨gb620, 0, none⟩ = some (.int .i64 t612) ∧ w'.cell? ⟨gb620, 1, none⟩ = some (.slice Ao15 t613.length co15)) (ds := []) #[false, false, false, false, false, false] (by kernel_rfl) rfl rfl ⟨(bC_q BK620.out 0).trans rfl, (bC_q BK620.out 1).trans rfl⟩ (fun hHeld => ?_)
       generalize w28.drew = w29 at HO_6 HO_8 HO_621001 BK605 BK620 HI608 HB hHeld ⊢
       refine pure_ (i := 0) (N := some 56) (v := ?_) (a' := ?_) #[true, false, false, false, false, false] rfl rfl (by kernel_rfl) (fun _ _ _ h => h) (Or.inl ⟨by rfl, ?_⟩) ?_ ?_
       rotate_left
       ·intro w'
        go_simp
        with_reducible rfl
       rotate_left
       ·simp only [Act.put, sA_q, sZ_q, sS_q, i64_w, i32_w]
        rfl
       refine pure_ (i := 2) (N := some 58) (v := ?_) (a' := ?_) #[true, false, true, false, false, false] rfl rfl (by kernel_rfl) (fun _ _ _ h => h) (Or.inl ⟨by rfl, ?_⟩) ?_ ?_
       rotate_left
       ·intro w'
        go_simp
        with_reducible rfl
       rotate_left
       ·simp only [Act.put, sA_q, sZ_q, sS_q, i64_w, i32_w]
        rfl
       refine pure_ (i := 3) (N := some 2) (v := ?_) (a' := ?_) #[true, false, true, true, false, false] rfl rfl (by kernel_rfl) (fun _ _ _ h => h) (Or.inl ⟨by rfl, ?_⟩) ?_ ?_
       rotate_left
       ·intro w'
        go_simp
        with_reducible rfl
       rotate_left
       ·simp only [Act.put, sA_q, sZ_q, sS_q, i64_w, i32_w]
        rfl
       refine take_ (i := 1) (N := some 57) (v := ?_) (a' := ?_) #[true, true, true, true, false, false] rfl rfl (by kernel_rfl) (fun _ _ _ h => h) (Or.inl ⟨by rfl, ?_⟩) hHeld ?_ ?_
       rotate_left
       ·rintro w' ⟨s0, s1⟩
        go_simp
        with_reducible rfl
       rotate_left
       ·simp only [Act.put, sA_q, sZ_q, sS_q, i64_w, i32_w]
        rfl
       refine one_ (i := 4) (N := none) #[true, true, true, true, true, false] rfl rfl (by kernel_rfl) (by decide) (fun K hK => ?_)
       have hs30 : w29.cell? ⟨gb605, 0, none⟩ = some (.int .i64 0) := (bC_q BK605.out 0).trans rfl
       have hfs30 := bF_q BK605.out 0
       have hns30_1 := NB620_605.out
       have hms30_1 := NB605_620.out
       have hs31 : w29.cell? ⟨gb605, 1, none⟩ = some (.slice none 0 0) := (bC_q BK605.out 1).trans rfl
       have hfs31 := bF_q BK605.out 1
       have hns31_1 := NB620_605.out
       have hms31_1 := NB605_620.out
       refine skip_ (w1 := ?_) (by rfl) rfl ?_ ?_
       rotate_left
       ·go_simp
        rfl
       refine hK.out _ _ ⟨((cell_far (p := ⟨gb605, _, none⟩) NB620_605.out _).trans (((cell_far (p := ⟨gb605, _, none⟩) NB620_605.out _).trans (hHeld.1)))), ((cell_far (p := ⟨gb605, _, none⟩) NB620_605.out _).trans (((cell_far (p := ⟨gb605, _, none⟩) NB620_605.out _).trans (hHeld.2))))⟩ (fun hHeld => ?_)
       clear hK K
       refine pure_ (i := 5) (N := some 4) (v := ?_) (a' := ?_) #[true, true, true, true, true, true] rfl rfl (by kernel_rfl) (fun _ _ _ h => h) (Or.inl ⟨by rfl, ?_⟩) ?_ ?_
       rotate_left
       ·intro w'
        go_simp
        with_reducible rfl
       rotate_left
       ·simp only [Act.put, sA_q, sZ_q, sS_q, i64_w, i32_w]
        rfl
       refine done_ (by kernel_rfl) ?_
       try go_wp2
       refine bodyPost_ret (results_list (rs := [.tmp 2, .cell 3 41, .tmp 4]) rfl (by simp) (.tmp (.cell gb605 41 #[.int .i64 t612, .slice Ao15 t613.length co15] (0, 0) _ rfl (by (with_reducible repeat (first | refine bN_q ?_ _ | refine bW_q ?_ | refine bL_q ?_ _)); refine blk_put (cs := #[.int .i64 t612, .slice none 0 0]) ?_ 1 _ rfl; (with_reducible repeat (first | refine bN_q ?_ _ | refine bW_q ?_ | refine bL_q ?_ _)); refine blk_put (cs := #[.int .i64 0, .slice none 0 0]) ?_ 0 _ rfl; (with_reducible repeat (first | refine bN_q ?_ _ | refine bW_q ?_ | refine bL_q ?_ _)); exact BK605.out) Try.underlying41 rfl (by kernel_rfl) (.tmp .nil)))) rfl ?_
       exact ⟨_, _, _, by first | rfl | (simp [eN_q, eS_q] <;> rfl) | (simp [*, eN_q, eS_q] <;> rfl), by (with_reducible repeat (first | apply tA_q | apply tN_q | apply tD_q)); exact Kd.S_mono (Kd.S_far (p := ⟨gb605, 1, none⟩) (Kd.S_far (p := ⟨gb605, 0, none⟩) (Kd.S_types HO_6.out BK605.out (by decide)) (fun _ hk => hk.2) (.int .i64 t612)) (fun _ hk => hk.2) (.slice Ao15 t613.length co15)) (fun _ hk => ⟨hk.1.2, hk.1.1⟩), by (with_reducible repeat (first | apply rA_q | apply rN_q | apply rD_q)); exact rM_q (Kd.R_far (p := ⟨gb605, 1, none⟩) (Kd.R_far (p := ⟨gb605, 0, none⟩) (Kd.R_types HO_621001.out BK605.out (by decide)) (fun _ hk => hk.2) (.int .i64 t612)) (fun _ hk => hk.2) (.slice Ao15 t613.length co15)) (fun _ hk => hk.1), Kd.Q_of_R (by (with_reducible repeat (first | apply rA_q | apply rN_q | apply rD_q)); exact rM_q (Kd.R_far (p := ⟨gb605, 1, none⟩) (Kd.R_far (p := ⟨gb605, 0, none⟩) (Kd.R_types HO_8.out BK605.out (by decide)) (fun _ hk => hk.2) (.int .i64 t612)) (fun _ hk => hk.2) (.slice Ao15 t613.length co15)) (fun _ hk => hk.1)), by repeat (first | (with_reducible first | exact HB.out | apply bA_q | apply pB_q | apply bD_q | refine bS_q ?_ (i5_q HI608.out) | refine bS_q ?_ GE605.out | refine bS_q ?_ GE620.out) | exact HB.out)⟩
      rw [if_neg c22] at H
      exact absurd H (by simp)
     rw [if_neg c21] at H
     exact absurd H (by simp)
    replace c20 := fM_q.mpr c20
    subst c20
    have H1 : (if t623 = 2 then (if 0 ≤ t621 then (if t621 < (t616.length : Int) then (some (t609, t612, t613, (t616.set (t621 : Int).toNat (wrap64 ((rd t616 t621) - 1))))) else (none)) else (none)) else (if t623 = 3 then (if 1 ≤ (t616.length : Int) then (some (t609, t612, t613, (t616.drop (1 : Int).toNat))) else (none)) else (some (t609, t612, t613, t616)))) = some (r1, r2, r3, r4) := by rw [if_neg (show ¬ (false = true) by decide)] at H; exact H
    clear H
    have H := H1
    clear H1
    by_cases c32 : t623 = 2
    ·rw [if_pos c32] at H
     have c32b0 : (t623 == 2) = true := beq_iff_eq.mpr c32
     have c32b1 : (t623 != 2) = false := nE_q.mpr c32
     clear c32
     by_cases c33 : 0 ≤ t621
     ·rw [if_pos c33] at H
      have c33b0 : decide (0 ≤ t621) = true := dT_q c33
      clear c33
      by_cases c34 : t621 < (t616.length : Int)
      ·rw [if_pos c34] at H
       have c34b0 : decide (t621 < (t616.length : Int)) = true := dT_q c34
       clear c34
       obtain ⟨y630, hy630⟩ : ∃ y_ : List Int, y_ = (t616.set (t621 : Int).toNat (wrap64 ((rd t616 t621) - 1))) := ⟨_, rfl⟩
       replace H : (some (t609, t612, t613, y630)) = some (r1, r2, r3, r4) := by first | (rw [hy630]; with_reducible exact H) | (have H2_ := (oS_q _ _).symm.trans H; rw [hy630]; with_reducible exact H2_) | (have H2_ := (oS_q _ _).symm.trans H; with_reducible exact H2_) | with_reducible exact H | (rw [hy630]; exact H) | exact H
       have Ny630 := Ae_q hy630
       clear hy630
       simp only [oE_q, pE_q] at H
       obtain ⟨rfl, rfl, rfl, rfl⟩ := H
       have p629 : 0 ≤ (t621 : Int) := oD_q (by assumption)
       have q629 : t621 < (t616.length : Int) := oD_q (by assumption)
       obtain ⟨ad629, e629, hx629_0⟩ := aI_q (rR_q HO_8.out).2.2 t621 p629 q629
       cases e629
       replace p629 := eq_true p629
       replace q629 := eq_true q629
       have p35 : 0 ≤ (t621 : Int) := oD_q (by assumption)
       have q35 : (t621 : Int) < ((t616.length : Int) : Int) := oD_q (by assumption)
       obtain ⟨go35, co35, eo35, gb35, gl35, cl35, HG35⟩ := Kd.R_form HO_8.out (by omega)
       (first | cases eo35 | (injection eo35 with ea_ en_ ec_; (first | subst ea_ | (injection ea_ with ea_; subst ea_)); subst ec_; clear en_))
       have GB35 := Ae_q gb35
       have GG35 := Ae_q HG35
       clear gb35 gl35 HG35
       (first | simp only [add_plain] at hx629_0 | skip)
       obtain ⟨hx35_0, hf35_0⟩ := Kd.R_celln 0 HO_8.out (t621 : Int) p35 q35
       replace p35 := eq_true p35
       replace q35 := eq_true q35
       have HP36 := Kd.R_putg HO_8.out (t621 : Int) (wrap64 ((rd t616 t621) - 1))
       try go_wp2_with (first | ((with_reducible refine gate_store (t := 3) (p := 49) rfl ?_); refine store_event (t := 3) (p := 49) (v := ?vo_w37) (w1 := (wc.setCell ⟨go35, (t621 : Int).toNat, none⟩ (.int .i64 (wrap64 ((rd t616 t621) - 1))))) ?hg ?ho ?hn ?hr ?_; (case ho => rfl); (case hg => rfl); (case hn => rfl); (case hr => first | (go_simp; done) | (go_simp; rfl)); intro w37 hw; have hg : wc.grownBy w37 (some go35) := (by rw [hw]; exact HP36.2); have hp_ : Kd.R kI_q 3 w37 w.heap.size (fun k_ => some k_ ≠ (.slice Ao15 t613.length co15 : Value).ownBlock) (.slice (some ⟨go35, 0, none⟩) t616.length co16) y630 := (by rw [hw, Ny630.out]; exact HP36.1); clear HP36; have n0_ := Ae_q (Kd.S_after (v := (.slice (some ⟨go35, 0, none⟩) t616.length co16)) (v1 := (.slice (some ⟨go35, 0, none⟩) t616.length co16)) (ok := (fun k_ => some k_ ≠ (.slice Ao15 t613.length co15 : Value).ownBlock)) (by (with_reducible repeat (first | apply tA_q | apply tN_q | apply tD_q)); exact Kd.S_mono HO_6.out (fun _ hk => ⟨hk.2, hk.1⟩)) hg (.inl rfl)); have n1_ := Ae_q (hp_); have n2_ := Ae_q (rF_q (v := (.slice (some ⟨go35, 0, none⟩) t616.length co16)) (v1 := (.slice (some ⟨go35, 0, none⟩) t616.length co16)) (ok := (fun _ => True)) (by (with_reducible repeat (first | apply rA_q | apply rN_q | apply rD_q)); exact rM_q HO_621001.out (fun _ hk => ⟨trivial, hk⟩)) hg (.inl rfl)); have n3_ := Ae_q (bG_q (g := gb605) (o := .cells #[.int .i64 0, .slice none 0 0] 41 (0, 0)) (bup BK605.out) hg (Kd.R_ne HO_8.out BK605.out (by decide))); have n4_ := Ae_q (bG_q (g := gb620) (o := .cells #[.int .i64 t612, .slice Ao15 t613.length co15] 41 (0, 0)) (bup BK620.out) hg (Kd.R_ne HO_8.out BK620.out (by decide))); have n5_ := Ae_q (IsS74.grown (by repeat (first | (with_reducible first | exact HI608.out | apply i2_q | apply i1_q | apply i0_q | apply i3_q | refine i4_q ?_ NB608_605.out _ | refine i4_q ?_ NB608_620.out _) | exact HI608.out)) hg (IsS74.own_ne HI608.out HO_8.out (by decide))); have n6_ := Ae_q ((by rw [hw]; exact bS_q (HB.out) GB35.out : Below w.heap.size w w37)); clear HO_6; clear HO_8; clear HO_621001; clear BK605; clear BK620; clear HI608; clear HB; have HO_6 := n0_; have HO_8 := n1_; have HO_621001 := n2_; have BK605 := n3_; have BK620 := n4_; have HI608 := n5_; have HB := n6_; clear n0_ n1_ n2_ n3_ n4_ n5_ n6_; clear hg hw hp_))
       have n0_ := Ae_q (tD_q HO_6.out)
       have n1_ := Ae_q (rD_q HO_8.out)
       have n2_ := Ae_q (rD_q HO_621001.out)
       have n3_ := Ae_q (bW_q BK605.out)
       have n4_ := Ae_q (bW_q BK620.out)
       have n5_ := Ae_q (i0_q HI608.out)
       have n6_ := Ae_q (bD_q HB.out)
       clear HO_6
       clear HO_8
       clear HO_621001
       clear BK605
       clear BK620
       clear HI608
       clear HB
       have HO_6 := n0_
       have HO_8 := n1_
       have HO_621001 := n2_
       have BK605 := n3_
       have BK620 := n4_
       have HI608 := n5_
       have HB := n6_
       clear n0_ n1_ n2_ n3_ n4_ n5_ n6_
       refine start_ (n := 6) (S := fun w' => w'.cell? ⟨gb620, 0, none⟩ = some (.int .i64 t612) ∧ w'.cell? ⟨gb620, 1, none⟩ = some (.slice Ao15 t613.length co15)) (ds := []) #[false, false, false, false, false, false] (by kernel_rfl) rfl rfl ⟨(bC_q BK620.out 0).trans rfl, (bC_q BK620.out 1).trans rfl⟩ (fun hHeld => ?_)
       generalize w37.drew = w38 at HO_6 HO_8 HO_621001 BK605 BK620 HI608 HB hHeld ⊢
       refine pure_ (i := 0) (N := some 56) (v := ?_) (a' := ?_) #[true, false, false, false, false, false] rfl rfl (by kernel_rfl) (fun _ _ _ h => h) (Or.inl ⟨by rfl, ?_⟩) ?_ ?_
       rotate_left
       ·intro w'
        go_simp
        with_reducible rfl
       rotate_left
       ·simp only [Act.put, sA_q, sZ_q, sS_q, i64_w, i32_w]
        rfl
       refine pure_ (i := 2) (N := some 58) (v := ?_) (a' := ?_) #[true, false, true, false, false, false] rfl rfl (by kernel_rfl) (fun _ _ _ h => h) (Or.inl ⟨by rfl, ?_⟩) ?_ ?_
       rotate_left
       ·intro w'
        go_simp
        with_reducible rfl
       rotate_left
       ·simp only [Act.put, sA_q, sZ_q, sS_q, i64_w, i32_w]
        rfl
       refine pure_ (i := 3) (N := some 2) (v := ?_) (a' := ?_) #[true, false, true, true, false, false] rfl rfl (by kernel_rfl) (fun _ _ _ h => h) (Or.inl ⟨by rfl, ?_⟩) ?_ ?_
       rotate_left
       ·intro w'
        go_simp
        with_reducible rfl
       rotate_left
       ·simp only [Act.put, sA_q, sZ_q, sS_q, i64_w, i32_w]
        rfl
       refine take_ (i := 1) (N := some 57) (v := ?_) (a' := ?_) #[true, true, true, true, false, false] rfl rfl (by kernel_rfl) (fun _ _ _ h => h) (Or.inl ⟨by rfl, ?_⟩) hHeld ?_ ?_
       rotate_left
       ·rintro w' ⟨s0, s1⟩
        go_simp
        with_reducible rfl
       rotate_left
       ·simp only [Act.put, sA_q, sZ_q, sS_q, i64_w, i32_w]
        rfl
       refine one_ (i := 4) (N := none) #[true, true, true, true, true, false] rfl rfl (by kernel_rfl) (by decide) (fun K hK => ?_)
       have hs39 : w38.cell? ⟨gb605, 0, none⟩ = some (.int .i64 0) := (bC_q BK605.out 0).trans rfl
       have hfs39 := bF_q BK605.out 0
       have hns39_1 := NB620_605.out
       have hms39_1 := NB605_620.out
       have hs40 : w38.cell? ⟨gb605, 1, none⟩ = some (.slice none 0 0) := (bC_q BK605.out 1).trans rfl
       have hfs40 := bF_q BK605.out 1
       have hns40_1 := NB620_605.out
       have hms40_1 := NB605_620.out
       refine skip_ (w1 := ?_) (by rfl) rfl ?_ ?_
       rotate_left
       ·go_simp
        rfl
       refine hK.out _ _ ⟨((cell_far (p := ⟨gb605, _, none⟩) NB620_605.out _).trans (((cell_far (p := ⟨gb605, _, none⟩) NB620_605.out _).trans (hHeld.1)))), ((cell_far (p := ⟨gb605, _, none⟩) NB620_605.out _).trans (((cell_far (p := ⟨gb605, _, none⟩) NB620_605.out _).trans (hHeld.2))))⟩ (fun hHeld => ?_)
       clear hK K
       refine pure_ (i := 5) (N := some 4) (v := ?_) (a' := ?_) #[true, true, true, true, true, true] rfl rfl (by kernel_rfl) (fun _ _ _ h => h) (Or.inl ⟨by rfl, ?_⟩) ?_ ?_
       rotate_left
       ·intro w'
        go_simp
        with_reducible rfl
       rotate_left
       ·simp only [Act.put, sA_q, sZ_q, sS_q, i64_w, i32_w]
        rfl
       refine done_ (by kernel_rfl) ?_
       try go_wp2
       refine bodyPost_ret (results_list (rs := [.tmp 2, .cell 3 41, .tmp 4]) rfl (by simp) (.tmp (.cell gb605 41 #[.int .i64 t612, .slice Ao15 t613.length co15] (0, 0) _ rfl (by (with_reducible repeat (first | refine bN_q ?_ _ | refine bW_q ?_ | refine bL_q ?_ _)); refine blk_put (cs := #[.int .i64 t612, .slice none 0 0]) ?_ 1 _ rfl; (with_reducible repeat (first | refine bN_q ?_ _ | refine bW_q ?_ | refine bL_q ?_ _)); refine blk_put (cs := #[.int .i64 0, .slice none 0 0]) ?_ 0 _ rfl; (with_reducible repeat (first | refine bN_q ?_ _ | refine bW_q ?_ | refine bL_q ?_ _)); exact BK605.out) Try.underlying41 rfl (by kernel_rfl) (.tmp .nil)))) rfl ?_
       exact ⟨_, _, _, by first | rfl | (simp [eN_q, eS_q] <;> rfl) | (simp [*, eN_q, eS_q] <;> rfl), by (with_reducible repeat (first | apply tA_q | apply tN_q | apply tD_q)); exact Kd.S_mono (Kd.S_far (p := ⟨gb605, 1, none⟩) (Kd.S_far (p := ⟨gb605, 0, none⟩) (Kd.S_types HO_6.out BK605.out (by decide)) (fun _ hk => hk.2) (.int .i64 t612)) (fun _ hk => hk.2) (.slice Ao15 t613.length co15)) (fun _ hk => ⟨hk.1.1, hk.1.2⟩), by (with_reducible repeat (first | apply rA_q | apply rN_q | apply rD_q)); exact rM_q (Kd.R_far (p := ⟨gb605, 1, none⟩) (Kd.R_far (p := ⟨gb605, 0, none⟩) (Kd.R_types HO_621001.out BK605.out (by decide)) (fun _ hk => hk.2) (.int .i64 t612)) (fun _ hk => hk.2) (.slice Ao15 t613.length co15)) (fun _ hk => hk.1.2), Kd.Q_of_R (by (with_reducible repeat (first | apply rA_q | apply rN_q | apply rD_q)); exact rM_q (Kd.R_far (p := ⟨gb605, 1, none⟩) (Kd.R_far (p := ⟨gb605, 0, none⟩) (Kd.R_types HO_8.out BK605.out (by decide)) (fun _ hk => hk.2) (.int .i64 t612)) (fun _ hk => hk.2) (.slice Ao15 t613.length co15)) (fun _ hk => hk.1)), by repeat (first | (with_reducible first | exact HB.out | apply bA_q | apply pB_q | apply bD_q | refine bS_q ?_ (i5_q HI608.out) | refine bS_q ?_ GE605.out | refine bS_q ?_ GE620.out) | exact HB.out)⟩
      rw [if_neg c34] at H
      exact absurd H (by simp)
     rw [if_neg c33] at H
     exact absurd H (by simp)
    rw [if_neg c32] at H
    have c32b0 : (t623 == 2) = false := fN_q.mpr c32
    have c32b1 : (t623 != 2) = true := nI_q.mpr c32
    by_cases c41 : t623 = 3
    ·rw [if_pos c41] at H
     have c41b0 : (t623 == 3) = true := beq_iff_eq.mpr c41
     have c41b1 : (t623 != 3) = false := nE_q.mpr c41
     clear c41
     by_cases c42 : 1 ≤ (t616.length : Int)
     ·rw [if_pos c42] at H
      have c42b0 := eq_true c42
      have c42b1 : decide (1 ≤ (t616.length : Int)) = true := dT_q c42
      clear c42
      obtain ⟨y631, hy631⟩ : ∃ y_ : List Int, y_ = (t616.drop (1 : Int).toNat) := ⟨_, rfl⟩
      replace H : (some (t609, t612, t613, y631)) = some (r1, r2, r3, r4) := by first | (rw [hy631]; with_reducible exact H) | (have H2_ := (oS_q _ _).symm.trans H; rw [hy631]; with_reducible exact H2_) | (have H2_ := (oS_q _ _).symm.trans H; with_reducible exact H2_) | with_reducible exact H | (rw [hy631]; exact H) | exact H
      have Ny631 := Ae_q hy631
      clear hy631
      simp only [oE_q, pE_q] at H
      obtain ⟨rfl, rfl, rfl, rfl⟩ := H
      try go_wp2
      have n0_ := Ae_q (tD_q HO_6.out)
      have n1_ := Ae_q (rD_q HO_8.out)
      have n2_ := Ae_q (rD_q HO_621001.out)
      have n3_ := Ae_q (bW_q BK605.out)
      have n4_ := Ae_q (bW_q BK620.out)
      have n5_ := Ae_q (i0_q HI608.out)
      have n6_ := Ae_q (bD_q HB.out)
      clear HO_6
      clear HO_8
      clear HO_621001
      clear BK605
      clear BK620
      clear HI608
      clear HB
      have HO_6 := n0_
      have HO_8 := n1_
      have HO_621001 := n2_
      have BK605 := n3_
      have BK620 := n4_
      have HI608 := n5_
      have HB := n6_
      clear n0_ n1_ n2_ n3_ n4_ n5_ n6_
      have q44 : (1 : Int) ≤ ((t616.length : Int) : Int) := oD_q (by assumption)
      obtain ⟨i044, hi044, _, hsz44, _⟩ := info_parts info3
      have hcut44 := cut_from (P := Try.prog) 24 3 .i64 Try.underlying24 hi044 1 hsz44 Ao16 t616.length co16 1 (by omega) q44
      have hr44 := Kd.Q_drop (k := (1 : Int).toNat) (Kd.Q_of_R HO_8.out) (by omega)
      obtain ⟨A44, hA44⟩ : ∃ A1, A1 = (if co16 = (1 : Int).toNat then Ao16 else (Ao16 : Option Addr).map (·.add ((1 : Int).toNat * 1))) := ⟨_, rfl⟩
      obtain ⟨c44, hc44⟩ : ∃ c1, c1 = co16 - (1 : Int).toNat := ⟨_, rfl⟩
      have hy44 : y631.length = t616.length - (1 : Int).toNat := (by rw [Ny631.out, lD_q])
      rw [← Ny631.out] at hr44
      rw [← hy44, ← hA44, ← hc44] at hcut44
      replace hr44 : Kd.Q kI_q 3 (wc.drew) w.heap.size (fun k_ => some k_ ≠ (.slice Ao15 t613.length co15 : Value).ownBlock) (.slice A44 y631.length c44) y631 := (by rw [hA44, hc44, hy44]; exact hr44)
      have HE44 : Aside0 ((Value.slice A44 y631.length c44).ownBlock = (.slice Ao16 t616.length co16 : Value).ownBlock) := ⟨by rw [hA44]; split <;> (cases (Ao16 : Option Addr) <;> rfl)⟩
      clear hy44 hi044 hsz44 HO_8 hA44 hc44
      have HO633 := Ae_q hr44
      clear hr44
      replace q44 := eq_true q44
      have n_ := Ae_q (Kd.S_mono (ok' := fun k_ => (some k_ ≠ (.slice A44 y631.length c44 : Value).ownBlock ∧ some k_ ≠ (.slice Ao15 t613.length co15 : Value).ownBlock)) HO_6.out (fun k_ hk => ⟨(by rw [HE44.out]; exact hk.1), hk.2⟩))
      clear HO_6
      have HO_6 := n_
      clear n_
      have n_ := Ae_q (rM_q (ok' := fun k_ => some k_ ≠ (.slice A44 y631.length c44 : Value).ownBlock) HO_621001.out (fun k_ hk => (by rw [HE44.out]; exact hk)))
      clear HO_621001
      have HO_621001 := n_
      clear n_
      refine start_ (n := 7) (S := fun w' => w'.cell? ⟨gb620, 0, none⟩ = some (.int .i64 t612) ∧ w'.cell? ⟨gb620, 1, none⟩ = some (.slice Ao15 t613.length co15)) (ds := []) #[false, false, false, false, false, false, false] (by kernel_rfl) rfl rfl ⟨(bC_q BK620.out 0).trans rfl, (bC_q BK620.out 1).trans rfl⟩ (fun hHeld => ?_)
      generalize wc.drew = w43 at HO_6 HO_621001 BK605 BK620 HI608 HB HO633 hHeld ⊢
      refine pure_ (i := 0) (N := some 52) (v := ?_) (a' := ?_) #[true, false, false, false, false, false, false] rfl rfl (by kernel_rfl) (fun _ _ _ h => h) (Or.inl ⟨by rfl, ?_⟩) ?_ ?_
      rotate_left
      ·intro w'
       go_simp
       with_reducible rfl
      rotate_left
      ·simp only [Act.put, sA_q, sZ_q, sS_q, i64_w, i32_w]
       rfl
      refine pure_ (i := 2) (N := some 54) (v := ?_) (a' := ?_) #[true, false, true, false, false, false, false] rfl rfl (by kernel_rfl) (fun _ _ _ h => h) (Or.inl ⟨by rfl, ?_⟩) ?_ ?_
      rotate_left
      ·intro w'
       go_simp
       with_reducible rfl
      rotate_left
      ·simp only [Act.put, sA_q, sZ_q, sS_q, i64_w, i32_w]
       rfl
      refine pure_ (i := 3) (N := some 55) (v := ?_) (a' := ?_) #[true, false, true, true, false, false, false] rfl rfl (by kernel_rfl) (fun _ _ _ h => h) (Or.inl ⟨by rfl, ?_⟩) ?_ ?_
      rotate_left
      ·intro w'
       go_simp
       with_reducible rfl
      rotate_left
      ·simp only [Act.put, sA_q, sZ_q, sS_q, i64_w, i32_w]
       rfl
      refine pure_ (i := 4) (N := some 2) (v := ?_) (a' := ?_) #[true, false, true, true, true, false, false] rfl rfl (by kernel_rfl) (fun _ _ _ h => h) (Or.inl ⟨by rfl, ?_⟩) ?_ ?_
      rotate_left
      ·intro w'
       go_simp
       with_reducible rfl
      rotate_left
      ·simp only [Act.put, sA_q, sZ_q, sS_q, i64_w, i32_w]
       rfl
      refine take_ (i := 1) (N := some 53) (v := ?_) (a' := ?_) #[true, true, true, true, true, false, false] rfl rfl (by kernel_rfl) (fun _ _ _ h => h) (Or.inl ⟨by rfl, ?_⟩) hHeld ?_ ?_
      rotate_left
      ·rintro w' ⟨s0, s1⟩
       go_simp
       with_reducible rfl
      rotate_left
      ·simp only [Act.put, sA_q, sZ_q, sS_q, i64_w, i32_w]
       rfl
      refine one_ (i := 5) (N := none) #[true, true, true, true, true, true, false] rfl rfl (by kernel_rfl) (by decide) (fun K hK => ?_)
      have hs45 : w43.cell? ⟨gb605, 0, none⟩ = some (.int .i64 0) := (bC_q BK605.out 0).trans rfl
      have hfs45 := bF_q BK605.out 0
      have hns45_1 := NB620_605.out
      have hms45_1 := NB605_620.out
      have hs46 : w43.cell? ⟨gb605, 1, none⟩ = some (.slice none 0 0) := (bC_q BK605.out 1).trans rfl
      have hfs46 := bF_q BK605.out 1
      have hns46_1 := NB620_605.out
      have hms46_1 := NB605_620.out
      refine skip_ (w1 := ?_) (by rfl) rfl ?_ ?_
      rotate_left
      ·go_simp
       rfl
      refine hK.out _ _ ⟨((cell_far (p := ⟨gb605, _, none⟩) NB620_605.out _).trans (((cell_far (p := ⟨gb605, _, none⟩) NB620_605.out _).trans (hHeld.1)))), ((cell_far (p := ⟨gb605, _, none⟩) NB620_605.out _).trans (((cell_far (p := ⟨gb605, _, none⟩) NB620_605.out _).trans (hHeld.2))))⟩ (fun hHeld => ?_)
      clear hK K
      refine pure_ (i := 6) (N := some 4) (v := ?_) (a' := ?_) #[true, true, true, true, true, true, true] rfl rfl (by kernel_rfl) (fun _ _ _ h => h) (Or.inl ⟨by rfl, ?_⟩) ?_ ?_
      rotate_left
      ·intro w'
       go_simp
       with_reducible rfl
      rotate_left
      ·simp only [Act.put, sA_q, sZ_q, sS_q, i64_w, i32_w]
       rfl
      refine done_ (by kernel_rfl) ?_
      try go_wp2
      refine bodyPost_ret (results_list (rs := [.tmp 2, .cell 3 41, .tmp 4]) rfl (by simp) (.tmp (.cell gb605 41 #[.int .i64 t612, .slice Ao15 t613.length co15] (0, 0) _ rfl (by (with_reducible repeat (first | refine bN_q ?_ _ | refine bW_q ?_ | refine bL_q ?_ _)); refine blk_put (cs := #[.int .i64 t612, .slice none 0 0]) ?_ 1 _ rfl; (with_reducible repeat (first | refine bN_q ?_ _ | refine bW_q ?_ | refine bL_q ?_ _)); refine blk_put (cs := #[.int .i64 0, .slice none 0 0]) ?_ 0 _ rfl; (with_reducible repeat (first | refine bN_q ?_ _ | refine bW_q ?_ | refine bL_q ?_ _)); exact BK605.out) Try.underlying41 rfl (by kernel_rfl) (.tmp .nil)))) rfl ?_
      exact ⟨_, _, _, by first | rfl | (simp [eN_q, eS_q] <;> rfl) | (simp [*, eN_q, eS_q] <;> rfl), by (with_reducible repeat (first | apply tA_q | apply tN_q | apply tD_q)); exact Kd.S_mono (Kd.S_far (p := ⟨gb605, 1, none⟩) (Kd.S_far (p := ⟨gb605, 0, none⟩) (Kd.S_types HO_6.out BK605.out (by decide)) (fun _ hk => hk.2) (.int .i64 t612)) (fun _ hk => hk.2) (.slice Ao15 t613.length co15)) (fun _ hk => ⟨hk.1.2, hk.1.1⟩), by (with_reducible repeat (first | apply rA_q | apply rN_q | apply rD_q)); exact rM_q (Kd.R_far (p := ⟨gb605, 1, none⟩) (Kd.R_far (p := ⟨gb605, 0, none⟩) (Kd.R_types HO_621001.out BK605.out (by decide)) (fun _ hk => hk.2) (.int .i64 t612)) (fun _ hk => hk.2) (.slice Ao15 t613.length co15)) (fun _ hk => hk.1), by (with_reducible repeat (first | apply Kd.Q_alloc | apply Kd.Q_drewN | apply Kd.Q_drew)); exact Kd.Q_mono (Kd.Q_far (p := ⟨gb605, 1, none⟩) (Kd.Q_far (p := ⟨gb605, 0, none⟩) (Kd.Q_types HO633.out BK605.out (by decide)) (fun _ hk => hk.2) (.int .i64 t612)) (fun _ hk => hk.2) (.slice Ao15 t613.length co15)) (fun _ hk => hk.1), by repeat (first | (with_reducible first | exact HB.out | apply bA_q | apply pB_q | apply bD_q | refine bS_q ?_ (i5_q HI608.out) | refine bS_q ?_ GE605.out | refine bS_q ?_ GE620.out) | exact HB.out)⟩
     rw [if_neg c42] at H
     exact absurd H (by simp)
    rw [if_neg c41] at H
    have c41b0 : (t623 == 3) = false := fN_q.mpr c41
    have c41b1 : (t623 != 3) = true := nI_q.mpr c41
    simp only [oE_q, pE_q] at H
    obtain ⟨rfl, rfl, rfl, rfl⟩ := H
    try go_wp2
    have n0_ := Ae_q (tD_q HO_6.out)
    have n1_ := Ae_q (rD_q HO_8.out)
    have n2_ := Ae_q (rD_q HO_621001.out)
    have n3_ := Ae_q (bW_q BK605.out)
    have n4_ := Ae_q (bW_q BK620.out)
    have n5_ := Ae_q (i0_q HI608.out)
    have n6_ := Ae_q (bD_q HB.out)
    clear HO_6
    clear HO_8
    clear HO_621001
    clear BK605
    clear BK620
    clear HI608
    clear HB
    have HO_6 := n0_
    have HO_8 := n1_
    have HO_621001 := n2_
    have BK605 := n3_
    have BK620 := n4_
    have HI608 := n5_
    have HB := n6_
    clear n0_ n1_ n2_ n3_ n4_ n5_ n6_
    refine start_ (n := 6) (S := fun w' => w'.cell? ⟨gb620, 0, none⟩ = some (.int .i64 t612) ∧ w'.cell? ⟨gb620, 1, none⟩ = some (.slice Ao15 t613.length co15)) (ds := []) #[false, false, false, false, false, false] (by kernel_rfl) rfl rfl ⟨(bC_q BK620.out 0).trans rfl, (bC_q BK620.out 1).trans rfl⟩ (fun hHeld => ?_)
    generalize wc.drew = w47 at HO_6 HO_8 HO_621001 BK605 BK620 HI608 HB hHeld ⊢
    refine pure_ (i := 0) (N := some 56) (v := ?_) (a' := ?_) #[true, false, false, false, false, false] rfl rfl (by kernel_rfl) (fun _ _ _ h => h) (Or.inl ⟨by rfl, ?_⟩) ?_ ?_
    rotate_left
    ·intro w'
     go_simp
     with_reducible rfl
    rotate_left
    ·simp only [Act.put, sA_q, sZ_q, sS_q, i64_w, i32_w]
     rfl
    refine pure_ (i := 2) (N := some 58) (v := ?_) (a' := ?_) #[true, false, true, false, false, false] rfl rfl (by kernel_rfl) (fun _ _ _ h => h) (Or.inl ⟨by rfl, ?_⟩) ?_ ?_
    rotate_left
    ·intro w'
     go_simp
     with_reducible rfl
    rotate_left
    ·simp only [Act.put, sA_q, sZ_q, sS_q, i64_w, i32_w]
     rfl
    refine pure_ (i := 3) (N := some 2) (v := ?_) (a' := ?_) #[true, false, true, true, false, false] rfl rfl (by kernel_rfl) (fun _ _ _ h => h) (Or.inl ⟨by rfl, ?_⟩) ?_ ?_
    rotate_left
    ·intro w'
     go_simp
     with_reducible rfl
    rotate_left
    ·simp only [Act.put, sA_q, sZ_q, sS_q, i64_w, i32_w]
     rfl
    refine take_ (i := 1) (N := some 57) (v := ?_) (a' := ?_) #[true, true, true, true, false, false] rfl rfl (by kernel_rfl) (fun _ _ _ h => h) (Or.inl ⟨by rfl, ?_⟩) hHeld ?_ ?_
    rotate_left
    ·rintro w' ⟨s0, s1⟩
     go_simp
     with_reducible rfl
    rotate_left
    ·simp only [Act.put, sA_q, sZ_q, sS_q, i64_w, i32_w]
     rfl
    refine one_ (i := 4) (N := none) #[true, true, true, true, true, false] rfl rfl (by kernel_rfl) (by decide) (fun K hK => ?_)
    have hs48 : w47.cell? ⟨gb605, 0, none⟩ = some (.int .i64 0) := (bC_q BK605.out 0).trans rfl
    have hfs48 := bF_q BK605.out 0
    have hns48_1 := NB620_605.out
    have hms48_1 := NB605_620.out
    have hs49 : w47.cell? ⟨gb605, 1, none⟩ = some (.slice none 0 0) := (bC_q BK605.out 1).trans rfl
    have hfs49 := bF_q BK605.out 1
    have hns49_1 := NB620_605.out
    have hms49_1 := NB605_620.out
    refine skip_ (w1 := ?_) (by rfl) rfl ?_ ?_
    rotate_left
    ·go_simp
     rfl
    refine hK.out _ _ ⟨((cell_far (p := ⟨gb605, _, none⟩) NB620_605.out _).trans (((cell_far (p := ⟨gb605, _, none⟩) NB620_605.out _).trans (hHeld.1)))), ((cell_far (p := ⟨gb605, _, none⟩) NB620_605.out _).trans (((cell_far (p := ⟨gb605, _, none⟩) NB620_605.out _).trans (hHeld.2))))⟩ (fun hHeld => ?_)
    clear hK K
    refine pure_ (i := 5) (N := some 4) (v := ?_) (a' := ?_) #[true, true, true, true, true, true] rfl rfl (by kernel_rfl) (fun _ _ _ h => h) (Or.inl ⟨by rfl, ?_⟩) ?_ ?_
    rotate_left
    ·intro w'
     go_simp
     with_reducible rfl
    rotate_left
    ·simp only [Act.put, sA_q, sZ_q, sS_q, i64_w, i32_w]
     rfl
    refine done_ (by kernel_rfl) ?_
    try go_wp2
    refine bodyPost_ret (results_list (rs := [.tmp 2, .cell 3 41, .tmp 4]) rfl (by simp) (.tmp (.cell gb605 41 #[.int .i64 t612, .slice Ao15 t613.length co15] (0, 0) _ rfl (by (with_reducible repeat (first | refine bN_q ?_ _ | refine bW_q ?_ | refine bL_q ?_ _)); refine blk_put (cs := #[.int .i64 t612, .slice none 0 0]) ?_ 1 _ rfl; (with_reducible repeat (first | refine bN_q ?_ _ | refine bW_q ?_ | refine bL_q ?_ _)); refine blk_put (cs := #[.int .i64 0, .slice none 0 0]) ?_ 0 _ rfl; (with_reducible repeat (first | refine bN_q ?_ _ | refine bW_q ?_ | refine bL_q ?_ _)); exact BK605.out) Try.underlying41 rfl (by kernel_rfl) (.tmp .nil)))) rfl ?_
    exact ⟨_, _, _, by first | rfl | (simp [eN_q, eS_q] <;> rfl) | (simp [*, eN_q, eS_q] <;> rfl), by (with_reducible repeat (first | apply tA_q | apply tN_q | apply tD_q)); exact Kd.S_mono (Kd.S_far (p := ⟨gb605, 1, none⟩) (Kd.S_far (p := ⟨gb605, 0, none⟩) (Kd.S_types HO_6.out BK605.out (by decide)) (fun _ hk => hk.2) (.int .i64 t612)) (fun _ hk => hk.2) (.slice Ao15 t613.length co15)) (fun _ hk => ⟨hk.1.2, hk.1.1⟩), by (with_reducible repeat (first | apply rA_q | apply rN_q | apply rD_q)); exact rM_q (Kd.R_far (p := ⟨gb605, 1, none⟩) (Kd.R_far (p := ⟨gb605, 0, none⟩) (Kd.R_types HO_621001.out BK605.out (by decide)) (fun _ hk => hk.2) (.int .i64 t612)) (fun _ hk => hk.2) (.slice Ao15 t613.length co15)) (fun _ hk => hk.1), Kd.Q_of_R (by (with_reducible repeat (first | apply rA_q | apply rN_q | apply rD_q)); exact rM_q (Kd.R_far (p := ⟨gb605, 1, none⟩) (Kd.R_far (p := ⟨gb605, 0, none⟩) (Kd.R_types HO_8.out BK605.out (by decide)) (fun _ hk => hk.2) (.int .i64 t612)) (fun _ hk => hk.2) (.slice Ao15 t613.length co15)) (fun _ hk => hk.1)), by repeat (first | (with_reducible first | exact HB.out | apply bA_q | apply pB_q | apply bD_q | refine bS_q ?_ (i5_q HI608.out) | refine bS_q ?_ GE605.out | refine bS_q ?_ GE620.out) | exact HB.out)⟩
 rw [if_neg c4] at H
 have c4b0 : decide (0 < (t616.length : Int)) = false := dF_q c4
 have c4b1 : decide (0 < t616.length) = false := dF_q (by omega)
 clear c4
 simp only [oE_q, pE_q] at H
 obtain ⟨rfl, rfl, rfl, rfl⟩ := H
 go_enter Try.func24, Try.ntmps24
 try go_wp2_with (first | ((with_reducible refine gD_q (N := 3) rfl ?_); refine bE_q ?hg (N := 3) ?hd (cs := #[.int .i64 0, .slice none 0 0]) (t := 41) ?hr ?_; (case hd => rfl); (case hg => rfl); (case hr => first | (go_simp; done) | (go_simp; rfl)); intro gb605 hg w50 hbox hb; have n0_ := Ae_q (bT_q (bel HB.out) hb); have n1_ := Ae_q (hbox); have n2_ := Ae_q ((by rw [hg]; exact (bZ_q (bel HB.out)) : w.heap.size ≤ gb605)); have n3_ := Ae_q ((by rw [hg]; exact (bZ_q (bel HB.out)) : w.heap.size ≤ gb605)); clear HB; have HB := n0_; have BK605 := n1_; have GW605 := n2_; have GE605 := n3_; clear n0_ n1_ n2_ n3_; clear hb hbox hg) | ((with_reducible refine gC_q (f := 32) rfl ?_); refine gL_q (some 11) rfl rfl Try.func32 (by kernel_rfl) rfl #[.slice A0 l0.length c0] rfl (by (try simp only [lM_q, lC_q, lN_q]); first | done | rfl | (simp only [lD_q, lT_q]; rfl)) ?_; (with_reducible refine (spec_l6Open.calls _ _ l0 t606 t607 w _ ?side1 ?side2 ?side3 A2.out).mono ?_); (case side1 => repeat (first | (with_reducible first | exact HB.out | apply bA_q | apply pB_q | apply bD_q | refine bS_q ?_ GE605.out) | exact HB.out)); (case side2 => exact HR0.out); (case side3 => exact HC0.out); rintro e w51 ⟨g608, rfl, hi, hb, hb2⟩; refine ⟨_, rfl, ?_⟩; have n0_ := Ae_q (bB_q (g := gb605) (o := .cells #[.int .i64 0, .slice none 0 0] 41 (0, 0)) (bup BK605.out) hb2); have n1_ := Ae_q (hb); have n2_ := Ae_q (hi); have n3_ := Ae_q (IsS74.ne_blk hi (bB_q (g := gb605) (o := .cells #[.int .i64 0, .slice none 0 0] 41 (0, 0)) (bup BK605.out) hb2) (by decide)); have n4_ := Ae_q (Ne.symm (IsS74.ne_blk hi (bB_q (g := gb605) (o := .cells #[.int .i64 0, .slice none 0 0] 41 (0, 0)) (bup BK605.out) hb2) (by decide))); clear BK605; clear HB; have BK605 := n0_; have HB := n1_; have HI608 := n2_; have NB608_605 := n3_; have NB605_608 := n4_; clear n0_ n1_ n2_ n3_ n4_; (try clear hb); (try clear hb2); (try clear hk); (try clear hi)) | ((with_reducible refine gC_q (f := 33) rfl ?_); refine gL_q (some 14) rfl rfl Try.func33 (by kernel_rfl) rfl #[.pointer (some ⟨g608, 0, none⟩)] rfl (by (try simp only [lM_q, lC_q, lN_q]); first | done | rfl | (simp only [lD_q, lT_q]; rfl)) ?_; (with_reducible refine (spec_l92Plan.calls k g608 t606 t607 t609 t612 t613 t616 t619 w _ ?side1 ?side2 A3.out).mono ?_); (case side1 => repeat (first | (with_reducible first | exact HI608.out | apply i2_q | apply i1_q | apply i0_q | apply i3_q | refine i4_q ?_ NB608_605.out _) | exact HI608.out)); (case side2 => repeat (first | (with_reducible first | exact HB.out | apply bA_q | apply pB_q | apply bD_q | refine bS_q ?_ (i5_q HI608.out) | refine bS_q ?_ GE605.out) | exact HB.out)); rintro e w52 ⟨v610, v614, v617, rfl, ho0, ho1, ho2, hi, hb, hk⟩; refine ⟨_, rfl, ?_⟩; have n0_ := Ae_q (kB_q hk (g' := gb605) (o := .cells #[.int .i64 0, .slice none 0 0] 41 (0, 0)) (bup BK605.out) NB605_608.out (by simp)); have n1_ := Ae_q (Kd.S_lower ho0 (bZ_q (by repeat (first | (with_reducible first | exact HB.out | apply bA_q | apply pB_q | apply bD_q | refine bS_q ?_ (i5_q HI608.out) | refine bS_q ?_ GE605.out) | exact HB.out)))); have n2_ := Ae_q (rL_q ho1 (bZ_q (by repeat (first | (with_reducible first | exact HB.out | apply bA_q | apply pB_q | apply bD_q | refine bS_q ?_ (i5_q HI608.out) | refine bS_q ?_ GE605.out) | exact HB.out)))); have n3_ := Ae_q (rL_q ho2 (bZ_q (by repeat (first | (with_reducible first | exact HB.out | apply bA_q | apply pB_q | apply bD_q | refine bS_q ?_ (i5_q HI608.out) | refine bS_q ?_ GE605.out) | exact HB.out)))); have n4_ := Ae_q (hb); have n5_ := Ae_q (hi); clear BK605; clear HB; clear HI608; have BK605 := n0_; have HO611 := n1_; have HO615 := n2_; have HO618 := n3_; have HB := n4_; have HI608 := n5_; clear n0_ n1_ n2_ n3_ n4_ n5_; (try clear hb); (try clear hb2); (try clear hk); (try clear hi); (try clear ho0); (try clear ho1); (try clear ho2)) | ((with_reducible refine gD_q (N := 7) rfl ?_); refine bE_q ?hg (N := 7) ?hd (cs := #[.int .i64 0, .slice none 0 0]) (t := 41) ?hr ?_; (case hd => rfl); (case hg => rfl); (case hr => first | (go_simp; done) | (go_simp; rfl)); intro gb620 hg w53 hbox hb; have n0_ := Ae_q (Kd.S_below (by (with_reducible repeat (first | apply tA_q | apply tN_q | apply tD_q)); exact HO611.out) hb); have n1_ := Ae_q (rO_q (rup HO615.out) hb); have n2_ := Ae_q (rO_q (rup HO618.out) hb); have n3_ := Ae_q (bB_q (g := gb605) (o := .cells #[.int .i64 0, .slice none 0 0] 41 (0, 0)) (bup BK605.out) hb); have n4_ := Ae_q (i6_q (by repeat (first | (with_reducible first | exact HI608.out | apply i2_q | apply i1_q | apply i0_q | apply i3_q | refine i4_q ?_ NB608_605.out _) | exact HI608.out)) hb); have n5_ := Ae_q (bT_q (by repeat (first | (with_reducible first | exact HB.out | apply bA_q | apply pB_q | apply bD_q | refine bS_q ?_ (i5_q HI608.out) | refine bS_q ?_ GE605.out) | exact HB.out)) hb); have n6_ := Ae_q (hbox); have n7_ := Ae_q ((by rw [hg]; exact (bZ_q (by repeat (first | (with_reducible first | exact HB.out | apply bA_q | apply pB_q | apply bD_q | refine bS_q ?_ (i5_q HI608.out) | refine bS_q ?_ GE605.out) | exact HB.out))) : w.heap.size ≤ gb620)); have n8_ := Ae_q ((by rw [hg]; exact (bZ_q (by repeat (first | (with_reducible first | exact HB.out | apply bA_q | apply pB_q | apply bD_q | refine bS_q ?_ (i5_q HI608.out) | refine bS_q ?_ GE605.out) | exact HB.out))) : w.heap.size ≤ gb620)); have n9_ := Ae_q ((by rw [hg]; exact nL_q (blk_lt (g := gb605) (o := .cells #[.int .i64 0, .slice none 0 0] 41 (0, 0)) (bup BK605.out)) : gb605 ≠ gb620)); have n10_ := Ae_q ((by rw [hg]; exact nG_q (blk_lt (g := gb605) (o := .cells #[.int .i64 0, .slice none 0 0] 41 (0, 0)) (bup BK605.out)) : gb620 ≠ gb605)); have n11_ := Ae_q ((by rw [hg]; exact nL_q (i7_q (show IsS74 w _ g608 t606 t619 from by repeat (first | (with_reducible first | exact HI608.out | apply i2_q | apply i1_q | apply i0_q | apply i3_q | refine i4_q ?_ NB608_605.out _) | exact HI608.out))) : g608 ≠ gb620)); have n12_ := Ae_q ((by rw [hg]; exact nG_q (i7_q (show IsS74 w _ g608 t606 t619 from by repeat (first | (with_reducible first | exact HI608.out | apply i2_q | apply i1_q | apply i0_q | apply i3_q | refine i4_q ?_ NB608_605.out _) | exact HI608.out))) : gb620 ≠ g608)); clear HO611; clear HO615; clear HO618; clear BK605; clear HI608; clear HB; have HO611 := n0_; have HO615 := n1_; have HO618 := n2_; have BK605 := n3_; have HI608 := n4_; have HB := n5_; have BK620 := n6_; have GW620 := n7_; have GE620 := n8_; have NB605_620 := n9_; have NB620_605 := n10_; have NB608_620 := n11_; have NB620_608 := n12_; clear n0_ n1_ n2_ n3_ n4_ n5_ n6_ n7_ n8_ n9_ n10_ n11_ n12_; clear hb hbox hg; have hnb54 := NB620_605.out; have hnc54 := NB605_620.out; have hnb55 := NB620_608.out; have hnc55 := NB608_620.out; have hcz56_0 : w53.cell? ⟨gb620, 0, none⟩ = some (.int .i64 0) := (bC_q BK620.out 0).trans rfl; have hcz56_1 : w53.cell? ⟨gb620, 1, none⟩ = some (.slice none 0 0) := (bC_q BK620.out 1).trans rfl; have hfz56_0 := bF_q BK620.out 0; have hfz56_1 := bF_q BK620.out 1; obtain ⟨Ao57, co57, eo57⟩ := rS_q HO615.out; subst eo57; obtain ⟨Ao58, co58, eo58⟩ := rS_q HO618.out; subst eo58))
 have n0_ : Aside0 (Kd.S k31 31 ((w53.setCell ⟨gb620, 0, none⟩ (.int .i64 t612)).setCell ⟨gb620, 1, none⟩ (.slice Ao57 t613.length co57)) w.heap.size (fun k_ => some k_ ≠ (.slice Ao57 t613.length co57 : Value).ownBlock ∧ some k_ ≠ (.slice Ao58 t616.length co58 : Value).ownBlock) v610 t609) := ⟨by (with_reducible repeat (first | apply tA_q | apply tN_q | apply tD_q)); exact Kd.S_mono (Kd.S_far (p := ⟨gb620, 1, none⟩) (Kd.S_far (p := ⟨gb620, 0, none⟩) (Kd.S_types HO611.out BK620.out (by decide)) (fun _ hk => hk.2) (.int .i64 t612)) (fun _ hk => hk.2) (.slice Ao57 t613.length co57)) (fun _ hk => ⟨hk.1.1, hk.1.2⟩)⟩
 have n1_ : Aside0 (Kd.R kI_q 3 ((w53.setCell ⟨gb620, 0, none⟩ (.int .i64 t612)).setCell ⟨gb620, 1, none⟩ (.slice Ao57 t613.length co57)) w.heap.size (fun k_ => some k_ ≠ (.slice Ao58 t616.length co58 : Value).ownBlock) (.slice Ao57 t613.length co57) t613) := ⟨by (with_reducible repeat (first | apply rA_q | apply rN_q | apply rD_q)); exact rM_q (Kd.R_far (p := ⟨gb620, 1, none⟩) (Kd.R_far (p := ⟨gb620, 0, none⟩) (Kd.R_types HO615.out BK620.out (by decide)) (fun _ hk => hk.2) (.int .i64 t612)) (fun _ hk => hk.2) (.slice Ao57 t613.length co57)) (fun _ hk => hk.1)⟩
 have n2_ : Aside0 (Kd.R kI_q 3 ((w53.setCell ⟨gb620, 0, none⟩ (.int .i64 t612)).setCell ⟨gb620, 1, none⟩ (.slice Ao57 t613.length co57)) w.heap.size (fun k_ => some k_ ≠ (.slice Ao57 t613.length co57 : Value).ownBlock) (.slice Ao58 t616.length co58) t616) := ⟨by (with_reducible repeat (first | apply rA_q | apply rN_q | apply rD_q)); exact rM_q (Kd.R_far (p := ⟨gb620, 1, none⟩) (Kd.R_far (p := ⟨gb620, 0, none⟩) (Kd.R_types HO618.out BK620.out (by decide)) (fun _ hk => hk.2) (.int .i64 t612)) (fun _ hk => hk.2) (.slice Ao57 t613.length co57)) (fun _ hk => hk.1)⟩
 have n3_ : Aside0 (((w53.setCell ⟨gb620, 0, none⟩ (.int .i64 t612)).setCell ⟨gb620, 1, none⟩ (.slice Ao57 t613.length co57)).heap[gb605]? = some (.cells #[.int .i64 0, .slice none 0 0] 41 (0, 0))) := ⟨by (with_reducible repeat (first | refine bN_q ?_ _ | refine bW_q ?_ | refine bL_q ?_ _)); refine blk_far ?_ NB605_620.out _; (with_reducible repeat (first | refine bN_q ?_ _ | refine bW_q ?_ | refine bL_q ?_ _)); refine blk_far ?_ NB605_620.out _; (with_reducible repeat (first | refine bN_q ?_ _ | refine bW_q ?_ | refine bL_q ?_ _)); exact BK605.out⟩
 have n4_ : Aside0 (((w53.setCell ⟨gb620, 0, none⟩ (.int .i64 t612)).setCell ⟨gb620, 1, none⟩ (.slice Ao57 t613.length co57)).heap[gb620]? = some (.cells #[.int .i64 t612, .slice Ao57 t613.length co57] 41 (0, 0))) := ⟨by (with_reducible repeat (first | refine bN_q ?_ _ | refine bW_q ?_ | refine bL_q ?_ _)); refine blk_put (cs := #[.int .i64 t612, .slice none 0 0]) ?_ 1 _ rfl; (with_reducible repeat (first | refine bN_q ?_ _ | refine bW_q ?_ | refine bL_q ?_ _)); refine blk_put (cs := #[.int .i64 0, .slice none 0 0]) ?_ 0 _ rfl; (with_reducible repeat (first | refine bN_q ?_ _ | refine bW_q ?_ | refine bL_q ?_ _)); exact BK620.out⟩
 have n5_ : Aside0 (IsS74 w ((w53.setCell ⟨gb620, 0, none⟩ (.int .i64 t612)).setCell ⟨gb620, 1, none⟩ (.slice Ao57 t613.length co57)) g608 t606 t619) := ⟨by repeat (first | (with_reducible first | exact HI608.out | apply i2_q | apply i1_q | apply i0_q | apply i3_q | refine i4_q ?_ NB608_605.out _ | refine i4_q ?_ NB608_620.out _) | exact HI608.out)⟩
 have n6_ : Aside0 (Below w.heap.size w ((w53.setCell ⟨gb620, 0, none⟩ (.int .i64 t612)).setCell ⟨gb620, 1, none⟩ (.slice Ao57 t613.length co57))) := ⟨by repeat (first | (with_reducible first | exact HB.out | apply bA_q | apply pB_q | apply bD_q | refine bS_q ?_ (i5_q HI608.out) | refine bS_q ?_ GE605.out | refine bS_q ?_ GE620.out) | exact HB.out)⟩
 (try clear HO611)
 (try clear HO615)
 (try clear HO618)
 (try clear BK605)
 (try clear BK620)
 (try clear HI608)
 (try clear HB)
 generalize ((w53.setCell ⟨gb620, 0, none⟩ (.int .i64 t612)).setCell ⟨gb620, 1, none⟩ (.slice Ao57 t613.length co57)) = w59 at n0_ n1_ n2_ n3_ n4_ n5_ n6_ ⊢
 have HO611 := n0_
 have HO615 := n1_
 have HO618 := n2_
 have BK605 := n3_
 have BK620 := n4_
 have HI608 := n5_
 have HB := n6_
 clear n0_ n1_ n2_ n3_ n4_ n5_ n6_
 have n0_ := Ae_q (tD_q HO611.out)
 have n1_ := Ae_q (rD_q HO615.out)
 have n2_ := Ae_q (rD_q HO618.out)
 have n3_ := Ae_q (bW_q BK605.out)
 have n4_ := Ae_q (bW_q BK620.out)
 have n5_ := Ae_q (i0_q HI608.out)
 have n6_ := Ae_q (bD_q HB.out)
 clear HO611
 clear HO615
 clear HO618
 clear BK605
 clear BK620
 clear HI608
 clear HB
 have HO611 := n0_
 have HO615 := n1_
 have HO618 := n2_
 have BK605 := n3_
 have BK620 := n4_
 have HI608 := n5_
 have HB := n6_
 clear n0_ n1_ n2_ n3_ n4_ n5_ n6_
 refine start_ (n := 6) (S := fun w' => w'.cell? ⟨gb620, 0, none⟩ = some (.int .i64 t612) ∧ w'.cell? ⟨gb620, 1, none⟩ = some (.slice Ao57 t613.length co57)) (ds := []) #[false, false, false, false, false, false] (by kernel_rfl) rfl rfl ⟨(bC_q BK620.out 0).trans rfl, (bC_q BK620.out 1).trans rfl⟩ (fun hHeld => ?_)
 generalize w59.drew = w60 at HO611 HO615 HO618 BK605 BK620 HI608 HB hHeld ⊢
 refine pure_ (i := 0) (N := some 56) (v := ?_) (a' := ?_) #[true, false, false, false, false, false] rfl rfl (by kernel_rfl) (fun _ _ _ h => h) (Or.inl ⟨by rfl, ?_⟩) ?_ ?_
 rotate_left
 ·intro w'
  go_simp
  with_reducible rfl
 rotate_left
 ·simp only [Act.put, sA_q, sZ_q, sS_q, i64_w, i32_w]
  rfl
 refine pure_ (i := 2) (N := some 58) (v := ?_) (a' := ?_) #[true, false, true, false, false, false] rfl rfl (by kernel_rfl) (fun _ _ _ h => h) (Or.inl ⟨by rfl, ?_⟩) ?_ ?_
 rotate_left
 ·intro w'
  go_simp
  with_reducible rfl
 rotate_left
 ·simp only [Act.put, sA_q, sZ_q, sS_q, i64_w, i32_w]
  rfl
 refine pure_ (i := 3) (N := some 2) (v := ?_) (a' := ?_) #[true, false, true, true, false, false] rfl rfl (by kernel_rfl) (fun _ _ _ h => h) (Or.inl ⟨by rfl, ?_⟩) ?_ ?_
 rotate_left
 ·intro w'
  go_simp
  with_reducible rfl
 rotate_left
 ·simp only [Act.put, sA_q, sZ_q, sS_q, i64_w, i32_w]
  rfl
 refine take_ (i := 1) (N := some 57) (v := ?_) (a' := ?_) #[true, true, true, true, false, false] rfl rfl (by kernel_rfl) (fun _ _ _ h => h) (Or.inl ⟨by rfl, ?_⟩) hHeld ?_ ?_
 rotate_left
 ·rintro w' ⟨s0, s1⟩
  go_simp
  with_reducible rfl
 rotate_left
 ·simp only [Act.put, sA_q, sZ_q, sS_q, i64_w, i32_w]
  rfl
 refine one_ (i := 4) (N := none) #[true, true, true, true, true, false] rfl rfl (by kernel_rfl) (by decide) (fun K hK => ?_)
 have hs61 : w60.cell? ⟨gb605, 0, none⟩ = some (.int .i64 0) := (bC_q BK605.out 0).trans rfl
 have hfs61 := bF_q BK605.out 0
 have hns61_1 := NB620_605.out
 have hms61_1 := NB605_620.out
 have hs62 : w60.cell? ⟨gb605, 1, none⟩ = some (.slice none 0 0) := (bC_q BK605.out 1).trans rfl
 have hfs62 := bF_q BK605.out 1
 have hns62_1 := NB620_605.out
 have hms62_1 := NB605_620.out
 refine skip_ (w1 := ?_) (by rfl) rfl ?_ ?_
 rotate_left
 ·go_simp
  rfl
 refine hK.out _ _ ⟨((cell_far (p := ⟨gb605, _, none⟩) NB620_605.out _).trans (((cell_far (p := ⟨gb605, _, none⟩) NB620_605.out _).trans (hHeld.1)))), ((cell_far (p := ⟨gb605, _, none⟩) NB620_605.out _).trans (((cell_far (p := ⟨gb605, _, none⟩) NB620_605.out _).trans (hHeld.2))))⟩ (fun hHeld => ?_)
 clear hK K
 refine pure_ (i := 5) (N := some 4) (v := ?_) (a' := ?_) #[true, true, true, true, true, true] rfl rfl (by kernel_rfl) (fun _ _ _ h => h) (Or.inl ⟨by rfl, ?_⟩) ?_ ?_
 rotate_left
 ·intro w'
  go_simp
  with_reducible rfl
 rotate_left
 ·simp only [Act.put, sA_q, sZ_q, sS_q, i64_w, i32_w]
  rfl
 refine done_ (by kernel_rfl) ?_
 try go_wp2
 refine bodyPost_ret (results_list (rs := [.tmp 2, .cell 3 41, .tmp 4]) rfl (by simp) (.tmp (.cell gb605 41 #[.int .i64 t612, .slice Ao57 t613.length co57] (0, 0) _ rfl (by (with_reducible repeat (first | refine bN_q ?_ _ | refine bW_q ?_ | refine bL_q ?_ _)); refine blk_put (cs := #[.int .i64 t612, .slice none 0 0]) ?_ 1 _ rfl; (with_reducible repeat (first | refine bN_q ?_ _ | refine bW_q ?_ | refine bL_q ?_ _)); refine blk_put (cs := #[.int .i64 0, .slice none 0 0]) ?_ 0 _ rfl; (with_reducible repeat (first | refine bN_q ?_ _ | refine bW_q ?_ | refine bL_q ?_ _)); exact BK605.out) Try.underlying41 rfl (by kernel_rfl) (.tmp .nil)))) rfl ?_
 exact ⟨_, _, _, by first | rfl | (simp [eN_q, eS_q] <;> rfl) | (simp [*, eN_q, eS_q] <;> rfl), by (with_reducible repeat (first | apply tA_q | apply tN_q | apply tD_q)); exact Kd.S_mono (Kd.S_far (p := ⟨gb605, 1, none⟩) (Kd.S_far (p := ⟨gb605, 0, none⟩) (Kd.S_types HO611.out BK605.out (by decide)) (fun _ hk => hk.2) (.int .i64 t612)) (fun _ hk => hk.2) (.slice Ao57 t613.length co57)) (fun _ hk => ⟨hk.1.1, hk.1.2⟩), by (with_reducible repeat (first | apply rA_q | apply rN_q | apply rD_q)); exact rM_q (Kd.R_far (p := ⟨gb605, 1, none⟩) (Kd.R_far (p := ⟨gb605, 0, none⟩) (Kd.R_types HO615.out BK605.out (by decide)) (fun _ hk => hk.2) (.int .i64 t612)) (fun _ hk => hk.2) (.slice Ao57 t613.length co57)) (fun _ hk => hk.1), Kd.Q_of_R (by (with_reducible repeat (first | apply rA_q | apply rN_q | apply rD_q)); exact rM_q (Kd.R_far (p := ⟨gb605, 1, none⟩) (Kd.R_far (p := ⟨gb605, 0, none⟩) (Kd.R_types HO618.out BK605.out (by decide)) (fun _ hk => hk.2) (.int .i64 t612)) (fun _ hk => hk.2) (.slice Ao57 t613.length co57)) (fun _ hk => hk.1)), by repeat (first | (with_reducible first | exact HB.out | apply bA_q | apply pB_q | apply bD_q | refine bS_q ?_ (i5_q HI608.out) | refine bS_q ?_ GE605.out | refine bS_q ?_ GE620.out) | exact HB.out)⟩

end Go.Proofs.Ytoaigcdoblnmhaa.PPn
