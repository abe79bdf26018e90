import Derived.Test.YtoaigcdoblnmhaaVfPPnx0
import Derived.Test.YtoaigcdoblnmhaaVfPPnx12
import Derived.Test.YtoaigcdoblnmhaaVfPPnx14
import Derived.Test.YtoaigcdoblnmhaaVfPPnx15
import Derived.Test.YtoaigcdoblnmhaaVfPPnx16
import Derived.Test.YtoaigcdoblnmhaaVfPPnx17
namespace Go.Proofs.Ytoaigcdoblnmhaa.PPn
open Go.RowKit Go.Proofs.YtoaigcdoblnmhaaW.PrintWords Go.Proofs.YtoaigcdoblnmhaaW.PrintLast Go.Proofs.YtoaigcdoblnmhaaW.PrintMore
attribute [local go_sem] max2_int min2_int max_two min_two max_three min_three max_four min_four
set_option linter.unusedVariables false
set_option linter.unusedSimpArgs false

mutual
def laws_FnHits.j0 : Nat → List (S31) → List Int → List Int → List Int → Bool → Int → Int → Int → Option (Bool)
 | 0, _, _, _, _, _, _, _, _ => none
 | k + 1, x3, x4, x6, x7, x62, x482000, x482001, x482002 => if x62 = true then ((laws_sameInts.f k x6 x7).bind fun t490 => (some t490)) else (laws_FnHits.l0 k x3 x4 x6 0 x482000 x482001 x482002)
def laws_FnHits.l0 : Nat → List (S31) → List Int → List Int → Int → Int → Int → Int → Option (Bool)
 | 0, _, _, _, _, _, _, _ => none
 | k + 1, x3, x4, x6, x8, x482000, x482001, x482002 => if x8 < (x3.length : Int) then ((laws_hasInt.f k x6 x8).bind fun t491 => (if 0 ≤ x8 then (if ((rd_T31 x3 x8).f2) = x482000 then (if x8 < (x4.length : Int) then (if (rd x4 x8) < x482002 then (if (t491 != (decide ((wrap64 ((rd x4 x8) + ((rd_T31 x3 x8).f0))) > x482001))) = true then (some false) else (laws_FnHits.l0 k x3 x4 x6 (wrap64 (x8 + 1)) x482000 x482001 x482002)) else (if (t491 != false) = true then (some false) else (laws_FnHits.l0 k x3 x4 x6 (wrap64 (x8 + 1)) x482000 x482001 x482002))) else (none)) else (if (t491 != false) = true then (some false) else (laws_FnHits.l0 k x3 x4 x6 (wrap64 (x8 + 1)) x482000 x482001 x482002))) else (none))) else (some (decide ((x6.length : Int) ≤ (x3.length : Int))))
end
def laws_FnHits.f (k : Nat) (l0 : List Int) : Option (Bool) := if (l0.length : Int) > 1048576 then (some true) else ((spec_DrawOutageHits.f k l0).bind fun bt472 => ((impl_OutageHits.f k bt472.1 bt472.2.1 bt472.2.2.1 bt472.2.2.2.1 bt472.2.2.2.2).bind fun t482 => ((spec_OutageHits.f k bt472.1 bt472.2.1 bt472.2.2.1 bt472.2.2.2.1 bt472.2.2.2.2).bind fun t485 => ((laws_sameInts.f k t482 t485).bind fun t488 => (if t488 = true then ((spec_PlanEnd.f k bt472.1 bt472.2.1).bind fun t489 => (if t489 < 0 then (laws_FnHits.j0 k bt472.1 bt472.2.1 t482 t485 true bt472.2.2.1 bt472.2.2.2.1 bt472.2.2.2.2) else (if bt472.2.2.1 < 1 then (laws_FnHits.j0 k bt472.1 bt472.2.1 t482 t485 true bt472.2.2.1 bt472.2.2.2.1 bt472.2.2.2.2) else (if bt472.2.2.1 > 4 then (laws_FnHits.j0 k bt472.1 bt472.2.1 t482 t485 true bt472.2.2.1 bt472.2.2.2.1 bt472.2.2.2.2) else (if bt472.2.2.2.1 < 0 then (laws_FnHits.j0 k bt472.1 bt472.2.1 t482 t485 true bt472.2.2.1 bt472.2.2.2.1 bt472.2.2.2.2) else (if bt472.2.2.2.2 < bt472.2.2.2.1 then (laws_FnHits.j0 k bt472.1 bt472.2.1 t482 t485 true bt472.2.2.1 bt472.2.2.2.1 bt472.2.2.2.2) else (laws_FnHits.j0 k bt472.1 bt472.2.1 t482 t485 (decide (bt472.2.2.2.2 > 999)) bt472.2.2.1 bt472.2.2.2.1 bt472.2.2.2.2))))))) else (laws_FnHits.j0 k bt472.1 bt472.2.1 t482 t485 true bt472.2.2.1 bt472.2.2.2.1 bt472.2.2.2.2))))))
def laws_FnHits.T11 : Bool × List (List Nat × List Nat) := (true, [([], []), ([], []), ([0, 1], [0, 1]), ([], []), ([], []), ([3, 4], [3, 4]), ([5], [5]), ([6], [6]), ([], []), ([8], [8]), ([7, 9], [7, 9]), ([10, 2], [10]), ([11], [11]), ([11], [11]), ([12, 13, 11], [11, 12, 13]), ([14, 11], [11, 14]), ([11], [11]), ([16, 11], [11, 16]), ([15, 17, 11], [11, 15, 17]), ([11, 18], [11, 18]), ([19, 11], [19]), ([20], [20]), ([20], [20]), ([21, 22, 20], [20, 21, 22]), ([23, 20], [20, 23]), ([20], [20]), ([20], [20]), ([25, 26, 20], [20, 25, 26]), ([27, 20], [20, 27]), ([28, 20], [20, 28]), ([24, 29, 20], [20, 24, 29]), ([20], [20]), ([31, 20], [20, 31]), ([30, 32, 20], [20, 30, 32]), ([20, 33], [20, 33]), ([2, 34], [2, 34])])
def laws_FnHits.B11 : List Nat := [0, 0, 3, 0, 0, 24, 56, 120, 0, 256, 1016, 2047, 4095, 4095, 16383, 32767, 4095, 69631, 262143, 524287, 1048575, 2097151, 2097151, 8388607, 16777215, 2097151, 2097151, 102760447, 236978175, 505413631, 1073741823, 2097151, 2149580799, 8589934591, 17179869183, 34359738367]
theorem laws_FnHits.tab11 : rtab .any (opsOf Try.f8 11) = laws_FnHits.T11 := by kernel_rfl
theorem laws_FnHits.bits11 : waitsOk laws_FnHits.T11.2 laws_FnHits.B11 = true := by kernel_rfl
set_option maxHeartbeats 8000000 in
set_option maxRecDepth 100000 in
theorem laws_FnHits.calls (k : Nat) (A0 : Option Addr) (c0 : Nat) (l0 : List Int) (r : Bool) (w : World) (hr0 : Kd.C (Kd.int .u8) w A0 l0.length l0) (hc0 : l0.length ≤ c0) (h : laws_FnHits.f k l0 = some r) :
    Calls Try.prog 8 #[.slice A0 l0.length c0] w fun e w' => e = .returned (.bool r) ∧ Below w.heap.size w w' := by
 have hu52 := Try.underlying52
 have HR0 := Ae_q hr0
 have HC0 := Ae_q hc0
 clear hr0 hc0
 have HB := Ae_q (bR_q w.heap.size w)
 have H : (if (l0.length : Int) > 1048576 then (some true) else ((spec_DrawOutageHits.f k l0).bind fun bt472 => ((impl_OutageHits.f k bt472.1 bt472.2.1 bt472.2.2.1 bt472.2.2.2.1 bt472.2.2.2.2).bind fun t482 => ((spec_OutageHits.f k bt472.1 bt472.2.1 bt472.2.2.1 bt472.2.2.2.1 bt472.2.2.2.2).bind fun t485 => ((laws_sameInts.f k t482 t485).bind fun t488 => (if t488 = true then ((spec_PlanEnd.f k bt472.1 bt472.2.1).bind fun t489 => (if t489 < 0 then (laws_FnHits.j0 k bt472.1 bt472.2.1 t482 t485 true bt472.2.2.1 bt472.2.2.2.1 bt472.2.2.2.2) else (if bt472.2.2.1 < 1 then (laws_FnHits.j0 k bt472.1 bt472.2.1 t482 t485 true bt472.2.2.1 bt472.2.2.2.1 bt472.2.2.2.2) else (if bt472.2.2.1 > 4 then (laws_FnHits.j0 k bt472.1 bt472.2.1 t482 t485 true bt472.2.2.1 bt472.2.2.2.1 bt472.2.2.2.2) else (if bt472.2.2.2.1 < 0 then (laws_FnHits.j0 k bt472.1 bt472.2.1 t482 t485 true bt472.2.2.1 bt472.2.2.2.1 bt472.2.2.2.2) else (if bt472.2.2.2.2 < bt472.2.2.2.1 then (laws_FnHits.j0 k bt472.1 bt472.2.1 t482 t485 true bt472.2.2.1 bt472.2.2.2.1 bt472.2.2.2.2) else (laws_FnHits.j0 k bt472.1 bt472.2.1 t482 t485 (decide (bt472.2.2.2.2 > 999)) bt472.2.2.1 bt472.2.2.2.1 bt472.2.2.2.2))))))) else (laws_FnHits.j0 k bt472.1 bt472.2.1 t482 t485 true bt472.2.2.1 bt472.2.2.2.1 bt472.2.2.2.2))))))) = some r := h
 clear h
 by_cases c2 : (l0.length : Int) > 1048576
 ·rw [if_pos c2] at H
  have c2b0 : decide (1048576 < (l0.length : Int)) = true := dT_q c2
  have c2b1 : decide (1048576 < l0.length) = true := dT_q (by omega)
  clear c2
  obtain rfl := oI_q H
  go_enter Try.func8, Try.ntmps8
  go_wp2
  go_ret
  exact ⟨by first | rfl | (simp [eN_q, eS_q] <;> rfl) | (simp [*, eN_q, eS_q] <;> rfl), bel HB.out⟩
 rw [if_neg c2] at H
 have c2b0 : decide (1048576 < (l0.length : Int)) = false := dF_q c2
 have c2b1 : decide (1048576 < l0.length) = false := dF_q (by omega)
 clear c2
 replace H := oB_q.mp H
 obtain ⟨⟨t472, t475, t478, t479, t480⟩, A30, H⟩ := H
 replace H : ((impl_OutageHits.f k t472 t475 t478 t479 t480).bind fun t482 => ((spec_OutageHits.f k t472 t475 t478 t479 t480).bind fun t485 => ((laws_sameInts.f k t482 t485).bind fun t488 => (if t488 = true then ((spec_PlanEnd.f k t472 t475).bind fun t489 => (if t489 < 0 then (laws_FnHits.j0 k t472 t475 t482 t485 true t478 t479 t480) else (if t478 < 1 then (laws_FnHits.j0 k t472 t475 t482 t485 true t478 t479 t480) else (if t478 > 4 then (laws_FnHits.j0 k t472 t475 t482 t485 true t478 t479 t480) else (if t479 < 0 then (laws_FnHits.j0 k t472 t475 t482 t485 true t478 t479 t480) else (if t480 < t479 then (laws_FnHits.j0 k t472 t475 t482 t485 true t478 t479 t480) else (laws_FnHits.j0 k t472 t475 t482 t485 (decide (t480 > 999)) t478 t479 t480))))))) else (laws_FnHits.j0 k t472 t475 t482 t485 true t478 t479 t480))))) = some r := H
 have A3 := Ae_q A30
 clear A30
 replace H := oB_q.mp H
 obtain ⟨t482, A40, H⟩ := H
 replace H : ((spec_OutageHits.f k t472 t475 t478 t479 t480).bind fun t485 => ((laws_sameInts.f k t482 t485).bind fun t488 => (if t488 = true then ((spec_PlanEnd.f k t472 t475).bind fun t489 => (if t489 < 0 then (laws_FnHits.j0 k t472 t475 t482 t485 true t478 t479 t480) else (if t478 < 1 then (laws_FnHits.j0 k t472 t475 t482 t485 true t478 t479 t480) else (if t478 > 4 then (laws_FnHits.j0 k t472 t475 t482 t485 true t478 t479 t480) else (if t479 < 0 then (laws_FnHits.j0 k t472 t475 t482 t485 true t478 t479 t480) else (if t480 < t479 then (laws_FnHits.j0 k t472 t475 t482 t485 true t478 t479 t480) else (laws_FnHits.j0 k t472 t475 t482 t485 (decide (t480 > 999)) t478 t479 t480))))))) else (laws_FnHits.j0 k t472 t475 t482 t485 true t478 t479 t480)))) = some r := H
 have A4 := Ae_q A40
 clear A40
 replace H := oB_q.mp H
 obtain ⟨t485, A50, H⟩ := H
 replace H : ((laws_sameInts.f k t482 t485).bind fun t488 => (if t488 = true then ((spec_PlanEnd.f k t472 t475).bind fun t489 => (if t489 < 0 then (laws_FnHits.j0 k t472 t475 t482 t485 true t478 t479 t480) else (if t478 < 1 then (laws_FnHits.j0 k t472 t475 t482 t485 true t478 t479 t480) else (if t478 > 4 then (laws_FnHits.j0 k t472 t475 t482 t485 true t478 t479 t480) else (if t479 < 0 then (laws_FnHits.j0 k t472 t475 t482 t485 true t478 t479 t480) else (if t480 < t479 then (laws_FnHits.j0 k t472 t475 t482 t485 true t478 t479 t480) else (laws_FnHits.j0 k t472 t475 t482 t485 (decide (t480 > 999)) t478 t479 t480))))))) else (laws_FnHits.j0 k t472 t475 t482 t485 true t478 t479 t480))) = some r := H
 have A5 := Ae_q A50
 clear A50
 have HC6 := Ae_q H
 clear H
 go_enter Try.func8, Try.ntmps8
 go_upto_region 6 with (first | ((with_reducible refine gC_q (f := 28) rfl ?_); refine gL_q (some 14) rfl rfl Try.func28 (by kernel_rfl) rfl #[.slice A0 l0.length c0] rfl (by (try simp only [lM_q, lC_q, lN_q]); first | done | rfl | (simp only [lD_q, lT_q]; rfl)) ?_; (with_reducible refine (spec_DrawOutageHits.calls k _ _ l0 t472 t475 t478 t479 t480 _ ?side1 ?side2 A3.out).mono ?_); (case side1 => repeat (first | exact HR0.out | (with_reducible refine cA_q ?_ _) | (with_reducible refine cN_q ?_ _) | (with_reducible refine cD_q ?_))); (case side2 => exact HC0.out); rintro e w7 ⟨v473, v476, rfl, ho0, ho1, hb⟩; refine ⟨_, rfl, ?_⟩; have n0_ := Ae_q (Kd.S_lower ho0 (bZ_q (bel HB.out))); have n1_ := Ae_q (rL_q ho1 (bZ_q (bel HB.out))); have n2_ := Ae_q (bT_q (bel HB.out) hb); clear HB; have HO474 := n0_; have HO477 := n1_; have HB := n2_; clear n0_ n1_ n2_; (try clear hb); (try clear hb2); (try clear hk); (try clear hi); (try clear ho0); (try clear ho1)) | ((with_reducible refine gD_q (N := 5) rfl ?_); refine bE_q ?hg (N := 5) ?hd (cs := #[.int .i64 0, .int .i64 0, .int .i64 0]) (t := 52) ?hr ?_; (case hd => rfl); (case hg => rfl); (case hr => first | (go_simp; done) | (go_simp; rfl)); intro gb481 hg w8 hbox hb; have n0_ := Ae_q (Kd.S_below (by (with_reducible repeat (first | apply tA_q | apply tN_q | apply tD_q)); exact HO474.out) hb); have n1_ := Ae_q (rO_q (rup HO477.out) hb); have n2_ := Ae_q (bT_q (bel HB.out) hb); have n3_ := Ae_q (hbox); have n4_ := Ae_q ((by rw [hg]; exact (bZ_q (bel HB.out)) : w.heap.size ≤ gb481)); have n5_ := Ae_q ((by rw [hg]; exact (bZ_q (bel HB.out)) : w.heap.size ≤ gb481)); clear HO474; clear HO477; clear HB; have HO474 := n0_; have HO477 := n1_; have HB := n2_; have BK481 := n3_; have GW481 := n4_; have GE481 := n5_; clear n0_ n1_ n2_ n3_ n4_ n5_; clear hb hbox hg; have hcz9_0 : w8.cell? ⟨gb481, 0, none⟩ = some (.int .i64 0) := (bC_q BK481.out 0).trans rfl; have hcz9_1 : w8.cell? ⟨gb481, 1, none⟩ = some (.int .i64 0) := (bC_q BK481.out 1).trans rfl; have hcz9_2 : w8.cell? ⟨gb481, 2, none⟩ = some (.int .i64 0) := (bC_q BK481.out 2).trans rfl; have hfz9_0 := bF_q BK481.out 0; have hfz9_1 := bF_q BK481.out 1; have hfz9_2 := bF_q BK481.out 2; obtain ⟨Ao10, co10, eo10⟩ := Kd.S_slice HO474.out; subst eo10; obtain ⟨Ao11, co11, eo11⟩ := rS_q HO477.out; subst eo11) | ((with_reducible refine gC_q (f := 29) rfl ?_); refine gL_q (some 21) rfl rfl Try.func29 (by kernel_rfl) rfl #[.slice Ao10 t472.length co10, .slice Ao11 t475.length co11, .agg #[.int .i64 t478, .int .i64 t479, .int .i64 t480]] rfl (by (try simp only [lM_q, lC_q, lN_q]); first | done | rfl | (simp only [lD_q, lT_q]; rfl)) ?_; (with_reducible refine (impl_OutageHits.calls k _ _ t472 _ _ t475 t478 t479 t480 t482 _ ?side1 ?side2 ?side3 ?side4 A4.out).mono ?_); (case side1 => refine (Kd.S_reads' (e := 31) (base := w.heap.size) (ok := fun k_ => some k_ ≠ (.slice Ao11 t475.length co11 : Value).ownBlock) (n := t472.length) (c := co10) ?_).2.2; exact (by (with_reducible repeat (first | apply tA_q | apply tN_q | apply tD_q)); exact (Kd.S_mono (Kd.S_far (p := ⟨gb481, 2, none⟩) (Kd.S_far (p := ⟨gb481, 1, none⟩) (Kd.S_far (p := ⟨gb481, 0, none⟩) (Kd.S_types HO474.out BK481.out (by decide)) (fun _ hk => hk.2) (.int .i64 t478)) (fun _ hk => hk.2) (.int .i64 t479)) (fun _ hk => hk.2) (.int .i64 t480)) (fun _ h_ => h_.1)))); (case side2 => exact (Kd.S_reads' HO474.out).2.1); (case side3 => refine (rR_q (e := 3) (base := w.heap.size) (ok := fun k_ => True) (n := t475.length) (c := co11) ?_).2.2; exact (by (with_reducible repeat (first | apply rA_q | apply rN_q | apply rD_q)); exact (rM_q (Kd.R_far (p := ⟨gb481, 2, none⟩) (Kd.R_far (p := ⟨gb481, 1, none⟩) (Kd.R_far (p := ⟨gb481, 0, none⟩) (Kd.R_types HO477.out BK481.out (by decide)) (fun _ hk => hk.2) (.int .i64 t478)) (fun _ hk => hk.2) (.int .i64 t479)) (fun _ hk => hk.2) (.int .i64 t480)) (fun _ h_ => h_.1)))); (case side4 => exact (rR_q HO477.out).2.1); rintro e w12 ⟨v483, rfl, ho0, hb⟩; refine ⟨_, rfl, ?_⟩; have n0_ := Ae_q (Kd.S_elder' (by (with_reducible repeat (first | apply tA_q | apply tN_q | apply tD_q)); exact (Kd.S_mono (Kd.S_far (p := ⟨gb481, 2, none⟩) (Kd.S_far (p := ⟨gb481, 1, none⟩) (Kd.S_far (p := ⟨gb481, 0, none⟩) (Kd.S_types HO474.out BK481.out (by decide)) (fun _ hk => hk.2) (.int .i64 t478)) (fun _ hk => hk.2) (.int .i64 t479)) (fun _ hk => hk.2) (.int .i64 t480)) (fun _ h_ => h_.1))) (rB_q ho0) hb); have n1_ := Ae_q (rE_q (by (with_reducible repeat (first | apply rA_q | apply rN_q | apply rD_q)); exact (rM_q (Kd.R_far (p := ⟨gb481, 2, none⟩) (Kd.R_far (p := ⟨gb481, 1, none⟩) (Kd.R_far (p := ⟨gb481, 0, none⟩) (Kd.R_types HO477.out BK481.out (by decide)) (fun _ hk => hk.2) (.int .i64 t478)) (fun _ hk => hk.2) (.int .i64 t479)) (fun _ hk => hk.2) (.int .i64 t480)) (fun _ h_ => h_.1))) (rB_q ho0) hb); have n2_ := Ae_q (rL_q (rW_q ho0 (rT_q (by (with_reducible repeat (first | apply rA_q | apply rN_q | apply rD_q)); exact (rM_q (Kd.R_far (p := ⟨gb481, 2, none⟩) (Kd.R_far (p := ⟨gb481, 1, none⟩) (Kd.R_far (p := ⟨gb481, 0, none⟩) (Kd.R_types HO477.out BK481.out (by decide)) (fun _ hk => hk.2) (.int .i64 t478)) (fun _ hk => hk.2) (.int .i64 t479)) (fun _ hk => hk.2) (.int .i64 t480)) (fun _ h_ => h_.1))))) (bZ_q (by repeat (with_reducible first | exact HB.out | apply bA_q | apply pB_q | apply bD_q | refine bS_q ?_ GE481.out)))); have n3_ := Ae_q (bB_q (g := gb481) (o := .cells #[.int .i64 t478, .int .i64 t479, .int .i64 t480] 52 (0, 0)) (by (with_reducible repeat (first | refine bN_q ?_ _ | refine bW_q ?_ | refine bL_q ?_ _)); refine blk_put (cs := #[.int .i64 t478, .int .i64 t479, .int .i64 0]) ?_ 2 _ rfl; (with_reducible repeat (first | refine bN_q ?_ _ | refine bW_q ?_ | refine bL_q ?_ _)); refine blk_put (cs := #[.int .i64 t478, .int .i64 0, .int .i64 0]) ?_ 1 _ rfl; (with_reducible repeat (first | refine bN_q ?_ _ | refine bW_q ?_ | refine bL_q ?_ _)); refine blk_put (cs := #[.int .i64 0, .int .i64 0, .int .i64 0]) ?_ 0 _ rfl; (with_reducible repeat (first | refine bN_q ?_ _ | refine bW_q ?_ | refine bL_q ?_ _)); exact BK481.out) hb); have n4_ := Ae_q (bT_q (by repeat (with_reducible first | exact HB.out | apply bA_q | apply pB_q | apply bD_q | refine bS_q ?_ GE481.out)) hb); clear HO474; clear HO477; clear BK481; clear HB; have HO474 := n0_; have HO477 := n1_; have HO484 := n2_; have BK481 := n3_; have HB := n4_; clear n0_ n1_ n2_ n3_ n4_; (try clear hb); (try clear hb2); (try clear hk); (try clear hi); (try clear ho0); have hcz13_0 : w12.cell? ⟨gb481, 0, none⟩ = some (.int .i64 t478) := (bC_q BK481.out 0).trans rfl; have hcz13_1 : w12.cell? ⟨gb481, 1, none⟩ = some (.int .i64 t479) := (bC_q BK481.out 1).trans rfl; have hcz13_2 : w12.cell? ⟨gb481, 2, none⟩ = some (.int .i64 t480) := (bC_q BK481.out 2).trans rfl; have hfz13_0 := bF_q BK481.out 0; have hfz13_1 := bF_q BK481.out 1; have hfz13_2 := bF_q BK481.out 2) | ((with_reducible refine gC_q (f := 30) rfl ?_); refine gL_q (some 25) rfl rfl Try.func30 (by kernel_rfl) rfl #[.slice Ao10 t472.length co10, .slice Ao11 t475.length co11, .agg #[.int .i64 t478, .int .i64 t479, .int .i64 t480]] rfl (by (try simp only [lM_q, lC_q, lN_q]); first | done | rfl | (simp only [lD_q, lT_q]; rfl)) ?_; (with_reducible refine (spec_OutageHits.calls k _ _ t472 _ _ t475 t478 t479 t480 t485 _ ?side1 ?side2 ?side3 ?side4 A5.out).mono ?_); (case side1 => repeat (first | exact (Kd.S_reads' HO474.out).2.2 | (with_reducible refine cA_q ?_ _) | (with_reducible refine cN_q ?_ _) | (with_reducible refine cD_q ?_))); (case side2 => exact (Kd.S_reads' HO474.out).2.1); (case side3 => exact cup (rR_q HO477.out).2.2); (case side4 => exact (rR_q HO477.out).2.1); rintro e w14 ⟨v486, rfl, ho0, hb⟩; refine ⟨_, rfl, ?_⟩; have n0_ := Ae_q (Kd.S_elder' (by (with_reducible repeat (first | apply tA_q | apply tN_q | apply tD_q)); exact HO474.out) (rB_q ho0) hb); have n1_ := Ae_q (rE_q (rup HO477.out) (rB_q ho0) hb); have n2_ := Ae_q (rE_q (rup HO484.out) (rB_q ho0) hb); have n3_ := Ae_q (rL_q (rW_q (rW_q ho0 (rT_q (rup HO477.out))) (rT_q (rup HO484.out))) (bZ_q (by repeat (with_reducible first | exact HB.out | apply bA_q | apply pB_q | apply bD_q | refine bS_q ?_ GE481.out)))); have n4_ := Ae_q (bB_q (g := gb481) (o := .cells #[.int .i64 t478, .int .i64 t479, .int .i64 t480] 52 (0, 0)) (bup BK481.out) hb); have n5_ := Ae_q (bT_q (by repeat (with_reducible first | exact HB.out | apply bA_q | apply pB_q | apply bD_q | refine bS_q ?_ GE481.out)) hb); clear HO474; clear HO477; clear HO484; clear BK481; clear HB; have HO474 := n0_; have HO477 := n1_; have HO484 := n2_; have HO487 := n3_; have BK481 := n4_; have HB := n5_; clear n0_ n1_ n2_ n3_ n4_ n5_; (try clear hb); (try clear hb2); (try clear hk); (try clear hi); (try clear ho0)))
 (try simp only [Act.put, sA_q, sZ_q, sS_q])
 go_cut [62] (fun v62 wc => ∃ (kq : Nat) (x62_5 : Bool), v62 = .bool x62_5 ∧ Aside0 (laws_FnHits.j0 kq t472 t475 t482 t485 x62_5 t478 t479 t480 = some r) ∧ Aside0 (kq ≤ k) ∧ Aside0 (Kd.S k31 31 wc w.heap.size (fun k_ => some k_ ≠ ((.slice Ao11 t475.length co11) : Value).ownBlock ∧ some k_ ≠ (v483 : Value).ownBlock ∧ some k_ ≠ (v486 : Value).ownBlock) (.slice Ao10 t472.length co10) t472) ∧ Aside0 (Kd.R kI_q 3 wc w.heap.size (fun k_ => some k_ ≠ (v483 : Value).ownBlock ∧ some k_ ≠ (v486 : Value).ownBlock) (.slice Ao11 t475.length co11) t475) ∧ Aside0 (Kd.R kI_q 3 wc w.heap.size (fun k_ => some k_ ≠ ((.slice Ao11 t475.length co11) : Value).ownBlock ∧ some k_ ≠ (v486 : Value).ownBlock) v483 t482) ∧ Aside0 (Kd.R kI_q 3 wc w.heap.size (fun k_ => some k_ ≠ ((.slice Ao11 t475.length co11) : Value).ownBlock ∧ some k_ ≠ (v483 : Value).ownBlock) v486 t485) ∧ Aside0 (wc.heap[gb481]? = some (.cells #[.int .i64 t478, .int .i64 t479, .int .i64 t480] 52 (0, 0))) ∧ Aside0 (Below w.heap.size w wc))
 case first =>
  have H := HC6.out
  clear HC6
  replace H := oB_q.mp H
  obtain ⟨t488, A150, H⟩ := H
  replace H : (if t488 = true then ((spec_PlanEnd.f k t472 t475).bind fun t489 => (if t489 < 0 then (laws_FnHits.j0 k t472 t475 t482 t485 true t478 t479 t480) else (if t478 < 1 then (laws_FnHits.j0 k t472 t475 t482 t485 true t478 t479 t480) else (if t478 > 4 then (laws_FnHits.j0 k t472 t475 t482 t485 true t478 t479 t480) else (if t479 < 0 then (laws_FnHits.j0 k t472 t475 t482 t485 true t478 t479 t480) else (if t480 < t479 then (laws_FnHits.j0 k t472 t475 t482 t485 true t478 t479 t480) else (laws_FnHits.j0 k t472 t475 t482 t485 (decide (t480 > 999)) t478 t479 t480))))))) else (laws_FnHits.j0 k t472 t475 t482 t485 true t478 t479 t480)) = some r := H
  have A15 := Ae_q A150
  clear A150
  by_cases c16 : t488 = true
  rotate_left
  ·replace c16 := fM_q.mpr c16
   subst c16
   have H1 : (laws_FnHits.j0 k t472 t475 t482 t485 true t478 t479 t480) = some r := by rw [if_neg (show ¬ (false = true) by decide)] at H; exact H
   clear H
   have H := H1
   clear H1
   have H' := Ae_q H
   clear H
   obtain ⟨Ao46, co46, eo46⟩ := rS_q HO484.out
   subst eo46
   obtain ⟨Ao47, co47, eo47⟩ := rS_q HO487.out
   subst eo47
   go_wp2_with (first | ((with_reducible refine gC_q (f := 12) rfl ?_); refine gL_q (some 28) rfl rfl Try.func12 (by kernel_rfl) rfl #[.slice Ao46 t482.length co46, .slice Ao47 t485.length co47] rfl (by (try simp only [lM_q, lC_q, lN_q]); first | done | rfl | (simp only [lD_q, lT_q]; rfl)) ?_; (with_reducible refine (laws_sameInts.calls k _ _ t482 _ _ t485 false _ ?side1 ?side2 ?side3 ?side4 A15.out).mono ?_); (case side1 => exact cup (rR_q HO484.out).2.2); (case side2 => exact (rR_q HO484.out).2.1); (case side3 => exact cup (rR_q HO487.out).2.2); (case side4 => exact (rR_q HO487.out).2.1); rintro e w' ⟨rfl, ⟨nd, rfl⟩⟩; refine ⟨_, rfl, ?_⟩))
   go_meet
   case rel => exact ⟨_, (true), (by first | rfl | (simp; done) | (simp [*]; done)), H', ⟨by first | omega | exact nR_q _⟩, ⟨by (with_reducible repeat (first | apply tA_q | apply tN_q | apply tD_q)); exact Kd.S_mono HO474.out (fun _ hk => ⟨hk.1.1, ⟨hk.1.2, hk.2⟩⟩)⟩, ⟨by (with_reducible repeat (first | apply rA_q | apply rN_q | apply rD_q)); exact rM_q HO477.out (fun _ hk => ⟨hk.1.2, hk.2⟩)⟩, ⟨by (with_reducible repeat (first | apply rA_q | apply rN_q | apply rD_q)); exact rM_q HO484.out (fun _ hk => ⟨hk.1.2, hk.2⟩)⟩, ⟨by (with_reducible repeat (first | apply rA_q | apply rN_q | apply rD_q)); exact rM_q HO487.out (fun _ hk => ⟨hk.1.2, hk.2⟩)⟩, ⟨by (with_reducible repeat (first | refine bN_q ?_ _ | refine bW_q ?_ | refine bL_q ?_ _)); exact BK481.out⟩, ⟨by repeat (with_reducible first | exact HB.out | apply bA_q | apply pB_q | apply bD_q | refine bS_q ?_ GE481.out)⟩⟩
  subst c16
  have H1 : ((spec_PlanEnd.f k t472 t475).bind fun t489 => (if t489 < 0 then (laws_FnHits.j0 k t472 t475 t482 t485 true t478 t479 t480) else (if t478 < 1 then (laws_FnHits.j0 k t472 t475 t482 t485 true t478 t479 t480) else (if t478 > 4 then (laws_FnHits.j0 k t472 t475 t482 t485 true t478 t479 t480) else (if t479 < 0 then (laws_FnHits.j0 k t472 t475 t482 t485 true t478 t479 t480) else (if t480 < t479 then (laws_FnHits.j0 k t472 t475 t482 t485 true t478 t479 t480) else (laws_FnHits.j0 k t472 t475 t482 t485 (decide (t480 > 999)) t478 t479 t480))))))) = some r := by rw [if_pos rfl] at H; exact H
  clear H
  have H := H1
  clear H1
  replace H := oB_q.mp H
  obtain ⟨t489, A170, H⟩ := H
  replace H : (if t489 < 0 then (laws_FnHits.j0 k t472 t475 t482 t485 true t478 t479 t480) else (if t478 < 1 then (laws_FnHits.j0 k t472 t475 t482 t485 true t478 t479 t480) else (if t478 > 4 then (laws_FnHits.j0 k t472 t475 t482 t485 true t478 t479 t480) else (if t479 < 0 then (laws_FnHits.j0 k t472 t475 t482 t485 true t478 t479 t480) else (if t480 < t479 then (laws_FnHits.j0 k t472 t475 t482 t485 true t478 t479 t480) else (laws_FnHits.j0 k t472 t475 t482 t485 (decide (t480 > 999)) t478 t479 t480)))))) = some r := H
  have A17 := Ae_q A170
  clear A170
  by_cases c18 : t489 < 0
  ·rw [if_pos c18] at H
   have c18b0 : decide (t489 < 0) = true := dT_q c18
   clear c18
   (first | rw [c18b0] | (simp only [i64_w, i32_w]; rw [c18b0]) | skip)
   have H' := Ae_q H
   clear H
   obtain ⟨Ao19, co19, eo19⟩ := rS_q HO484.out
   subst eo19
   obtain ⟨Ao20, co20, eo20⟩ := rS_q HO487.out
   subst eo20
   go_wp2_with (first | ((with_reducible refine gC_q (f := 12) rfl ?_); refine gL_q (some 28) rfl rfl Try.func12 (by kernel_rfl) rfl #[.slice Ao19 t482.length co19, .slice Ao20 t485.length co20] rfl (by (try simp only [lM_q, lC_q, lN_q]); first | done | rfl | (simp only [lD_q, lT_q]; rfl)) ?_; (with_reducible refine (laws_sameInts.calls k _ _ t482 _ _ t485 true _ ?side1 ?side2 ?side3 ?side4 A15.out).mono ?_); (case side1 => exact cup (rR_q HO484.out).2.2); (case side2 => exact (rR_q HO484.out).2.1); (case side3 => exact cup (rR_q HO487.out).2.2); (case side4 => exact (rR_q HO487.out).2.1); rintro e w' ⟨rfl, ⟨nd, rfl⟩⟩; refine ⟨_, rfl, ?_⟩) | (go_at_call 26; (with_reducible refine (spec_PlanEnd.calls k _ _ t472 _ _ t475 t489 _ ?side1 ?side2 ?side3 ?side4 A17.out).mono ?_); (case side1 => repeat (first | exact (Kd.S_reads' HO474.out).2.2 | (with_reducible refine cA_q ?_ _) | (with_reducible refine cN_q ?_ _) | (with_reducible refine cD_q ?_))); (case side2 => exact (Kd.S_reads' HO474.out).2.1); (case side3 => exact cup (rR_q HO477.out).2.2); (case side4 => exact (rR_q HO477.out).2.1); rintro e w21 ⟨rfl, hb⟩; have n0_ := Ae_q (Kd.S_below (by (with_reducible repeat (first | apply tA_q | apply tN_q | apply tD_q)); exact HO474.out) hb); have n1_ := Ae_q (rO_q (rup HO477.out) hb); have n2_ := Ae_q (rO_q (rup HO484.out) hb); have n3_ := Ae_q (rO_q (rup HO487.out) hb); have n4_ := Ae_q (bB_q (g := gb481) (o := .cells #[.int .i64 t478, .int .i64 t479, .int .i64 t480] 52 (0, 0)) (bup BK481.out) hb); have n5_ := Ae_q (bT_q (by repeat (with_reducible first | exact HB.out | apply bA_q | apply pB_q | apply bD_q | refine bS_q ?_ GE481.out)) hb); clear HO474; clear HO477; clear HO484; clear HO487; clear BK481; clear HB; have HO474 := n0_; have HO477 := n1_; have HO484 := n2_; have HO487 := n3_; have BK481 := n4_; have HB := n5_; clear n0_ n1_ n2_ n3_ n4_ n5_; (try clear hb); (try clear hb2); (try clear hk); (try clear hi)))
   go_meet
   case rel => exact ⟨_, (true), (by first | rfl | (simp; done) | (simp [*]; done)), H', ⟨by first | omega | exact nR_q _⟩, ⟨by (with_reducible repeat (first | apply tA_q | apply tN_q | apply tD_q)); exact Kd.S_mono HO474.out (fun _ hk => ⟨hk.1.1, ⟨hk.1.2, hk.2⟩⟩)⟩, ⟨by (with_reducible repeat (first | apply rA_q | apply rN_q | apply rD_q)); exact rM_q HO477.out (fun _ hk => ⟨hk.1.2, hk.2⟩)⟩, ⟨by (with_reducible repeat (first | apply rA_q | apply rN_q | apply rD_q)); exact rM_q HO484.out (fun _ hk => ⟨hk.1.2, hk.2⟩)⟩, ⟨by (with_reducible repeat (first | apply rA_q | apply rN_q | apply rD_q)); exact rM_q HO487.out (fun _ hk => ⟨hk.1.2, hk.2⟩)⟩, ⟨by (with_reducible repeat (first | refine bN_q ?_ _ | refine bW_q ?_ | refine bL_q ?_ _)); exact BK481.out⟩, ⟨by repeat (with_reducible first | exact HB.out | apply bA_q | apply pB_q | apply bD_q | refine bS_q ?_ GE481.out)⟩⟩
  rw [if_neg c18] at H
  have c18b0 : decide (t489 < 0) = false := dF_q c18
  clear c18
  (first | rw [c18b0] | (simp only [i64_w, i32_w]; rw [c18b0]) | skip)
  by_cases c22 : t478 < 1
  ·rw [if_pos c22] at H
   have c22b0 : decide (t478 < 1) = true := dT_q c22
   clear c22
   have H' := Ae_q H
   clear H
   obtain ⟨Ao23, co23, eo23⟩ := rS_q HO484.out
   subst eo23
   obtain ⟨Ao24, co24, eo24⟩ := rS_q HO487.out
   subst eo24
   go_wp2_with (first | ((with_reducible refine gC_q (f := 12) rfl ?_); refine gL_q (some 28) rfl rfl Try.func12 (by kernel_rfl) rfl #[.slice Ao23 t482.length co23, .slice Ao24 t485.length co24] rfl (by (try simp only [lM_q, lC_q, lN_q]); first | done | rfl | (simp only [lD_q, lT_q]; rfl)) ?_; (with_reducible refine (laws_sameInts.calls k _ _ t482 _ _ t485 true _ ?side1 ?side2 ?side3 ?side4 A15.out).mono ?_); (case side1 => exact cup (rR_q HO484.out).2.2); (case side2 => exact (rR_q HO484.out).2.1); (case side3 => exact cup (rR_q HO487.out).2.2); (case side4 => exact (rR_q HO487.out).2.1); rintro e w' ⟨rfl, ⟨nd, rfl⟩⟩; refine ⟨_, rfl, ?_⟩) | (go_at_call 26; (with_reducible refine (spec_PlanEnd.calls k _ _ t472 _ _ t475 t489 _ ?side1 ?side2 ?side3 ?side4 A17.out).mono ?_); (case side1 => repeat (first | exact (Kd.S_reads' HO474.out).2.2 | (with_reducible refine cA_q ?_ _) | (with_reducible refine cN_q ?_ _) | (with_reducible refine cD_q ?_))); (case side2 => exact (Kd.S_reads' HO474.out).2.1); (case side3 => exact cup (rR_q HO477.out).2.2); (case side4 => exact (rR_q HO477.out).2.1); rintro e w25 ⟨rfl, hb⟩; have n0_ := Ae_q (Kd.S_below (by (with_reducible repeat (first | apply tA_q | apply tN_q | apply tD_q)); exact HO474.out) hb); have n1_ := Ae_q (rO_q (rup HO477.out) hb); have n2_ := Ae_q (rO_q (rup HO484.out) hb); have n3_ := Ae_q (rO_q (rup HO487.out) hb); have n4_ := Ae_q (bB_q (g := gb481) (o := .cells #[.int .i64 t478, .int .i64 t479, .int .i64 t480] 52 (0, 0)) (bup BK481.out) hb); have n5_ := Ae_q (bT_q (by repeat (with_reducible first | exact HB.out | apply bA_q | apply pB_q | apply bD_q | refine bS_q ?_ GE481.out)) hb); clear HO474; clear HO477; clear HO484; clear HO487; clear BK481; clear HB; have HO474 := n0_; have HO477 := n1_; have HO484 := n2_; have HO487 := n3_; have BK481 := n4_; have HB := n5_; clear n0_ n1_ n2_ n3_ n4_ n5_; (try clear hb); (try clear hb2); (try clear hk); (try clear hi); have hcz26_0 : w25.cell? ⟨gb481, 0, none⟩ = some (.int .i64 t478) := (bC_q BK481.out 0).trans rfl; have hcz26_1 : w25.cell? ⟨gb481, 1, none⟩ = some (.int .i64 t479) := (bC_q BK481.out 1).trans rfl; have hcz26_2 : w25.cell? ⟨gb481, 2, none⟩ = some (.int .i64 t480) := (bC_q BK481.out 2).trans rfl; have hfz26_0 := bF_q BK481.out 0; have hfz26_1 := bF_q BK481.out 1; have hfz26_2 := bF_q BK481.out 2))
   go_meet
   case rel => exact ⟨_, (true), (by first | rfl | (simp; done) | (simp [*]; done)), H', ⟨by first | omega | exact nR_q _⟩, ⟨by (with_reducible repeat (first | apply tA_q | apply tN_q | apply tD_q)); exact Kd.S_mono HO474.out (fun _ hk => ⟨hk.1.1, ⟨hk.1.2, hk.2⟩⟩)⟩, ⟨by (with_reducible repeat (first | apply rA_q | apply rN_q | apply rD_q)); exact rM_q HO477.out (fun _ hk => ⟨hk.1.2, hk.2⟩)⟩, ⟨by (with_reducible repeat (first | apply rA_q | apply rN_q | apply rD_q)); exact rM_q HO484.out (fun _ hk => ⟨hk.1.2, hk.2⟩)⟩, ⟨by (with_reducible repeat (first | apply rA_q | apply rN_q | apply rD_q)); exact rM_q HO487.out (fun _ hk => ⟨hk.1.2, hk.2⟩)⟩, ⟨by (with_reducible repeat (first | refine bN_q ?_ _ | refine bW_q ?_ | refine bL_q ?_ _)); exact BK481.out⟩, ⟨by repeat (with_reducible first | exact HB.out | apply bA_q | apply pB_q | apply bD_q | refine bS_q ?_ GE481.out)⟩⟩
  rw [if_neg c22] at H
  have c22b0 : decide (t478 < 1) = false := dF_q c22
  clear c22
  by_cases c27 : t478 > 4
  ·rw [if_pos c27] at H
   have c27b0 : decide (4 < t478) = true := dT_q c27
   clear c27
   have H' := Ae_q H
   clear H
   obtain ⟨Ao28, co28, eo28⟩ := rS_q HO484.out
   subst eo28
   obtain ⟨Ao29, co29, eo29⟩ := rS_q HO487.out
   subst eo29
   go_wp2_with (first | ((with_reducible refine gC_q (f := 12) rfl ?_); refine gL_q (some 28) rfl rfl Try.func12 (by kernel_rfl) rfl #[.slice Ao28 t482.length co28, .slice Ao29 t485.length co29] rfl (by (try simp only [lM_q, lC_q, lN_q]); first | done | rfl | (simp only [lD_q, lT_q]; rfl)) ?_; (with_reducible refine (laws_sameInts.calls k _ _ t482 _ _ t485 true _ ?side1 ?side2 ?side3 ?side4 A15.out).mono ?_); (case side1 => exact cup (rR_q HO484.out).2.2); (case side2 => exact (rR_q HO484.out).2.1); (case side3 => exact cup (rR_q HO487.out).2.2); (case side4 => exact (rR_q HO487.out).2.1); rintro e w' ⟨rfl, ⟨nd, rfl⟩⟩; refine ⟨_, rfl, ?_⟩) | (go_at_call 26; (with_reducible refine (spec_PlanEnd.calls k _ _ t472 _ _ t475 t489 _ ?side1 ?side2 ?side3 ?side4 A17.out).mono ?_); (case side1 => repeat (first | exact (Kd.S_reads' HO474.out).2.2 | (with_reducible refine cA_q ?_ _) | (with_reducible refine cN_q ?_ _) | (with_reducible refine cD_q ?_))); (case side2 => exact (Kd.S_reads' HO474.out).2.1); (case side3 => exact cup (rR_q HO477.out).2.2); (case side4 => exact (rR_q HO477.out).2.1); rintro e w30 ⟨rfl, hb⟩; have n0_ := Ae_q (Kd.S_below (by (with_reducible repeat (first | apply tA_q | apply tN_q | apply tD_q)); exact HO474.out) hb); have n1_ := Ae_q (rO_q (rup HO477.out) hb); have n2_ := Ae_q (rO_q (rup HO484.out) hb); have n3_ := Ae_q (rO_q (rup HO487.out) hb); have n4_ := Ae_q (bB_q (g := gb481) (o := .cells #[.int .i64 t478, .int .i64 t479, .int .i64 t480] 52 (0, 0)) (bup BK481.out) hb); have n5_ := Ae_q (bT_q (by repeat (with_reducible first | exact HB.out | apply bA_q | apply pB_q | apply bD_q | refine bS_q ?_ GE481.out)) hb); clear HO474; clear HO477; clear HO484; clear HO487; clear BK481; clear HB; have HO474 := n0_; have HO477 := n1_; have HO484 := n2_; have HO487 := n3_; have BK481 := n4_; have HB := n5_; clear n0_ n1_ n2_ n3_ n4_ n5_; (try clear hb); (try clear hb2); (try clear hk); (try clear hi); have hcz31_0 : w30.cell? ⟨gb481, 0, none⟩ = some (.int .i64 t478) := (bC_q BK481.out 0).trans rfl; have hcz31_1 : w30.cell? ⟨gb481, 1, none⟩ = some (.int .i64 t479) := (bC_q BK481.out 1).trans rfl; have hcz31_2 : w30.cell? ⟨gb481, 2, none⟩ = some (.int .i64 t480) := (bC_q BK481.out 2).trans rfl; have hfz31_0 := bF_q BK481.out 0; have hfz31_1 := bF_q BK481.out 1; have hfz31_2 := bF_q BK481.out 2))
   go_meet
   case rel => exact ⟨_, (true), (by first | rfl | (simp; done) | (simp [*]; done)), H', ⟨by first | omega | exact nR_q _⟩, ⟨by (with_reducible repeat (first | apply tA_q | apply tN_q | apply tD_q)); exact Kd.S_mono HO474.out (fun _ hk => ⟨hk.1.1, ⟨hk.1.2, hk.2⟩⟩)⟩, ⟨by (with_reducible repeat (first | apply rA_q | apply rN_q | apply rD_q)); exact rM_q HO477.out (fun _ hk => ⟨hk.1.2, hk.2⟩)⟩, ⟨by (with_reducible repeat (first | apply rA_q | apply rN_q | apply rD_q)); exact rM_q HO484.out (fun _ hk => ⟨hk.1.2, hk.2⟩)⟩, ⟨by (with_reducible repeat (first | apply rA_q | apply rN_q | apply rD_q)); exact rM_q HO487.out (fun _ hk => ⟨hk.1.2, hk.2⟩)⟩, ⟨by (with_reducible repeat (first | refine bN_q ?_ _ | refine bW_q ?_ | refine bL_q ?_ _)); exact BK481.out⟩, ⟨by repeat (with_reducible first | exact HB.out | apply bA_q | apply pB_q | apply bD_q | refine bS_q ?_ GE481.out)⟩⟩
  rw [if_neg c27] at H
  have c27b0 : decide (4 < t478) = false := dF_q c27
  clear c27
  by_cases c32 : t479 < 0
  ·rw [if_pos c32] at H
   have c32b0 : decide (t479 < 0) = true := dT_q c32
   clear c32
   have H' := Ae_q H
   clear H
   obtain ⟨Ao33, co33, eo33⟩ := rS_q HO484.out
   subst eo33
   obtain ⟨Ao34, co34, eo34⟩ := rS_q HO487.out
   subst eo34
   go_wp2_with (first | ((with_reducible refine gC_q (f := 12) rfl ?_); refine gL_q (some 28) rfl rfl Try.func12 (by kernel_rfl) rfl #[.slice Ao33 t482.length co33, .slice Ao34 t485.length co34] rfl (by (try simp only [lM_q, lC_q, lN_q]); first | done | rfl | (simp only [lD_q, lT_q]; rfl)) ?_; (with_reducible refine (laws_sameInts.calls k _ _ t482 _ _ t485 true _ ?side1 ?side2 ?side3 ?side4 A15.out).mono ?_); (case side1 => exact cup (rR_q HO484.out).2.2); (case side2 => exact (rR_q HO484.out).2.1); (case side3 => exact cup (rR_q HO487.out).2.2); (case side4 => exact (rR_q HO487.out).2.1); rintro e w' ⟨rfl, ⟨nd, rfl⟩⟩; refine ⟨_, rfl, ?_⟩) | (go_at_call 26; (with_reducible refine (spec_PlanEnd.calls k _ _ t472 _ _ t475 t489 _ ?side1 ?side2 ?side3 ?side4 A17.out).mono ?_); (case side1 => repeat (first | exact (Kd.S_reads' HO474.out).2.2 | (with_reducible refine cA_q ?_ _) | (with_reducible refine cN_q ?_ _) | (with_reducible refine cD_q ?_))); (case side2 => exact (Kd.S_reads' HO474.out).2.1); (case side3 => exact cup (rR_q HO477.out).2.2); (case side4 => exact (rR_q HO477.out).2.1); rintro e w35 ⟨rfl, hb⟩; have n0_ := Ae_q (Kd.S_below (by (with_reducible repeat (first | apply tA_q | apply tN_q | apply tD_q)); exact HO474.out) hb); have n1_ := Ae_q (rO_q (rup HO477.out) hb); have n2_ := Ae_q (rO_q (rup HO484.out) hb); have n3_ := Ae_q (rO_q (rup HO487.out) hb); have n4_ := Ae_q (bB_q (g := gb481) (o := .cells #[.int .i64 t478, .int .i64 t479, .int .i64 t480] 52 (0, 0)) (bup BK481.out) hb); have n5_ := Ae_q (bT_q (by repeat (with_reducible first | exact HB.out | apply bA_q | apply pB_q | apply bD_q | refine bS_q ?_ GE481.out)) hb); clear HO474; clear HO477; clear HO484; clear HO487; clear BK481; clear HB; have HO474 := n0_; have HO477 := n1_; have HO484 := n2_; have HO487 := n3_; have BK481 := n4_; have HB := n5_; clear n0_ n1_ n2_ n3_ n4_ n5_; (try clear hb); (try clear hb2); (try clear hk); (try clear hi); have hcz36_0 : w35.cell? ⟨gb481, 0, none⟩ = some (.int .i64 t478) := (bC_q BK481.out 0).trans rfl; have hcz36_1 : w35.cell? ⟨gb481, 1, none⟩ = some (.int .i64 t479) := (bC_q BK481.out 1).trans rfl; have hcz36_2 : w35.cell? ⟨gb481, 2, none⟩ = some (.int .i64 t480) := (bC_q BK481.out 2).trans rfl; have hfz36_0 := bF_q BK481.out 0; have hfz36_1 := bF_q BK481.out 1; have hfz36_2 := bF_q BK481.out 2))
   go_meet
   case rel => exact ⟨_, (true), (by first | rfl | (simp; done) | (simp [*]; done)), H', ⟨by first | omega | exact nR_q _⟩, ⟨by (with_reducible repeat (first | apply tA_q | apply tN_q | apply tD_q)); exact Kd.S_mono HO474.out (fun _ hk => ⟨hk.1.1, ⟨hk.1.2, hk.2⟩⟩)⟩, ⟨by (with_reducible repeat (first | apply rA_q | apply rN_q | apply rD_q)); exact rM_q HO477.out (fun _ hk => ⟨hk.1.2, hk.2⟩)⟩, ⟨by (with_reducible repeat (first | apply rA_q | apply rN_q | apply rD_q)); exact rM_q HO484.out (fun _ hk => ⟨hk.1.2, hk.2⟩)⟩, ⟨by (with_reducible repeat (first | apply rA_q | apply rN_q | apply rD_q)); exact rM_q HO487.out (fun _ hk => ⟨hk.1.2, hk.2⟩)⟩, ⟨by (with_reducible repeat (first | refine bN_q ?_ _ | refine bW_q ?_ | refine bL_q ?_ _)); exact BK481.out⟩, ⟨by repeat (with_reducible first | exact HB.out | apply bA_q | apply pB_q | apply bD_q | refine bS_q ?_ GE481.out)⟩⟩
  rw [if_neg c32] at H
  have c32b0 : decide (t479 < 0) = false := dF_q c32
  clear c32
  by_cases c37 : t480 < t479
  ·rw [if_pos c37] at H
   have c37b0 : decide (t480 < t479) = true := dT_q c37
   clear c37
   have H' := Ae_q H
   clear H
   obtain ⟨Ao38, co38, eo38⟩ := rS_q HO484.out
   subst eo38
   obtain ⟨Ao39, co39, eo39⟩ := rS_q HO487.out
   subst eo39
   go_wp2_with (first | ((with_reducible refine gC_q (f := 12) rfl ?_); refine gL_q (some 28) rfl rfl Try.func12 (by kernel_rfl) rfl #[.slice Ao38 t482.length co38, .slice Ao39 t485.length co39] rfl (by (try simp only [lM_q, lC_q, lN_q]); first | done | rfl | (simp only [lD_q, lT_q]; rfl)) ?_; (with_reducible refine (laws_sameInts.calls k _ _ t482 _ _ t485 true _ ?side1 ?side2 ?side3 ?side4 A15.out).mono ?_); (case side1 => exact cup (rR_q HO484.out).2.2); (case side2 => exact (rR_q HO484.out).2.1); (case side3 => exact cup (rR_q HO487.out).2.2); (case side4 => exact (rR_q HO487.out).2.1); rintro e w' ⟨rfl, ⟨nd, rfl⟩⟩; refine ⟨_, rfl, ?_⟩) | (go_at_call 26; (with_reducible refine (spec_PlanEnd.calls k _ _ t472 _ _ t475 t489 _ ?side1 ?side2 ?side3 ?side4 A17.out).mono ?_); (case side1 => repeat (first | exact (Kd.S_reads' HO474.out).2.2 | (with_reducible refine cA_q ?_ _) | (with_reducible refine cN_q ?_ _) | (with_reducible refine cD_q ?_))); (case side2 => exact (Kd.S_reads' HO474.out).2.1); (case side3 => exact cup (rR_q HO477.out).2.2); (case side4 => exact (rR_q HO477.out).2.1); rintro e w40 ⟨rfl, hb⟩; have n0_ := Ae_q (Kd.S_below (by (with_reducible repeat (first | apply tA_q | apply tN_q | apply tD_q)); exact HO474.out) hb); have n1_ := Ae_q (rO_q (rup HO477.out) hb); have n2_ := Ae_q (rO_q (rup HO484.out) hb); have n3_ := Ae_q (rO_q (rup HO487.out) hb); have n4_ := Ae_q (bB_q (g := gb481) (o := .cells #[.int .i64 t478, .int .i64 t479, .int .i64 t480] 52 (0, 0)) (bup BK481.out) hb); have n5_ := Ae_q (bT_q (by repeat (with_reducible first | exact HB.out | apply bA_q | apply pB_q | apply bD_q | refine bS_q ?_ GE481.out)) hb); clear HO474; clear HO477; clear HO484; clear HO487; clear BK481; clear HB; have HO474 := n0_; have HO477 := n1_; have HO484 := n2_; have HO487 := n3_; have BK481 := n4_; have HB := n5_; clear n0_ n1_ n2_ n3_ n4_ n5_; (try clear hb); (try clear hb2); (try clear hk); (try clear hi); have hcz41_0 : w40.cell? ⟨gb481, 0, none⟩ = some (.int .i64 t478) := (bC_q BK481.out 0).trans rfl; have hcz41_1 : w40.cell? ⟨gb481, 1, none⟩ = some (.int .i64 t479) := (bC_q BK481.out 1).trans rfl; have hcz41_2 : w40.cell? ⟨gb481, 2, none⟩ = some (.int .i64 t480) := (bC_q BK481.out 2).trans rfl; have hfz41_0 := bF_q BK481.out 0; have hfz41_1 := bF_q BK481.out 1; have hfz41_2 := bF_q BK481.out 2))
   go_meet
   case rel => exact ⟨_, (true), (by first | rfl | (simp; done) | (simp [*]; done)), H', ⟨by first | omega | exact nR_q _⟩, ⟨by (with_reducible repeat (first | apply tA_q | apply tN_q | apply tD_q)); exact Kd.S_mono HO474.out (fun _ hk => ⟨hk.1.1, ⟨hk.1.2, hk.2⟩⟩)⟩, ⟨by (with_reducible repeat (first | apply rA_q | apply rN_q | apply rD_q)); exact rM_q HO477.out (fun _ hk => ⟨hk.1.2, hk.2⟩)⟩, ⟨by (with_reducible repeat (first | apply rA_q | apply rN_q | apply rD_q)); exact rM_q HO484.out (fun _ hk => ⟨hk.1.2, hk.2⟩)⟩, ⟨by (with_reducible repeat (first | apply rA_q | apply rN_q | apply rD_q)); exact rM_q HO487.out (fun _ hk => ⟨hk.1.2, hk.2⟩)⟩, ⟨by (with_reducible repeat (first | refine bN_q ?_ _ | refine bW_q ?_ | refine bL_q ?_ _)); exact BK481.out⟩, ⟨by repeat (with_reducible first | exact HB.out | apply bA_q | apply pB_q | apply bD_q | refine bS_q ?_ GE481.out)⟩⟩
  rw [if_neg c37] at H
  have c37b0 : decide (t480 < t479) = false := dF_q c37
  clear c37
  have H' := Ae_q H
  clear H
  obtain ⟨Ao42, co42, eo42⟩ := rS_q HO484.out
  subst eo42
  obtain ⟨Ao43, co43, eo43⟩ := rS_q HO487.out
  subst eo43
  go_wp2_with (first | ((with_reducible refine gC_q (f := 12) rfl ?_); refine gL_q (some 28) rfl rfl Try.func12 (by kernel_rfl) rfl #[.slice Ao42 t482.length co42, .slice Ao43 t485.length co43] rfl (by (try simp only [lM_q, lC_q, lN_q]); first | done | rfl | (simp only [lD_q, lT_q]; rfl)) ?_; (with_reducible refine (laws_sameInts.calls k _ _ t482 _ _ t485 true _ ?side1 ?side2 ?side3 ?side4 A15.out).mono ?_); (case side1 => exact cup (rR_q HO484.out).2.2); (case side2 => exact (rR_q HO484.out).2.1); (case side3 => exact cup (rR_q HO487.out).2.2); (case side4 => exact (rR_q HO487.out).2.1); rintro e w' ⟨rfl, ⟨nd, rfl⟩⟩; refine ⟨_, rfl, ?_⟩) | (go_at_call 26; (with_reducible refine (spec_PlanEnd.calls k _ _ t472 _ _ t475 t489 _ ?side1 ?side2 ?side3 ?side4 A17.out).mono ?_); (case side1 => repeat (first | exact (Kd.S_reads' HO474.out).2.2 | (with_reducible refine cA_q ?_ _) | (with_reducible refine cN_q ?_ _) | (with_reducible refine cD_q ?_))); (case side2 => exact (Kd.S_reads' HO474.out).2.1); (case side3 => exact cup (rR_q HO477.out).2.2); (case side4 => exact (rR_q HO477.out).2.1); rintro e w44 ⟨rfl, hb⟩; have n0_ := Ae_q (Kd.S_below (by (with_reducible repeat (first | apply tA_q | apply tN_q | apply tD_q)); exact HO474.out) hb); have n1_ := Ae_q (rO_q (rup HO477.out) hb); have n2_ := Ae_q (rO_q (rup HO484.out) hb); have n3_ := Ae_q (rO_q (rup HO487.out) hb); have n4_ := Ae_q (bB_q (g := gb481) (o := .cells #[.int .i64 t478, .int .i64 t479, .int .i64 t480] 52 (0, 0)) (bup BK481.out) hb); have n5_ := Ae_q (bT_q (by repeat (with_reducible first | exact HB.out | apply bA_q | apply pB_q | apply bD_q | refine bS_q ?_ GE481.out)) hb); clear HO474; clear HO477; clear HO484; clear HO487; clear BK481; clear HB; have HO474 := n0_; have HO477 := n1_; have HO484 := n2_; have HO487 := n3_; have BK481 := n4_; have HB := n5_; clear n0_ n1_ n2_ n3_ n4_ n5_; (try clear hb); (try clear hb2); (try clear hk); (try clear hi); have hcz45_0 : w44.cell? ⟨gb481, 0, none⟩ = some (.int .i64 t478) := (bC_q BK481.out 0).trans rfl; have hcz45_1 : w44.cell? ⟨gb481, 1, none⟩ = some (.int .i64 t479) := (bC_q BK481.out 1).trans rfl; have hcz45_2 : w44.cell? ⟨gb481, 2, none⟩ = some (.int .i64 t480) := (bC_q BK481.out 2).trans rfl; have hfz45_0 := bF_q BK481.out 0; have hfz45_1 := bF_q BK481.out 1; have hfz45_2 := bF_q BK481.out 2))
  go_meet
  case rel => exact ⟨_, (decide (t480 > 999)), (by first | rfl | (simp; done) | (simp [*]; done)), H', ⟨by first | omega | exact nR_q _⟩, ⟨by (with_reducible repeat (first | apply tA_q | apply tN_q | apply tD_q)); exact Kd.S_mono HO474.out (fun _ hk => ⟨hk.1.1, ⟨hk.1.2, hk.2⟩⟩)⟩, ⟨by (with_reducible repeat (first | apply rA_q | apply rN_q | apply rD_q)); exact rM_q HO477.out (fun _ hk => ⟨hk.1.2, hk.2⟩)⟩, ⟨by (with_reducible repeat (first | apply rA_q | apply rN_q | apply rD_q)); exact rM_q HO484.out (fun _ hk => ⟨hk.1.2, hk.2⟩)⟩, ⟨by (with_reducible repeat (first | apply rA_q | apply rN_q | apply rD_q)); exact rM_q HO487.out (fun _ hk => ⟨hk.1.2, hk.2⟩)⟩, ⟨by (with_reducible repeat (first | refine bN_q ?_ _ | refine bW_q ?_ | refine bL_q ?_ _)); exact BK481.out⟩, ⟨by repeat (with_reducible first | exact HB.out | apply bA_q | apply pB_q | apply bD_q | refine bS_q ?_ GE481.out)⟩⟩
 case rest =>
  clear HC6
  try clear c1
  try clear c2
  try clear c2b0
  try clear c2b1
  try clear p2
  try clear c3
  try clear c8
  try clear c12
  try clear c16
  try clear c18
  try clear c18b0
  try clear c22
  try clear c22b0
  try clear c27
  try clear c27b0
  try clear c28
  try clear c29
  try clear c30
  try clear c32
  try clear c32b0
  try clear c37
  try clear c37b0
  try clear hcz13_0
  try clear hcz13_1
  try clear hcz13_2
  try clear hcz26_0
  try clear hcz26_1
  try clear hcz26_2
  try clear hcz31_0
  try clear hcz31_1
  try clear hcz31_2
  try clear hcz36_0
  try clear hcz36_1
  try clear hcz36_2
  try clear hcz41_0
  try clear hcz41_1
  try clear hcz41_2
  try clear hcz45_0
  try clear hcz45_1
  try clear hcz45_2
  try clear hcz9_0
  try clear hcz9_1
  try clear hcz9_2
  try clear hfz13_0
  try clear hfz13_1
  try clear hfz13_2
  try clear hfz26_0
  try clear hfz26_1
  try clear hfz26_2
  try clear hfz31_0
  try clear hfz31_1
  try clear hfz31_2
  try clear hfz36_0
  try clear hfz36_1
  try clear hfz36_2
  try clear hfz41_0
  try clear hfz41_1
  try clear hfz41_2
  try clear hfz45_0
  try clear hfz45_1
  try clear hfz45_2
  try clear hfz9_0
  try clear hfz9_1
  try clear hfz9_2
  obtain ⟨kq, x62_5, rfl, HA, HJ5, HO_3, HO_4, HO_6, HO_7, BK481, HB⟩ := hcut
  cases kq with
  | zero => exact absurd HA.out (by simp [laws_FnHits.j0])
  | succ kj5 =>
   have H := HA.out
   clear HA
   simp only [laws_FnHits.j0] at H
   by_cases c48 : x62_5 = true
   ·subst c48
    have H1 : ((laws_sameInts.f kj5 t482 t485).bind fun t490 => (some t490)) = some r := by rw [if_pos rfl] at H; exact H
    clear H
    have H := H1
    clear H1
    replace H := oB_q.mp H
    obtain ⟨t490, A490, H⟩ := H
    replace H : (some t490) = some r := H
    have A49 := Ae_q A490
    clear A490
    obtain rfl := oI_q H
    obtain ⟨Ao50, co50, eo50⟩ := rS_q HO_6.out
    subst eo50
    obtain ⟨Ao51, co51, eo51⟩ := rS_q HO_7.out
    subst eo51
    go_wp2_with (first | ((with_reducible refine gC_q (f := 12) rfl ?_); refine gL_q (some 65) rfl rfl Try.func12 (by kernel_rfl) rfl #[.slice Ao50 t482.length co50, .slice Ao51 t485.length co51] rfl (by (try simp only [lM_q, lC_q, lN_q]); first | done | rfl | (simp only [lD_q, lT_q]; rfl)) ?_; (with_reducible refine (laws_sameInts.calls kj5 _ _ t482 _ _ t485 t490 _ ?side1 ?side2 ?side3 ?side4 A49.out).mono ?_); (case side1 => exact cup (rR_q HO_6.out).2.2); (case side2 => exact (rR_q HO_6.out).2.1); (case side3 => exact cup (rR_q HO_7.out).2.2); (case side4 => exact (rR_q HO_7.out).2.1); rintro e w' ⟨rfl, ⟨nd, rfl⟩⟩; refine ⟨_, rfl, ?_⟩))
    go_ret
    exact ⟨by first | rfl | (simp [eN_q, eS_q] <;> rfl) | (simp [*, eN_q, eS_q] <;> rfl), by repeat (with_reducible first | exact HB.out | apply bA_q | apply pB_q | apply bD_q | refine bS_q ?_ GE481.out)⟩
   replace c48 := fM_q.mpr c48
   subst c48
   have H1 : (laws_FnHits.l0 kj5 t472 t475 t482 0 t478 t479 t480) = some r := by rw [if_neg (show ¬ (false = true) by decide)] at H; exact H
   clear H
   have H := H1
   clear H1
   have H' := Ae_q H
   clear H
   go_wp2
   go_loopg [8] kj5 (fun kq v8 w' => ∃ (x8_2 : Int), v8 = .int .i64 x8_2 ∧ Aside0 (laws_FnHits.l0 kq t472 t475 t482 x8_2 t478 t479 t480 = some r) ∧ Aside0 (kq ≤ kj5) ∧ Aside0 (Kd.S k31 31 w' w.heap.size (fun k_ => some k_ ≠ ((.slice Ao11 t475.length co11) : Value).ownBlock ∧ some k_ ≠ (v483 : Value).ownBlock) (.slice Ao10 t472.length co10) t472) ∧ Aside0 (Kd.R kI_q 3 w' w.heap.size (fun k_ => some k_ ≠ (v483 : Value).ownBlock) (.slice Ao11 t475.length co11) t475) ∧ Aside0 (Kd.R kI_q 3 w' w.heap.size (fun k_ => some k_ ≠ ((.slice Ao11 t475.length co11) : Value).ownBlock) v483 t482) ∧ Aside0 (w'.heap[gb481]? = some (.cells #[.int .i64 t478, .int .i64 t479, .int .i64 t480] 52 (0, 0))) ∧ Aside0 (Below w.heap.size w w'))
   case atStart => exact ⟨(0), (by first | rfl | (simp; done) | (simp [*]; done)), H', ⟨nR_q _⟩, ⟨by (with_reducible repeat (first | apply tA_q | apply tN_q | apply tD_q)); exact Kd.S_mono HO_3.out (fun _ hk => ⟨hk.1, hk.2.1⟩)⟩, ⟨by (with_reducible repeat (first | apply rA_q | apply rN_q | apply rD_q)); exact rM_q HO_4.out (fun _ hk => hk.1)⟩, ⟨by (with_reducible repeat (first | apply rA_q | apply rN_q | apply rD_q)); exact rM_q HO_6.out (fun _ hk => hk.1)⟩, ⟨by (with_reducible repeat (first | refine bN_q ?_ _ | refine bW_q ?_ | refine bL_q ?_ _)); exact BK481.out⟩, ⟨by repeat (with_reducible first | exact HB.out | apply bA_q | apply pB_q | apply bD_q | refine bS_q ?_ GE481.out)⟩⟩
   case round =>
    clear H'
    try clear c1
    try clear c2
    try clear c2b0
    try clear c2b1
    try clear p2
    try clear c3
    try clear c4
    try clear c8
    try clear c12
    try clear c16
    try clear c18
    try clear c18b0
    try clear c22
    try clear c22b0
    try clear c27
    try clear c27b0
    try clear c28
    try clear c29
    try clear c30
    try clear c32
    try clear c32b0
    try clear c37
    try clear c37b0
    try clear c48
    try clear hcz13_0
    try clear hcz13_1
    try clear hcz13_2
    try clear hcz26_0
    try clear hcz26_1
    try clear hcz26_2
    try clear hcz31_0
    try clear hcz31_1
    try clear hcz31_2
    try clear hcz36_0
    try clear hcz36_1
    try clear hcz36_2
    try clear hcz41_0
    try clear hcz41_1
    try clear hcz41_2
    try clear hcz45_0
    try clear hcz45_1
    try clear hcz45_2
    try clear hcz9_0
    try clear hcz9_1
    try clear hcz9_2
    try clear hfz13_0
    try clear hfz13_1
    try clear hfz13_2
    try clear hfz26_0
    try clear hfz26_1
    try clear hfz26_2
    try clear hfz31_0
    try clear hfz31_1
    try clear hfz31_2
    try clear hfz36_0
    try clear hfz36_1
    try clear hfz36_2
    try clear hfz41_0
    try clear hfz41_1
    try clear hfz41_2
    try clear hfz45_0
    try clear hfz45_1
    try clear hfz45_2
    try clear hfz9_0
    try clear hfz9_1
    try clear hfz9_2
    try clear p2
    obtain ⟨x8_2, rfl, HA, HK2, HO_3, HO_4, HO_6, BK481, HB⟩ := hrel
    cases gk with
    | zero => exact absurd HA.out (by simp [laws_FnHits.l0])
    | succ k2 =>
     have H := HA.out
     clear HA
     simp only [laws_FnHits.l0] at H
     by_cases c52 : x8_2 < (t472.length : Int)
     rotate_left
     ·rw [if_neg c52] at H
      have c52b0 : decide (x8_2 < (t472.length : Int)) = false := dF_q c52
      clear c52
      obtain rfl := oI_q H
      obtain ⟨Ao73, co73, eo73⟩ := rS_q HO_6.out
      subst eo73
      go_wp2
      go_ret
      exact ⟨by first | rfl | (simp [eN_q, eS_q] <;> rfl) | (simp [*, eN_q, eS_q] <;> rfl), by repeat (with_reducible first | exact HB.out | apply bA_q | apply pB_q | apply bD_q | refine bS_q ?_ GE481.out)⟩
     rw [if_pos c52] at H
     have c52b0 : decide (x8_2 < (t472.length : Int)) = true := dT_q c52
     clear c52
     replace H := oB_q.mp H
     obtain ⟨t491, A530, H⟩ := H
     replace H : (if 0 ≤ x8_2 then (if ((rd_T31 t472 x8_2).f2) = t478 then (if x8_2 < (t475.length : Int) then (if (rd t475 x8_2) < t480 then (if (t491 != (decide ((wrap64 ((rd t475 x8_2) + ((rd_T31 t472 x8_2).f0))) > t479))) = true then (some false) else (laws_FnHits.l0 k2 t472 t475 t482 (wrap64 (x8_2 + 1)) t478 t479 t480)) else (if (t491 != false) = true then (some false) else (laws_FnHits.l0 k2 t472 t475 t482 (wrap64 (x8_2 + 1)) t478 t479 t480))) else (none)) else (if (t491 != false) = true then (some false) else (laws_FnHits.l0 k2 t472 t475 t482 (wrap64 (x8_2 + 1)) t478 t479 t480))) else (none)) = some r := H
     have A53 := Ae_q A530
     clear A530
     by_cases c54 : 0 ≤ x8_2
     rotate_left
     ·rw [if_neg c54] at H
      exact absurd H (by simp)
     rw [if_pos c54] at H
     have c54b0 : decide (0 ≤ x8_2) = true := dT_q c54
     clear c54
     by_cases c55 : ((rd_T31 t472 x8_2).f2) = t478
     rotate_left
     ·rw [if_neg c55] at H
      have c55b0 : (((rd_T31 t472 x8_2).f2) == t478) = false := fN_q.mpr c55
      have c55b1 : (((rd_T31 t472 x8_2).f2) != t478) = true := nI_q.mpr c55
      by_cases c68 : (t491 != false) = true
      ·rw [if_pos c68] at H
       have c68b0 : (t491 != false) = true := c68
       (try (have c68b1 : decide (t491 = false) = false := by simpa using c68))
       (try (have c68b2 : (t491 == false) = false := by simpa using c68))
       (try (have c68b3 : ¬ (t491 = false) := by simpa using c68))
       clear c68
       obtain rfl := oI_q H
       try go_wp2
       have n0_ := Ae_q (tD_q HO_3.out)
       have n1_ := Ae_q (rD_q HO_4.out)
       have n2_ := Ae_q (rD_q HO_6.out)
       have n3_ := Ae_q (bW_q BK481.out)
       have n4_ := Ae_q (bD_q HB.out)
       clear HO_3
       clear HO_4
       clear HO_6
       clear BK481
       clear HB
       have HO_3 := n0_
       have HO_4 := n1_
       have HO_6 := n2_
       have BK481 := n3_
       have HB := n4_
       clear n0_ n1_ n2_ n3_ n4_
       have p492 : 0 ≤ (x8_2 : Int) := oD_q (by assumption)
       have q492 : x8_2 < (t472.length : Int) := oD_q (by assumption)
       obtain ⟨ad492, A492_3, c492_3, e492, hx492_0, hx492_1, hx492_2, hx492_3, hl492_3, hi492_3⟩ := at_T31 (Kd.S_reads' HO_3.out).2.2 x8_2 p492 q492
       cases e492
       obtain ⟨ce492, hce492, hMe492, hcc492⟩ := Kd.S_get HO_3.out z31 x8_2 p492 (by first | exact q492 | exact oD_q (by assumption) | (have e_ := (Kd.S_reads' HO_3.out).1; omega))
       obtain ⟨ve492_3, rfl, ge492_3⟩ := k31_openM hMe492
       have hv492_3 := hcc492 3 _ rfl
       rw [add_field _ _ 3 (by omega)] at hv492_3
       replace hv492_3 := oI_q (hv492_3.symm.trans hx492_3)
       rw [hv492_3] at ge492_3
       have HL492_3 := Ae_q (show Kd.R kI_q 3 _ _ _ _ ((rd_T31 t472 x8_2).f3) from ge492_3)
       clear hv492_3 ge492_3
       clear hcc492 hce492
       have HR492_3 := Ae_q hi492_3
       have HC492_3 := Ae_q hl492_3
       clear hi492_3 hl492_3
       replace p492 := eq_true p492
       replace q492 := eq_true q492
       obtain ⟨Ao70, co70, eo70⟩ := rS_q HO_6.out
       (first | subst eo70 | (injection eo70 with f1_ f2_ f3_; have f4_ := f1_.symm; have f5_ := f3_.symm; clear f1_ f2_ f3_; subst f4_; subst f5_))
       refine start_ (n := 36) (S := fun w' => w'.cell? ⟨gb481, 0, none⟩ = some (.int .i64 t478) ∧ w'.cell? ⟨gb481, 1, none⟩ = some (.int .i64 t479) ∧ w'.cell? ⟨gb481, 2, none⟩ = some (.int .i64 t480) ∧ w'.cell? (ad492.add ((x8_2).toNat * 4)) = some (.int .i64 ((rd_T31 t472 x8_2).f0)) ∧ w'.cell? ⟨(ad492.add ((x8_2).toNat * 4)).block, (ad492.add ((x8_2).toNat * 4)).off + 1, none⟩ = some (.int .i64 ((rd_T31 t472 x8_2).f1)) ∧ w'.cell? ⟨(ad492.add ((x8_2).toNat * 4)).block, (ad492.add ((x8_2).toNat * 4)).off + 2, none⟩ = some (.int .i64 ((rd_T31 t472 x8_2).f2)) ∧ w'.cell? ⟨(ad492.add ((x8_2).toNat * 4)).block, (ad492.add ((x8_2).toNat * 4)).off + 3, none⟩ = some (.slice A492_3 ((rd_T31 t472 x8_2).f3).length c492_3)) (ds := []) #[false, false, false, false, false, false, false, false, false, false, false, false, false, false, false, false, false, false, false, false, false, false, false, false, false, false, false, false, false, false, false, false, false, false, false, false] (by kernel_rfl) rfl rfl ⟨(bC_q BK481.out 0).trans rfl, (bC_q BK481.out 1).trans rfl, (bC_q BK481.out 2).trans rfl, hx492_0, hx492_1, hx492_2, hx492_3⟩ (fun hHeld => ?_); refine with_tabW laws_FnHits.tab11 laws_FnHits.bits11 (fun HT_ HW_ => ?_)
       generalize wr.drew = w69 at HO_3 HO_4 HO_6 BK481 HB HL492_3 HR492_3 hx492_0 hx492_1 hx492_2 hx492_3 hHeld ⊢
       refine pure_ (i := 0) (N := some 72) (v := ?_) (a' := ?_) #[true, false, false, false, false, false, false, false, false, false, false, false, false, false, false, false, false, false, false, false, false, false, false, false, false, false, false, false, false, false, false, false, false, false, false, false] rfl rfl (any_of HT_.out (by kernel_rfl)) (fun _ _ _ h => h) (Or.inl ⟨by rfl, ?_⟩) ?_ ?_
       rotate_left
       ·intro w'
        go_simp
        with_reducible rfl
       rotate_left
       ·simp only [Act.put, sA_q, sZ_q, sS_q, i64_w, i32_w]
        rfl
       refine pure_ (i := 1) (N := some 73) (v := ?_) (a' := ?_) #[true, true, false, false, false, false, false, false, false, false, false, false, false, false, false, false, false, false, false, false, false, false, false, false, false, false, false, false, false, false, false, false, false, false, false, false] rfl rfl (any_of HT_.out (by kernel_rfl)) (fun _ _ _ h => h) (Or.inl ⟨by rfl, ?_⟩) ?_ ?_
       rotate_left
       ·intro w'
        go_simp
        with_reducible rfl
       rotate_left
       ·simp only [Act.put, sA_q, sZ_q, sS_q, i64_w, i32_w]
        rfl
       refine pure_ (i := 3) (N := some 75) (v := ?_) (a' := ?_) #[true, true, false, true, false, false, false, false, false, false, false, false, false, false, false, false, false, false, false, false, false, false, false, false, false, false, false, false, false, false, false, false, false, false, false, false] rfl rfl (any_of HT_.out (by kernel_rfl)) (fun _ _ _ h => h) (Or.inl ⟨by rfl, ?_⟩) ?_ ?_
       rotate_left
       ·intro w'
        go_simp
        with_reducible rfl
       rotate_left
       ·simp only [Act.put, sA_q, sZ_q, sS_q, i64_w, i32_w]
        rfl
       refine pure_ (i := 4) (N := some 76) (v := ?_) (a' := ?_) #[true, true, false, true, true, false, false, false, false, false, false, false, false, false, false, false, false, false, false, false, false, false, false, false, false, false, false, false, false, false, false, false, false, false, false, false] rfl rfl (any_of HT_.out (by kernel_rfl)) (fun _ _ _ h => h) (Or.inl ⟨by rfl, ?_⟩) ?_ ?_
       rotate_left
       ·intro w'
        go_simp
        with_reducible rfl
       rotate_left
       ·simp only [Act.put, sA_q, sZ_q, sS_q, i64_w, i32_w]
        rfl
       refine pure_ (i := 5) (N := some 77) (v := ?_) (a' := ?_) #[true, true, false, true, true, true, false, false, false, false, false, false, false, false, false, false, false, false, false, false, false, false, false, false, false, false, false, false, false, false, false, false, false, false, false, false] rfl rfl (any_of HT_.out (by kernel_rfl)) (fun _ _ _ h => h) (Or.inl ⟨by rfl, ?_⟩) ?_ ?_
       rotate_left
       ·intro w'
        go_simp
        with_reducible rfl
       rotate_left
       ·simp only [Act.put, sA_q, sZ_q, sS_q, i64_w, i32_w]
        rfl
       refine pure_ (i := 6) (N := some 78) (v := ?_) (a' := ?_) #[true, true, false, true, true, true, true, false, false, false, false, false, false, false, false, false, false, false, false, false, false, false, false, false, false, false, false, false, false, false, false, false, false, false, false, false] rfl rfl (any_of HT_.out (by kernel_rfl)) (fun _ _ _ h => h) (Or.inl ⟨by rfl, ?_⟩) ?_ ?_
       rotate_left
       ·intro w'
        go_simp
        with_reducible rfl
       rotate_left
       ·simp only [Act.put, sA_q, sZ_q, sS_q, i64_w, i32_w]
        rfl
       refine pure_ (i := 8) (N := some 80) (v := ?_) (a' := ?_) #[true, true, false, true, true, true, true, false, true, false, false, false, false, false, false, false, false, false, false, false, false, false, false, false, false, false, false, false, false, false, false, false, false, false, false, false] rfl rfl (any_of HT_.out (by kernel_rfl)) (fun _ _ _ h => h) (Or.inl ⟨by rfl, ?_⟩) ?_ ?_
       rotate_left
       ·intro w'
        go_simp
        with_reducible rfl
       rotate_left
       ·simp only [Act.put, sA_q, sZ_q, sS_q, i64_w, i32_w]
        rfl
       refine take_ (i := 7) (N := some 79) (v := ?_) (a' := ?_) #[true, true, false, true, true, true, true, true, true, false, false, false, false, false, false, false, false, false, false, false, false, false, false, false, false, false, false, false, false, false, false, false, false, false, false, false] rfl rfl (take_ofW HT_.out HW_.out (by kernel_rfl)) (fun _ _ _ h => h) (Or.inl ⟨by rfl, ?_⟩) hHeld ?_ ?_
       rotate_left
       ·rintro w' ⟨s0, s1, s2, s3, s4, s5, s6⟩
        go_simp
        with_reducible rfl
       rotate_left
       ·simp only [Act.put, sA_q, sZ_q, sS_q, i64_w, i32_w]
        rfl
       refine take_ (i := 9) (N := some 81) (v := ?_) (a' := ?_) #[true, true, false, true, true, true, true, true, true, true, false, false, false, false, false, false, false, false, false, false, false, false, false, false, false, false, false, false, false, false, false, false, false, false, false, false] rfl rfl (take_ofW HT_.out HW_.out (by kernel_rfl)) (fun _ _ _ h => h) (Or.inl ⟨by rfl, ?_⟩) hHeld ?_ ?_
       rotate_left
       ·rintro w' ⟨s0, s1, s2, s3, s4, s5, s6⟩
        go_simp
        with_reducible rfl
       rotate_left
       ·simp only [Act.put, sA_q, sZ_q, sS_q, i64_w, i32_w]
        rfl
       refine pure_ (i := 10) (N := some 82) (v := ?_) (a' := ?_) #[true, true, false, true, true, true, true, true, true, true, true, false, false, false, false, false, false, false, false, false, false, false, false, false, false, false, false, false, false, false, false, false, false, false, false, false] rfl rfl (any_of HT_.out (by kernel_rfl)) (fun _ _ _ h => h) (Or.inl ⟨by rfl, ?_⟩) ?_ ?_
       rotate_left
       ·intro w'
        go_simp
        with_reducible rfl
       rotate_left
       ·simp only [Act.put, sA_q, sZ_q, sS_q, i64_w, i32_w]
        rfl
       refine one_ (i := 2) (N := some 74) #[true, true, true, true, true, true, true, true, true, true, true, false, false, false, false, false, false, false, false, false, false, false, false, false, false, false, false, false, false, false, false, false, false, false, false, false] rfl rfl (one_of HT_.out (by kernel_rfl)) (by decide) (fun K hK => ?_)
       refine goes_ Try.func31 (by kernel_rfl) rfl #[.slice Ao70 t482.length co70, .int .i64 x8_2] (by rfl) rfl rfl (by (try simp only [lM_q, lC_q, lN_q]); first | done | rfl | (simp only [lD_q, lT_q]; rfl)) ?_
       with_reducible refine (laws_hasInt.calls k2 _ _ t482 x8_2 t491 _ ?side1 ?side2 A53.out).mono ?_
       (case side1 => exact cup (rR_q HO_6.out).2.2)
       (case side2 => exact (rR_q HO_6.out).2.1)
       rintro e w' ⟨rfl, ⟨nd, rfl⟩⟩
       refine ⟨_, rfl, ?_⟩
       refine hK.out _ _ ⟨(bC_q BK481.out 0).trans rfl, (bC_q BK481.out 1).trans rfl, (bC_q BK481.out 2).trans rfl, hHeld.2.2.2.1, hHeld.2.2.2.2.1, hHeld.2.2.2.2.2.1, hHeld.2.2.2.2.2.2⟩ (fun hHeld => ?_)
       clear hK K
       refine norm_ (a' := ?_) ?_ ?_
       rotate_left
       ·show Act.put _ (some 74) _ = _
        simp only [Act.put, sA_q, sZ_q, sS_q, i64_w, i32_w]
        rfl
       refine pure_ (i := 11) (N := some 83) (v := ?_) (a' := ?_) #[true, true, true, true, true, true, true, true, true, true, true, true, false, false, false, false, false, false, false, false, false, false, false, false, false, false, false, false, false, false, false, false, false, false, false, false] rfl rfl (any_of HT_.out (by kernel_rfl)) (fun _ _ _ h => h) (Or.inl ⟨by rfl, ?_⟩) ?_ ?_
       rotate_left
       ·intro w'
        go_simp
        with_reducible rfl
       rotate_left
       ·simp only [Act.put, sA_q, sZ_q, sS_q, i64_w, i32_w]
        rfl
       refine pure_ (i := 12) (N := some 84) (v := undef) (a' := ?_) #[true, true, true, true, true, true, true, true, true, true, true, true, true, false, false, false, false, false, false, false, false, false, false, false, false, false, false, false, false, false, false, false, false, false, false, false] rfl rfl (any_of HT_.out (by kernel_rfl)) (fun _ _ _ h => h) (Or.inr ⟨by rfl, rfl⟩) ?_ ?_
       rotate_left
       ·simp only [Act.put, sA_q, sZ_q, sS_q, i64_w, i32_w]
        rfl
       refine pure_ (i := 13) (N := some 85) (v := undef) (a' := ?_) #[true, true, true, true, true, true, true, true, true, true, true, true, true, true, false, false, false, false, false, false, false, false, false, false, false, false, false, false, false, false, false, false, false, false, false, false] rfl rfl (any_of HT_.out (by kernel_rfl)) (fun _ _ _ h => h) (Or.inr ⟨by rfl, rfl⟩) ?_ ?_
       rotate_left
       ·simp only [Act.put, sA_q, sZ_q, sS_q, i64_w, i32_w]
        rfl
       refine pure_ (i := 14) (N := some 86) (v := undef) (a' := ?_) #[true, true, true, true, true, true, true, true, true, true, true, true, true, true, true, false, false, false, false, false, false, false, false, false, false, false, false, false, false, false, false, false, false, false, false, false] rfl rfl (any_of HT_.out (by kernel_rfl)) (fun _ _ _ h => h) (Or.inr ⟨by rfl, rfl⟩) ?_ ?_
       rotate_left
       ·simp only [Act.put, sA_q, sZ_q, sS_q, i64_w, i32_w]
        rfl
       refine pure_ (i := 15) (N := some 87) (v := undef) (a' := ?_) #[true, true, true, true, true, true, true, true, true, true, true, true, true, true, true, true, false, false, false, false, false, false, false, false, false, false, false, false, false, false, false, false, false, false, false, false] rfl rfl (any_of HT_.out (by kernel_rfl)) (fun _ _ _ h => h) (Or.inr ⟨by rfl, rfl⟩) ?_ ?_
       rotate_left
       ·simp only [Act.put, sA_q, sZ_q, sS_q, i64_w, i32_w]
        rfl
       refine pure_ (i := 16) (N := some 88) (v := undef) (a' := ?_) #[true, true, true, true, true, true, true, true, true, true, true, true, true, true, true, true, true, false, false, false, false, false, false, false, false, false, false, false, false, false, false, false, false, false, false, false] rfl rfl (any_of HT_.out (by kernel_rfl)) (fun _ _ _ h => h) (Or.inr ⟨by rfl, rfl⟩) ?_ ?_
       rotate_left
       ·simp only [Act.put, sA_q, sZ_q, sS_q, i64_w, i32_w]
        rfl
       refine pure_ (i := 17) (N := some 89) (v := undef) (a' := ?_) #[true, true, true, true, true, true, true, true, true, true, true, true, true, true, true, true, true, true, false, false, false, false, false, false, false, false, false, false, false, false, false, false, false, false, false, false] rfl rfl (any_of HT_.out (by kernel_rfl)) (fun _ _ _ h => h) (Or.inr ⟨by rfl, rfl⟩) ?_ ?_
       rotate_left
       ·simp only [Act.put, sA_q, sZ_q, sS_q, i64_w, i32_w]
        rfl
       refine pure_ (i := 18) (N := some 90) (v := undef) (a' := ?_) #[true, true, true, true, true, true, true, true, true, true, true, true, true, true, true, true, true, true, true, false, false, false, false, false, false, false, false, false, false, false, false, false, false, false, false, false] rfl rfl (any_of HT_.out (by kernel_rfl)) (fun _ _ _ h => h) (Or.inr ⟨by rfl, rfl⟩) ?_ ?_
       rotate_left
       ·simp only [Act.put, sA_q, sZ_q, sS_q, i64_w, i32_w]
        rfl
       refine pure_ (i := 19) (N := some 91) (v := ?_) (a' := ?_) #[true, true, true, true, true, true, true, true, true, true, true, true, true, true, true, true, true, true, true, true, false, false, false, false, false, false, false, false, false, false, false, false, false, false, false, false] rfl rfl (any_of HT_.out (by kernel_rfl)) (fun _ _ _ h => h) (Or.inl ⟨by rfl, ?_⟩) ?_ ?_
       rotate_left
       ·intro w'
        go_simp
        with_reducible rfl
       rotate_left
       ·simp only [Act.put, sA_q, sZ_q, sS_q, i64_w, i32_w]
        rfl
       refine pure_ (i := 20) (N := some 92) (v := ?_) (a' := ?_) #[true, true, true, true, true, true, true, true, true, true, true, true, true, true, true, true, true, true, true, true, true, false, false, false, false, false, false, false, false, false, false, false, false, false, false, false] rfl rfl (any_of HT_.out (by kernel_rfl)) (fun _ _ _ h => h) (Or.inl ⟨by rfl, ?_⟩) ?_ ?_
       rotate_left
       ·intro w'
        go_simp
        with_reducible rfl
       rotate_left
       ·simp only [Act.put, sA_q, sZ_q, sS_q, i64_w, i32_w]
        rfl
       refine pure_ (i := 21) (N := some 93) (v := undef) (a' := ?_) #[true, true, true, true, true, true, true, true, true, true, true, true, true, true, true, true, true, true, true, true, true, true, false, false, false, false, false, false, false, false, false, false, false, false, false, false] rfl rfl (any_of HT_.out (by kernel_rfl)) (fun _ _ _ h => h) (Or.inr ⟨by rfl, rfl⟩) ?_ ?_
       rotate_left
       ·simp only [Act.put, sA_q, sZ_q, sS_q, i64_w, i32_w]
        rfl
       refine pure_ (i := 22) (N := some 94) (v := undef) (a' := ?_) #[true, true, true, true, true, true, true, true, true, true, true, true, true, true, true, true, true, true, true, true, true, true, true, false, false, false, false, false, false, false, false, false, false, false, false, false] rfl rfl (any_of HT_.out (by kernel_rfl)) (fun _ _ _ h => h) (Or.inr ⟨by rfl, rfl⟩) ?_ ?_
       rotate_left
       ·simp only [Act.put, sA_q, sZ_q, sS_q, i64_w, i32_w]
        rfl
       refine pure_ (i := 23) (N := some 95) (v := undef) (a' := ?_) #[true, true, true, true, true, true, true, true, true, true, true, true, true, true, true, true, true, true, true, true, true, true, true, true, false, false, false, false, false, false, false, false, false, false, false, false] rfl rfl (any_of HT_.out (by kernel_rfl)) (fun _ _ _ h => h) (Or.inr ⟨by rfl, rfl⟩) ?_ ?_
       rotate_left
       ·simp only [Act.put, sA_q, sZ_q, sS_q, i64_w, i32_w]
        rfl
       refine pure_ (i := 24) (N := some 96) (v := undef) (a' := ?_) #[true, true, true, true, true, true, true, true, true, true, true, true, true, true, true, true, true, true, true, true, true, true, true, true, true, false, false, false, false, false, false, false, false, false, false, false] rfl rfl (any_of HT_.out (by kernel_rfl)) (fun _ _ _ h => h) (Or.inr ⟨by rfl, rfl⟩) ?_ ?_
       rotate_left
       ·simp only [Act.put, sA_q, sZ_q, sS_q, i64_w, i32_w]
        rfl
       refine pure_ (i := 25) (N := some 97) (v := undef) (a' := ?_) #[true, true, true, true, true, true, true, true, true, true, true, true, true, true, true, true, true, true, true, true, true, true, true, true, true, true, false, false, false, false, false, false, false, false, false, false] rfl rfl (any_of HT_.out (by kernel_rfl)) (fun _ _ _ h => h) (Or.inr ⟨by rfl, rfl⟩) ?_ ?_
       rotate_left
       ·simp only [Act.put, sA_q, sZ_q, sS_q, i64_w, i32_w]
        rfl
       refine pure_ (i := 26) (N := some 98) (v := undef) (a' := ?_) #[true, true, true, true, true, true, true, true, true, true, true, true, true, true, true, true, true, true, true, true, true, true, true, true, true, true, true, false, false, false, false, false, false, false, false, false] rfl rfl (any_of HT_.out (by kernel_rfl)) (fun _ _ _ h => h) (Or.inr ⟨by rfl, rfl⟩) ?_ ?_
       rotate_left
       ·simp only [Act.put, sA_q, sZ_q, sS_q, i64_w, i32_w]
        rfl
       refine pure_ (i := 27) (N := some 99) (v := undef) (a' := ?_) #[true, true, true, true, true, true, true, true, true, true, true, true, true, true, true, true, true, true, true, true, true, true, true, true, true, true, true, true, false, false, false, false, false, false, false, false] rfl rfl (any_of HT_.out (by kernel_rfl)) (fun _ _ _ h => h) (Or.inr ⟨by rfl, rfl⟩) ?_ ?_
       rotate_left
       ·simp only [Act.put, sA_q, sZ_q, sS_q, i64_w, i32_w]
        rfl
       refine pure_ (i := 28) (N := some 100) (v := undef) (a' := ?_) #[true, true, true, true, true, true, true, true, true, true, true, true, true, true, true, true, true, true, true, true, true, true, true, true, true, true, true, true, true, false, false, false, false, false, false, false] rfl rfl (any_of HT_.out (by kernel_rfl)) (fun _ _ _ h => h) (Or.inr ⟨by rfl, rfl⟩) ?_ ?_
       rotate_left
       ·simp only [Act.put, sA_q, sZ_q, sS_q, i64_w, i32_w]
        rfl
       refine pure_ (i := 29) (N := some 101) (v := undef) (a' := ?_) #[true, true, true, true, true, true, true, true, true, true, true, true, true, true, true, true, true, true, true, true, true, true, true, true, true, true, true, true, true, true, false, false, false, false, false, false] rfl rfl (any_of HT_.out (by kernel_rfl)) (fun _ _ _ h => h) (Or.inr ⟨by rfl, rfl⟩) ?_ ?_
       rotate_left
       ·simp only [Act.put, sA_q, sZ_q, sS_q, i64_w, i32_w]
        rfl
       refine pure_ (i := 30) (N := some 102) (v := undef) (a' := ?_) #[true, true, true, true, true, true, true, true, true, true, true, true, true, true, true, true, true, true, true, true, true, true, true, true, true, true, true, true, true, true, true, false, false, false, false, false] rfl rfl (any_of HT_.out (by kernel_rfl)) (fun _ _ _ h => h) (Or.inr ⟨by rfl, rfl⟩) ?_ ?_
       rotate_left
       ·simp only [Act.put, sA_q, sZ_q, sS_q, i64_w, i32_w]
        rfl
       refine pure_ (i := 31) (N := some 103) (v := undef) (a' := ?_) #[true, true, true, true, true, true, true, true, true, true, true, true, true, true, true, true, true, true, true, true, true, true, true, true, true, true, true, true, true, true, true, true, false, false, false, false] rfl rfl (any_of HT_.out (by kernel_rfl)) (fun _ _ _ h => h) (Or.inr ⟨by rfl, rfl⟩) ?_ ?_
       rotate_left
       ·simp only [Act.put, sA_q, sZ_q, sS_q, i64_w, i32_w]
        rfl
       refine pure_ (i := 32) (N := some 104) (v := undef) (a' := ?_) #[true, true, true, true, true, true, true, true, true, true, true, true, true, true, true, true, true, true, true, true, true, true, true, true, true, true, true, true, true, true, true, true, true, false, false, false] rfl rfl (any_of HT_.out (by kernel_rfl)) (fun _ _ _ h => h) (Or.inr ⟨by rfl, rfl⟩) ?_ ?_
       rotate_left
       ·simp only [Act.put, sA_q, sZ_q, sS_q, i64_w, i32_w]
        rfl
       refine pure_ (i := 33) (N := some 105) (v := undef) (a' := ?_) #[true, true, true, true, true, true, true, true, true, true, true, true, true, true, true, true, true, true, true, true, true, true, true, true, true, true, true, true, true, true, true, true, true, true, false, false] rfl rfl (any_of HT_.out (by kernel_rfl)) (fun _ _ _ h => h) (Or.inr ⟨by rfl, rfl⟩) ?_ ?_
       rotate_left
       ·simp only [Act.put, sA_q, sZ_q, sS_q, i64_w, i32_w]
        rfl
       refine pure_ (i := 34) (N := some 106) (v := ?_) (a' := ?_) #[true, true, true, true, true, true, true, true, true, true, true, true, true, true, true, true, true, true, true, true, true, true, true, true, true, true, true, true, true, true, true, true, true, true, true, false] rfl rfl (any_of HT_.out (by kernel_rfl)) (fun _ _ _ h => h) (Or.inl ⟨by rfl, ?_⟩) ?_ ?_
       rotate_left
       ·intro w'
        go_simp
        with_reducible rfl
       rotate_left
       ·simp only [Act.put, sA_q, sZ_q, sS_q, i64_w, i32_w]
        rfl
       refine pure_ (i := 35) (N := some 107) (v := ?_) (a' := ?_) #[true, true, true, true, true, true, true, true, true, true, true, true, true, true, true, true, true, true, true, true, true, true, true, true, true, true, true, true, true, true, true, true, true, true, true, true] rfl rfl (any_of HT_.out (by kernel_rfl)) (fun _ _ _ h => h) (Or.inl ⟨by rfl, ?_⟩) ?_ ?_
       rotate_left
       ·intro w'
        go_simp
        with_reducible rfl
       rotate_left
       ·simp only [Act.put, sA_q, sZ_q, sS_q, i64_w, i32_w]
        rfl
       refine done_ (done_of HT_.out (by kernel_rfl)) ?_
       try go_wp2
       go_ret
       exact ⟨by first | rfl | (simp [eN_q, eS_q] <;> rfl) | (simp [*, eN_q, eS_q] <;> rfl), by repeat (with_reducible first | exact HB.out | apply bA_q | apply pB_q | apply bD_q | refine bS_q ?_ GE481.out)⟩
      rw [if_neg c68] at H
      have c68b0 : (t491 != false) = false := by simpa using c68
      (try (have c68b1 : decide (t491 = false) = true := by simpa using c68))
      (try (have c68b2 : (t491 == false) = true := by simpa using c68))
      clear c68
      have H' := Ae_q H
      clear H
      try go_wp2
      have n0_ := Ae_q (tD_q HO_3.out)
      have n1_ := Ae_q (rD_q HO_4.out)
      have n2_ := Ae_q (rD_q HO_6.out)
      have n3_ := Ae_q (bW_q BK481.out)
      have n4_ := Ae_q (bD_q HB.out)
      clear HO_3
      clear HO_4
      clear HO_6
      clear BK481
      clear HB
      have HO_3 := n0_
      have HO_4 := n1_
      have HO_6 := n2_
      have BK481 := n3_
      have HB := n4_
      clear n0_ n1_ n2_ n3_ n4_
      have p492 : 0 ≤ (x8_2 : Int) := oD_q (by assumption)
      have q492 : x8_2 < (t472.length : Int) := oD_q (by assumption)
      obtain ⟨ad492, A492_3, c492_3, e492, hx492_0, hx492_1, hx492_2, hx492_3, hl492_3, hi492_3⟩ := at_T31 (Kd.S_reads' HO_3.out).2.2 x8_2 p492 q492
      cases e492
      obtain ⟨ce492, hce492, hMe492, hcc492⟩ := Kd.S_get HO_3.out z31 x8_2 p492 (by first | exact q492 | exact oD_q (by assumption) | (have e_ := (Kd.S_reads' HO_3.out).1; omega))
      obtain ⟨ve492_3, rfl, ge492_3⟩ := k31_openM hMe492
      have hv492_3 := hcc492 3 _ rfl
      rw [add_field _ _ 3 (by omega)] at hv492_3
      replace hv492_3 := oI_q (hv492_3.symm.trans hx492_3)
      rw [hv492_3] at ge492_3
      have HL492_3 := Ae_q (show Kd.R kI_q 3 _ _ _ _ ((rd_T31 t472 x8_2).f3) from ge492_3)
      clear hv492_3 ge492_3
      clear hcc492 hce492
      have HR492_3 := Ae_q hi492_3
      have HC492_3 := Ae_q hl492_3
      clear hi492_3 hl492_3
      replace p492 := eq_true p492
      replace q492 := eq_true q492
      obtain ⟨Ao72, co72, eo72⟩ := rS_q HO_6.out
      (first | subst eo72 | (injection eo72 with f1_ f2_ f3_; have f4_ := f1_.symm; have f5_ := f3_.symm; clear f1_ f2_ f3_; subst f4_; subst f5_))
      refine start_ (n := 36) (S := fun w' => w'.cell? ⟨gb481, 0, none⟩ = some (.int .i64 t478) ∧ w'.cell? ⟨gb481, 1, none⟩ = some (.int .i64 t479) ∧ w'.cell? ⟨gb481, 2, none⟩ = some (.int .i64 t480) ∧ w'.cell? (ad492.add ((x8_2).toNat * 4)) = some (.int .i64 ((rd_T31 t472 x8_2).f0)) ∧ w'.cell? ⟨(ad492.add ((x8_2).toNat * 4)).block, (ad492.add ((x8_2).toNat * 4)).off + 1, none⟩ = some (.int .i64 ((rd_T31 t472 x8_2).f1)) ∧ w'.cell? ⟨(ad492.add ((x8_2).toNat * 4)).block, (ad492.add ((x8_2).toNat * 4)).off + 2, none⟩ = some (.int .i64 ((rd_T31 t472 x8_2).f2)) ∧ w'.cell? ⟨(ad492.add ((x8_2).toNat * 4)).block, (ad492.add ((x8_2).toNat * 4)).off + 3, none⟩ = some (.slice A492_3 ((rd_T31 t472 x8_2).f3).length c492_3)) (ds := []) #[false, false, false, false, false, false, false, false, false, false, false, false, false, false, false, false, false, false, false, false, false, false, false, false, false, false, false, false, false, false, false, false, false, false, false, false] (by kernel_rfl) rfl rfl ⟨(bC_q BK481.out 0).trans rfl, (bC_q BK481.out 1).trans rfl, (bC_q BK481.out 2).trans rfl, hx492_0, hx492_1, hx492_2, hx492_3⟩ (fun hHeld => ?_); refine with_tabW laws_FnHits.tab11 laws_FnHits.bits11 (fun HT_ HW_ => ?_)
      generalize wr.drew = w71 at HO_3 HO_4 HO_6 BK481 HB HL492_3 HR492_3 hx492_0 hx492_1 hx492_2 hx492_3 hHeld ⊢
      refine pure_ (i := 0) (N := some 72) (v := ?_) (a' := ?_) #[true, false, false, false, false, false, false, false, false, false, false, false, false, false, false, false, false, false, false, false, false, false, false, false, false, false, false, false, false, false, false, false, false, false, false, false] rfl rfl (any_of HT_.out (by kernel_rfl)) (fun _ _ _ h => h) (Or.inl ⟨by rfl, ?_⟩) ?_ ?_
      rotate_left
      ·intro w'
       go_simp
       with_reducible rfl
      rotate_left
      ·simp only [Act.put, sA_q, sZ_q, sS_q, i64_w, i32_w]
       rfl
      refine pure_ (i := 1) (N := some 73) (v := ?_) (a' := ?_) #[true, true, false, false, false, false, false, false, false, false, false, false, false, false, false, false, false, false, false, false, false, false, false, false, false, false, false, false, false, false, false, false, false, false, false, false] rfl rfl (any_of HT_.out (by kernel_rfl)) (fun _ _ _ h => h) (Or.inl ⟨by rfl, ?_⟩) ?_ ?_
      rotate_left
      ·intro w'
       go_simp
       with_reducible rfl
      rotate_left
      ·simp only [Act.put, sA_q, sZ_q, sS_q, i64_w, i32_w]
       rfl
      refine pure_ (i := 3) (N := some 75) (v := ?_) (a' := ?_) #[true, true, false, true, false, false, false, false, false, false, false, false, false, false, false, false, false, false, false, false, false, false, false, false, false, false, false, false, false, false, false, false, false, false, false, false] rfl rfl (any_of HT_.out (by kernel_rfl)) (fun _ _ _ h => h) (Or.inl ⟨by rfl, ?_⟩) ?_ ?_
      rotate_left
      ·intro w'
       go_simp
       with_reducible rfl
      rotate_left
      ·simp only [Act.put, sA_q, sZ_q, sS_q, i64_w, i32_w]
       rfl
      refine pure_ (i := 4) (N := some 76) (v := ?_) (a' := ?_) #[true, true, false, true, true, false, false, false, false, false, false, false, false, false, false, false, false, false, false, false, false, false, false, false, false, false, false, false, false, false, false, false, false, false, false, false] rfl rfl (any_of HT_.out (by kernel_rfl)) (fun _ _ _ h => h) (Or.inl ⟨by rfl, ?_⟩) ?_ ?_
      rotate_left
      ·intro w'
       go_simp
       with_reducible rfl
      rotate_left
      ·simp only [Act.put, sA_q, sZ_q, sS_q, i64_w, i32_w]
       rfl
      refine pure_ (i := 5) (N := some 77) (v := ?_) (a' := ?_) #[true, true, false, true, true, true, false, false, false, false, false, false, false, false, false, false, false, false, false, false, false, false, false, false, false, false, false, false, false, false, false, false, false, false, false, false] rfl rfl (any_of HT_.out (by kernel_rfl)) (fun _ _ _ h => h) (Or.inl ⟨by rfl, ?_⟩) ?_ ?_
      rotate_left
      ·intro w'
       go_simp
       with_reducible rfl
      rotate_left
      ·simp only [Act.put, sA_q, sZ_q, sS_q, i64_w, i32_w]
       rfl
      refine pure_ (i := 6) (N := some 78) (v := ?_) (a' := ?_) #[true, true, false, true, true, true, true, false, false, false, false, false, false, false, false, false, false, false, false, false, false, false, false, false, false, false, false, false, false, false, false, false, false, false, false, false] rfl rfl (any_of HT_.out (by kernel_rfl)) (fun _ _ _ h => h) (Or.inl ⟨by rfl, ?_⟩) ?_ ?_
      rotate_left
      ·intro w'
       go_simp
       with_reducible rfl
      rotate_left
      ·simp only [Act.put, sA_q, sZ_q, sS_q, i64_w, i32_w]
       rfl
      refine pure_ (i := 8) (N := some 80) (v := ?_) (a' := ?_) #[true, true, false, true, true, true, true, false, true, false, false, false, false, false, false, false, false, false, false, false, false, false, false, false, false, false, false, false, false, false, false, false, false, false, false, false] rfl rfl (any_of HT_.out (by kernel_rfl)) (fun _ _ _ h => h) (Or.inl ⟨by rfl, ?_⟩) ?_ ?_
      rotate_left
      ·intro w'
       go_simp
       with_reducible rfl
      rotate_left
      ·simp only [Act.put, sA_q, sZ_q, sS_q, i64_w, i32_w]
       rfl
      refine take_ (i := 7) (N := some 79) (v := ?_) (a' := ?_) #[true, true, false, true, true, true, true, true, true, false, false, false, false, false, false, false, false, false, false, false, false, false, false, false, false, false, false, false, false, false, false, false, false, false, false, false] rfl rfl (take_ofW HT_.out HW_.out (by kernel_rfl)) (fun _ _ _ h => h) (Or.inl ⟨by rfl, ?_⟩) hHeld ?_ ?_
      rotate_left
      ·rintro w' ⟨s0, s1, s2, s3, s4, s5, s6⟩
       go_simp
       with_reducible rfl
      rotate_left
      ·simp only [Act.put, sA_q, sZ_q, sS_q, i64_w, i32_w]
       rfl
      refine take_ (i := 9) (N := some 81) (v := ?_) (a' := ?_) #[true, true, false, true, true, true, true, true, true, true, false, false, false, false, false, false, false, false, false, false, false, false, false, false, false, false, false, false, false, false, false, false, false, false, false, false] rfl rfl (take_ofW HT_.out HW_.out (by kernel_rfl)) (fun _ _ _ h => h) (Or.inl ⟨by rfl, ?_⟩) hHeld ?_ ?_
      rotate_left
      ·rintro w' ⟨s0, s1, s2, s3, s4, s5, s6⟩
       go_simp
       with_reducible rfl
      rotate_left
      ·simp only [Act.put, sA_q, sZ_q, sS_q, i64_w, i32_w]
       rfl
      refine pure_ (i := 10) (N := some 82) (v := ?_) (a' := ?_) #[true, true, false, true, true, true, true, true, true, true, true, false, false, false, false, false, false, false, false, false, false, false, false, false, false, false, false, false, false, false, false, false, false, false, false, false] rfl rfl (any_of HT_.out (by kernel_rfl)) (fun _ _ _ h => h) (Or.inl ⟨by rfl, ?_⟩) ?_ ?_
      rotate_left
      ·intro w'
       go_simp
       with_reducible rfl
      rotate_left
      ·simp only [Act.put, sA_q, sZ_q, sS_q, i64_w, i32_w]
       rfl
      refine one_ (i := 2) (N := some 74) #[true, true, true, true, true, true, true, true, true, true, true, false, false, false, false, false, false, false, false, false, false, false, false, false, false, false, false, false, false, false, false, false, false, false, false, false] rfl rfl (one_of HT_.out (by kernel_rfl)) (by decide) (fun K hK => ?_)
      refine goes_ Try.func31 (by kernel_rfl) rfl #[.slice Ao72 t482.length co72, .int .i64 x8_2] (by rfl) rfl rfl (by (try simp only [lM_q, lC_q, lN_q]); first | done | rfl | (simp only [lD_q, lT_q]; rfl)) ?_
      with_reducible refine (laws_hasInt.calls k2 _ _ t482 x8_2 t491 _ ?side1 ?side2 A53.out).mono ?_
      (case side1 => exact cup (rR_q HO_6.out).2.2)
      (case side2 => exact (rR_q HO_6.out).2.1)
      rintro e w' ⟨rfl, ⟨nd, rfl⟩⟩
      refine ⟨_, rfl, ?_⟩
      refine hK.out _ _ ⟨(bC_q BK481.out 0).trans rfl, (bC_q BK481.out 1).trans rfl, (bC_q BK481.out 2).trans rfl, hHeld.2.2.2.1, hHeld.2.2.2.2.1, hHeld.2.2.2.2.2.1, hHeld.2.2.2.2.2.2⟩ (fun hHeld => ?_)
      clear hK K
      refine norm_ (a' := ?_) ?_ ?_
      rotate_left
      ·show Act.put _ (some 74) _ = _
       simp only [Act.put, sA_q, sZ_q, sS_q, i64_w, i32_w]
       rfl
      refine pure_ (i := 11) (N := some 83) (v := ?_) (a' := ?_) #[true, true, true, true, true, true, true, true, true, true, true, true, false, false, false, false, false, false, false, false, false, false, false, false, false, false, false, false, false, false, false, false, false, false, false, false] rfl rfl (any_of HT_.out (by kernel_rfl)) (fun _ _ _ h => h) (Or.inl ⟨by rfl, ?_⟩) ?_ ?_
      rotate_left
      ·intro w'
       go_simp
       with_reducible rfl
      rotate_left
      ·simp only [Act.put, sA_q, sZ_q, sS_q, i64_w, i32_w]
       rfl
      refine pure_ (i := 12) (N := some 84) (v := undef) (a' := ?_) #[true, true, true, true, true, true, true, true, true, true, true, true, true, false, false, false, false, false, false, false, false, false, false, false, false, false, false, false, false, false, false, false, false, false, false, false] rfl rfl (any_of HT_.out (by kernel_rfl)) (fun _ _ _ h => h) (Or.inr ⟨by rfl, rfl⟩) ?_ ?_
      rotate_left
      ·simp only [Act.put, sA_q, sZ_q, sS_q, i64_w, i32_w]
       rfl
      refine pure_ (i := 13) (N := some 85) (v := undef) (a' := ?_) #[true, true, true, true, true, true, true, true, true, true, true, true, true, true, false, false, false, false, false, false, false, false, false, false, false, false, false, false, false, false, false, false, false, false, false, false] rfl rfl (any_of HT_.out (by kernel_rfl)) (fun _ _ _ h => h) (Or.inr ⟨by rfl, rfl⟩) ?_ ?_
      rotate_left
      ·simp only [Act.put, sA_q, sZ_q, sS_q, i64_w, i32_w]
       rfl
      refine pure_ (i := 14) (N := some 86) (v := undef) (a' := ?_) #[true, true, true, true, true, true, true, true, true, true, true, true, true, true, true, false, false, false, false, false, false, false, false, false, false, false, false, false, false, false, false, false, false, false, false, false] rfl rfl (any_of HT_.out (by kernel_rfl)) (fun _ _ _ h => h) (Or.inr ⟨by rfl, rfl⟩) ?_ ?_
      rotate_left
      ·simp only [Act.put, sA_q, sZ_q, sS_q, i64_w, i32_w]
       rfl
      refine pure_ (i := 15) (N := some 87) (v := undef) (a' := ?_) #[true, true, true, true, true, true, true, true, true, true, true, true, true, true, true, true, false, false, false, false, false, false, false, false, false, false, false, false, false, false, false, false, false, false, false, false] rfl rfl (any_of HT_.out (by kernel_rfl)) (fun _ _ _ h => h) (Or.inr ⟨by rfl, rfl⟩) ?_ ?_
      rotate_left
      ·simp only [Act.put, sA_q, sZ_q, sS_q, i64_w, i32_w]
       rfl
      refine pure_ (i := 16) (N := some 88) (v := undef) (a' := ?_) #[true, true, true, true, true, true, true, true, true, true, true, true, true, true, true, true, true, false, false, false, false, false, false, false, false, false, false, false, false, false, false, false, false, false, false, false] rfl rfl (any_of HT_.out (by kernel_rfl)) (fun _ _ _ h => h) (Or.inr ⟨by rfl, rfl⟩) ?_ ?_
      rotate_left
      ·simp only [Act.put, sA_q, sZ_q, sS_q, i64_w, i32_w]
       rfl
      refine pure_ (i := 17) (N := some 89) (v := undef) (a' := ?_) #[true, true, true, true, true, true, true, true, true, true, true, true, true, true, true, true, true, true, false, false, false, false, false, false, false, false, false, false, false, false, false, false, false, false, false, false] rfl rfl (any_of HT_.out (by kernel_rfl)) (fun _ _ _ h => h) (Or.inr ⟨by rfl, rfl⟩) ?_ ?_
      rotate_left
      ·simp only [Act.put, sA_q, sZ_q, sS_q, i64_w, i32_w]
       rfl
      refine pure_ (i := 18) (N := some 90) (v := undef) (a' := ?_) #[true, true, true, true, true, true, true, true, true, true, true, true, true, true, true, true, true, true, true, false, false, false, false, false, false, false, false, false, false, false, false, false, false, false, false, false] rfl rfl (any_of HT_.out (by kernel_rfl)) (fun _ _ _ h => h) (Or.inr ⟨by rfl, rfl⟩) ?_ ?_
      rotate_left
      ·simp only [Act.put, sA_q, sZ_q, sS_q, i64_w, i32_w]
       rfl
      refine pure_ (i := 19) (N := some 91) (v := ?_) (a' := ?_) #[true, true, true, true, true, true, true, true, true, true, true, true, true, true, true, true, true, true, true, true, false, false, false, false, false, false, false, false, false, false, false, false, false, false, false, false] rfl rfl (any_of HT_.out (by kernel_rfl)) (fun _ _ _ h => h) (Or.inl ⟨by rfl, ?_⟩) ?_ ?_
      rotate_left
      ·intro w'
       go_simp
       with_reducible rfl
      rotate_left
      ·simp only [Act.put, sA_q, sZ_q, sS_q, i64_w, i32_w]
       rfl
      refine pure_ (i := 20) (N := some 92) (v := ?_) (a' := ?_) #[true, true, true, true, true, true, true, true, true, true, true, true, true, true, true, true, true, true, true, true, true, false, false, false, false, false, false, false, false, false, false, false, false, false, false, false] rfl rfl (any_of HT_.out (by kernel_rfl)) (fun _ _ _ h => h) (Or.inl ⟨by rfl, ?_⟩) ?_ ?_
      rotate_left
      ·intro w'
       go_simp
       with_reducible rfl
      rotate_left
      ·simp only [Act.put, sA_q, sZ_q, sS_q, i64_w, i32_w]
       rfl
      refine pure_ (i := 21) (N := some 93) (v := undef) (a' := ?_) #[true, true, true, true, true, true, true, true, true, true, true, true, true, true, true, true, true, true, true, true, true, true, false, false, false, false, false, false, false, false, false, false, false, false, false, false] rfl rfl (any_of HT_.out (by kernel_rfl)) (fun _ _ _ h => h) (Or.inr ⟨by rfl, rfl⟩) ?_ ?_
      rotate_left
      ·simp only [Act.put, sA_q, sZ_q, sS_q, i64_w, i32_w]
       rfl
      refine pure_ (i := 22) (N := some 94) (v := undef) (a' := ?_) #[true, true, true, true, true, true, true, true, true, true, true, true, true, true, true, true, true, true, true, true, true, true, true, false, false, false, false, false, false, false, false, false, false, false, false, false] rfl rfl (any_of HT_.out (by kernel_rfl)) (fun _ _ _ h => h) (Or.inr ⟨by rfl, rfl⟩) ?_ ?_
      rotate_left
      ·simp only [Act.put, sA_q, sZ_q, sS_q, i64_w, i32_w]
       rfl
      refine pure_ (i := 23) (N := some 95) (v := undef) (a' := ?_) #[true, true, true, true, true, true, true, true, true, true, true, true, true, true, true, true, true, true, true, true, true, true, true, true, false, false, false, false, false, false, false, false, false, false, false, false] rfl rfl (any_of HT_.out (by kernel_rfl)) (fun _ _ _ h => h) (Or.inr ⟨by rfl, rfl⟩) ?_ ?_
      rotate_left
      ·simp only [Act.put, sA_q, sZ_q, sS_q, i64_w, i32_w]
       rfl
      refine pure_ (i := 24) (N := some 96) (v := undef) (a' := ?_) #[true, true, true, true, true, true, true, true, true, true, true, true, true, true, true, true, true, true, true, true, true, true, true, true, true, false, false, false, false, false, false, false, false, false, false, false] rfl rfl (any_of HT_.out (by kernel_rfl)) (fun _ _ _ h => h) (Or.inr ⟨by rfl, rfl⟩) ?_ ?_
      rotate_left
      ·simp only [Act.put, sA_q, sZ_q, sS_q, i64_w, i32_w]
       rfl
      refine pure_ (i := 25) (N := some 97) (v := undef) (a' := ?_) #[true, true, true, true, true, true, true, true, true, true, true, true, true, true, true, true, true, true, true, true, true, true, true, true, true, true, false, false, false, false, false, false, false, false, false, false] rfl rfl (any_of HT_.out (by kernel_rfl)) (fun _ _ _ h => h) (Or.inr ⟨by rfl, rfl⟩) ?_ ?_
      rotate_left
      ·simp only [Act.put, sA_q, sZ_q, sS_q, i64_w, i32_w]
       rfl
      refine pure_ (i := 26) (N := some 98) (v := undef) (a' := ?_) #[true, true, true, true, true, true, true, true, true, true, true, true, true, true, true, true, true, true, true, true, true, true, true, true, true, true, true, false, false, false, false, false, false, false, false, false] rfl rfl (any_of HT_.out (by kernel_rfl)) (fun _ _ _ h => h) (Or.inr ⟨by rfl, rfl⟩) ?_ ?_
      rotate_left
      ·simp only [Act.put, sA_q, sZ_q, sS_q, i64_w, i32_w]
       rfl
      refine pure_ (i := 27) (N := some 99) (v := undef) (a' := ?_) #[true, true, true, true, true, true, true, true, true, true, true, true, true, true, true, true, true, true, true, true, true, true, true, true, true, true, true, true, false, false, false, false, false, false, false, false] rfl rfl (any_of HT_.out (by kernel_rfl)) (fun _ _ _ h => h) (Or.inr ⟨by rfl, rfl⟩) ?_ ?_
      rotate_left
      ·simp only [Act.put, sA_q, sZ_q, sS_q, i64_w, i32_w]
       rfl
      refine pure_ (i := 28) (N := some 100) (v := undef) (a' := ?_) #[true, true, true, true, true, true, true, true, true, true, true, true, true, true, true, true, true, true, true, true, true, true, true, true, true, true, true, true, true, false, false, false, false, false, false, false] rfl rfl (any_of HT_.out (by kernel_rfl)) (fun _ _ _ h => h) (Or.inr ⟨by rfl, rfl⟩) ?_ ?_
      rotate_left
      ·simp only [Act.put, sA_q, sZ_q, sS_q, i64_w, i32_w]
       rfl
      refine pure_ (i := 29) (N := some 101) (v := undef) (a' := ?_) #[true, true, true, true, true, true, true, true, true, true, true, true, true, true, true, true, true, true, true, true, true, true, true, true, true, true, true, true, true, true, false, false, false, false, false, false] rfl rfl (any_of HT_.out (by kernel_rfl)) (fun _ _ _ h => h) (Or.inr ⟨by rfl, rfl⟩) ?_ ?_
      rotate_left
      ·simp only [Act.put, sA_q, sZ_q, sS_q, i64_w, i32_w]
       rfl
      refine pure_ (i := 30) (N := some 102) (v := undef) (a' := ?_) #[true, true, true, true, true, true, true, true, true, true, true, true, true, true, true, true, true, true, true, true, true, true, true, true, true, true, true, true, true, true, true, false, false, false, false, false] rfl rfl (any_of HT_.out (by kernel_rfl)) (fun _ _ _ h => h) (Or.inr ⟨by rfl, rfl⟩) ?_ ?_
      rotate_left
      ·simp only [Act.put, sA_q, sZ_q, sS_q, i64_w, i32_w]
       rfl
      refine pure_ (i := 31) (N := some 103) (v := undef) (a' := ?_) #[true, true, true, true, true, true, true, true, true, true, true, true, true, true, true, true, true, true, true, true, true, true, true, true, true, true, true, true, true, true, true, true, false, false, false, false] rfl rfl (any_of HT_.out (by kernel_rfl)) (fun _ _ _ h => h) (Or.inr ⟨by rfl, rfl⟩) ?_ ?_
      rotate_left
      ·simp only [Act.put, sA_q, sZ_q, sS_q, i64_w, i32_w]
       rfl
      refine pure_ (i := 32) (N := some 104) (v := undef) (a' := ?_) #[true, true, true, true, true, true, true, true, true, true, true, true, true, true, true, true, true, true, true, true, true, true, true, true, true, true, true, true, true, true, true, true, true, false, false, false] rfl rfl (any_of HT_.out (by kernel_rfl)) (fun _ _ _ h => h) (Or.inr ⟨by rfl, rfl⟩) ?_ ?_
      rotate_left
      ·simp only [Act.put, sA_q, sZ_q, sS_q, i64_w, i32_w]
       rfl
      refine pure_ (i := 33) (N := some 105) (v := undef) (a' := ?_) #[true, true, true, true, true, true, true, true, true, true, true, true, true, true, true, true, true, true, true, true, true, true, true, true, true, true, true, true, true, true, true, true, true, true, false, false] rfl rfl (any_of HT_.out (by kernel_rfl)) (fun _ _ _ h => h) (Or.inr ⟨by rfl, rfl⟩) ?_ ?_
      rotate_left
      ·simp only [Act.put, sA_q, sZ_q, sS_q, i64_w, i32_w]
       rfl
      refine pure_ (i := 34) (N := some 106) (v := ?_) (a' := ?_) #[true, true, true, true, true, true, true, true, true, true, true, true, true, true, true, true, true, true, true, true, true, true, true, true, true, true, true, true, true, true, true, true, true, true, true, false] rfl rfl (any_of HT_.out (by kernel_rfl)) (fun _ _ _ h => h) (Or.inl ⟨by rfl, ?_⟩) ?_ ?_
      rotate_left
      ·intro w'
       go_simp
       with_reducible rfl
      rotate_left
      ·simp only [Act.put, sA_q, sZ_q, sS_q, i64_w, i32_w]
       rfl
      refine pure_ (i := 35) (N := some 107) (v := ?_) (a' := ?_) #[true, true, true, true, true, true, true, true, true, true, true, true, true, true, true, true, true, true, true, true, true, true, true, true, true, true, true, true, true, true, true, true, true, true, true, true] rfl rfl (any_of HT_.out (by kernel_rfl)) (fun _ _ _ h => h) (Or.inl ⟨by rfl, ?_⟩) ?_ ?_
      rotate_left
      ·intro w'
       go_simp
       with_reducible rfl
      rotate_left
      ·simp only [Act.put, sA_q, sZ_q, sS_q, i64_w, i32_w]
       rfl
      refine done_ (done_of HT_.out (by kernel_rfl)) ?_
      try go_wp2
      go_roundg k2
      case measure => have := HJ5.out; have := HK2.out; omega
      case rel => exact ⟨(wrap64 (x8_2 + 1)), (by first | rfl | (simp; done) | (simp [*]; done)), H', ⟨by have := HJ5.out; have := HK2.out; omega⟩, ⟨by (with_reducible repeat (first | apply tA_q | apply tN_q | apply tD_q)); exact HO_3.out⟩, ⟨by (with_reducible repeat (first | apply rA_q | apply rN_q | apply rD_q)); exact HO_4.out⟩, ⟨by (with_reducible repeat (first | apply rA_q | apply rN_q | apply rD_q)); exact HO_6.out⟩, ⟨by (with_reducible repeat (first | refine bN_q ?_ _ | refine bW_q ?_ | refine bL_q ?_ _)); exact BK481.out⟩, ⟨by repeat (with_reducible first | exact HB.out | apply bA_q | apply pB_q | apply bD_q | refine bS_q ?_ GE481.out)⟩⟩
     rw [if_pos c55] at H
     have c55b0 : (((rd_T31 t472 x8_2).f2) == t478) = true := beq_iff_eq.mpr c55
     have c55b1 : (((rd_T31 t472 x8_2).f2) != t478) = false := nE_q.mpr c55
     clear c55
     by_cases c56 : x8_2 < (t475.length : Int)
     rotate_left
     ·rw [if_neg c56] at H
      exact absurd H (by simp)
     rw [if_pos c56] at H
     have c56b0 : decide (x8_2 < (t475.length : Int)) = true := dT_q c56
     clear c56
     by_cases c57 : (rd t475 x8_2) < t480
     rotate_left
     ·rw [if_neg c57] at H
      have c57b0 : decide ((rd t475 x8_2) < t480) = false := dF_q c57
      clear c57
      by_cases c63 : (t491 != false) = true
      ·rw [if_pos c63] at H
       have c63b0 : (t491 != false) = true := c63
       (try (have c63b1 : decide (t491 = false) = false := by simpa using c63))
       (try (have c63b2 : (t491 == false) = false := by simpa using c63))
       (try (have c63b3 : ¬ (t491 = false) := by simpa using c63))
       clear c63
       obtain rfl := oI_q H
       try go_wp2
       have n0_ := Ae_q (tD_q HO_3.out)
       have n1_ := Ae_q (rD_q HO_4.out)
       have n2_ := Ae_q (rD_q HO_6.out)
       have n3_ := Ae_q (bW_q BK481.out)
       have n4_ := Ae_q (bD_q HB.out)
       clear HO_3
       clear HO_4
       clear HO_6
       clear BK481
       clear HB
       have HO_3 := n0_
       have HO_4 := n1_
       have HO_6 := n2_
       have BK481 := n3_
       have HB := n4_
       clear n0_ n1_ n2_ n3_ n4_
       have p492 : 0 ≤ (x8_2 : Int) := oD_q (by assumption)
       have q492 : x8_2 < (t472.length : Int) := oD_q (by assumption)
       obtain ⟨ad492, A492_3, c492_3, e492, hx492_0, hx492_1, hx492_2, hx492_3, hl492_3, hi492_3⟩ := at_T31 (Kd.S_reads' HO_3.out).2.2 x8_2 p492 q492
       cases e492
       obtain ⟨ce492, hce492, hMe492, hcc492⟩ := Kd.S_get HO_3.out z31 x8_2 p492 (by first | exact q492 | exact oD_q (by assumption) | (have e_ := (Kd.S_reads' HO_3.out).1; omega))
       obtain ⟨ve492_3, rfl, ge492_3⟩ := k31_openM hMe492
       have hv492_3 := hcc492 3 _ rfl
       rw [add_field _ _ 3 (by omega)] at hv492_3
       replace hv492_3 := oI_q (hv492_3.symm.trans hx492_3)
       rw [hv492_3] at ge492_3
       have HL492_3 := Ae_q (show Kd.R kI_q 3 _ _ _ _ ((rd_T31 t472 x8_2).f3) from ge492_3)
       clear hv492_3 ge492_3
       clear hcc492 hce492
       have HR492_3 := Ae_q hi492_3
       have HC492_3 := Ae_q hl492_3
       clear hi492_3 hl492_3
       replace p492 := eq_true p492
       replace q492 := eq_true q492
       obtain ⟨Ao65, co65, eo65⟩ := rS_q HO_6.out
       (first | subst eo65 | (injection eo65 with f1_ f2_ f3_; have f4_ := f1_.symm; have f5_ := f3_.symm; clear f1_ f2_ f3_; subst f4_; subst f5_))
       have p493 : 0 ≤ (x8_2 : Int) := oD_q (by assumption)
       have q493 : x8_2 < (t475.length : Int) := oD_q (by assumption)
       obtain ⟨ad493, e493, hx493_0⟩ := aI_q (rR_q HO_4.out).2.2 x8_2 p493 q493
       cases e493
       replace p493 := eq_true p493
       replace q493 := eq_true q493
       refine start_ (n := 36) (S := fun w' => w'.cell? ⟨gb481, 0, none⟩ = some (.int .i64 t478) ∧ w'.cell? ⟨gb481, 1, none⟩ = some (.int .i64 t479) ∧ w'.cell? ⟨gb481, 2, none⟩ = some (.int .i64 t480) ∧ w'.cell? (ad492.add ((x8_2).toNat * 4)) = some (.int .i64 ((rd_T31 t472 x8_2).f0)) ∧ w'.cell? ⟨(ad492.add ((x8_2).toNat * 4)).block, (ad492.add ((x8_2).toNat * 4)).off + 1, none⟩ = some (.int .i64 ((rd_T31 t472 x8_2).f1)) ∧ w'.cell? ⟨(ad492.add ((x8_2).toNat * 4)).block, (ad492.add ((x8_2).toNat * 4)).off + 2, none⟩ = some (.int .i64 ((rd_T31 t472 x8_2).f2)) ∧ w'.cell? ⟨(ad492.add ((x8_2).toNat * 4)).block, (ad492.add ((x8_2).toNat * 4)).off + 3, none⟩ = some (.slice A492_3 ((rd_T31 t472 x8_2).f3).length c492_3) ∧ w'.cell? (ad493.add (x8_2).toNat) = some (.int .i64 (rd t475 x8_2))) (ds := []) #[false, false, false, false, false, false, false, false, false, false, false, false, false, false, false, false, false, false, false, false, false, false, false, false, false, false, false, false, false, false, false, false, false, false, false, false] (by kernel_rfl) rfl rfl ⟨(bC_q BK481.out 0).trans rfl, (bC_q BK481.out 1).trans rfl, (bC_q BK481.out 2).trans rfl, hx492_0, hx492_1, hx492_2, hx492_3, hx493_0⟩ (fun hHeld => ?_); refine with_tabW laws_FnHits.tab11 laws_FnHits.bits11 (fun HT_ HW_ => ?_)
       generalize wr.drew = w64 at HO_3 HO_4 HO_6 BK481 HB HL492_3 HR492_3 hx492_0 hx492_1 hx492_2 hx492_3 hx493_0 hHeld ⊢
       refine pure_ (i := 0) (N := some 72) (v := ?_) (a' := ?_) #[true, false, false, false, false, false, false, false, false, false, false, false, false, false, false, false, false, false, false, false, false, false, false, false, false, false, false, false, false, false, false, false, false, false, false, false] rfl rfl (any_of HT_.out (by kernel_rfl)) (fun _ _ _ h => h) (Or.inl ⟨by rfl, ?_⟩) ?_ ?_
       rotate_left
       ·intro w'
        go_simp
        with_reducible rfl
       rotate_left
       ·simp only [Act.put, sA_q, sZ_q, sS_q, i64_w, i32_w]
        rfl
       refine pure_ (i := 1) (N := some 73) (v := ?_) (a' := ?_) #[true, true, false, false, false, false, false, false, false, false, false, false, false, false, false, false, false, false, false, false, false, false, false, false, false, false, false, false, false, false, false, false, false, false, false, false] rfl rfl (any_of HT_.out (by kernel_rfl)) (fun _ _ _ h => h) (Or.inl ⟨by rfl, ?_⟩) ?_ ?_
       rotate_left
       ·intro w'
        go_simp
        with_reducible rfl
       rotate_left
       ·simp only [Act.put, sA_q, sZ_q, sS_q, i64_w, i32_w]
        rfl
       refine pure_ (i := 3) (N := some 75) (v := ?_) (a' := ?_) #[true, true, false, true, false, false, false, false, false, false, false, false, false, false, false, false, false, false, false, false, false, false, false, false, false, false, false, false, false, false, false, false, false, false, false, false] rfl rfl (any_of HT_.out (by kernel_rfl)) (fun _ _ _ h => h) (Or.inl ⟨by rfl, ?_⟩) ?_ ?_
       rotate_left
       ·intro w'
        go_simp
        with_reducible rfl
       rotate_left
       ·simp only [Act.put, sA_q, sZ_q, sS_q, i64_w, i32_w]
        rfl
       refine pure_ (i := 4) (N := some 76) (v := ?_) (a' := ?_) #[true, true, false, true, true, false, false, false, false, false, false, false, false, false, false, false, false, false, false, false, false, false, false, false, false, false, false, false, false, false, false, false, false, false, false, false] rfl rfl (any_of HT_.out (by kernel_rfl)) (fun _ _ _ h => h) (Or.inl ⟨by rfl, ?_⟩) ?_ ?_
       rotate_left
       ·intro w'
        go_simp
        with_reducible rfl
       rotate_left
       ·simp only [Act.put, sA_q, sZ_q, sS_q, i64_w, i32_w]
        rfl
       refine pure_ (i := 5) (N := some 77) (v := ?_) (a' := ?_) #[true, true, false, true, true, true, false, false, false, false, false, false, false, false, false, false, false, false, false, false, false, false, false, false, false, false, false, false, false, false, false, false, false, false, false, false] rfl rfl (any_of HT_.out (by kernel_rfl)) (fun _ _ _ h => h) (Or.inl ⟨by rfl, ?_⟩) ?_ ?_
       rotate_left
       ·intro w'
        go_simp
        with_reducible rfl
       rotate_left
       ·simp only [Act.put, sA_q, sZ_q, sS_q, i64_w, i32_w]
        rfl
       refine pure_ (i := 6) (N := some 78) (v := ?_) (a' := ?_) #[true, true, false, true, true, true, true, false, false, false, false, false, false, false, false, false, false, false, false, false, false, false, false, false, false, false, false, false, false, false, false, false, false, false, false, false] rfl rfl (any_of HT_.out (by kernel_rfl)) (fun _ _ _ h => h) (Or.inl ⟨by rfl, ?_⟩) ?_ ?_
       rotate_left
       ·intro w'
        go_simp
        with_reducible rfl
       rotate_left
       ·simp only [Act.put, sA_q, sZ_q, sS_q, i64_w, i32_w]
        rfl
       refine pure_ (i := 8) (N := some 80) (v := ?_) (a' := ?_) #[true, true, false, true, true, true, true, false, true, false, false, false, false, false, false, false, false, false, false, false, false, false, false, false, false, false, false, false, false, false, false, false, false, false, false, false] rfl rfl (any_of HT_.out (by kernel_rfl)) (fun _ _ _ h => h) (Or.inl ⟨by rfl, ?_⟩) ?_ ?_
       rotate_left
       ·intro w'
        go_simp
        with_reducible rfl
       rotate_left
       ·simp only [Act.put, sA_q, sZ_q, sS_q, i64_w, i32_w]
        rfl
       refine take_ (i := 7) (N := some 79) (v := ?_) (a' := ?_) #[true, true, false, true, true, true, true, true, true, false, false, false, false, false, false, false, false, false, false, false, false, false, false, false, false, false, false, false, false, false, false, false, false, false, false, false] rfl rfl (take_ofW HT_.out HW_.out (by kernel_rfl)) (fun _ _ _ h => h) (Or.inl ⟨by rfl, ?_⟩) hHeld ?_ ?_
       rotate_left
       ·rintro w' ⟨s0, s1, s2, s3, s4, s5, s6, s7⟩
        go_simp
        with_reducible rfl
       rotate_left
       ·simp only [Act.put, sA_q, sZ_q, sS_q, i64_w, i32_w]
        rfl
       refine take_ (i := 9) (N := some 81) (v := ?_) (a' := ?_) #[true, true, false, true, true, true, true, true, true, true, false, false, false, false, false, false, false, false, false, false, false, false, false, false, false, false, false, false, false, false, false, false, false, false, false, false] rfl rfl (take_ofW HT_.out HW_.out (by kernel_rfl)) (fun _ _ _ h => h) (Or.inl ⟨by rfl, ?_⟩) hHeld ?_ ?_
       rotate_left
       ·rintro w' ⟨s0, s1, s2, s3, s4, s5, s6, s7⟩
        go_simp
        with_reducible rfl
       rotate_left
       ·simp only [Act.put, sA_q, sZ_q, sS_q, i64_w, i32_w]
        rfl
       refine pure_ (i := 10) (N := some 82) (v := ?_) (a' := ?_) #[true, true, false, true, true, true, true, true, true, true, true, false, false, false, false, false, false, false, false, false, false, false, false, false, false, false, false, false, false, false, false, false, false, false, false, false] rfl rfl (any_of HT_.out (by kernel_rfl)) (fun _ _ _ h => h) (Or.inl ⟨by rfl, ?_⟩) ?_ ?_
       rotate_left
       ·intro w'
        go_simp
        with_reducible rfl
       rotate_left
       ·simp only [Act.put, sA_q, sZ_q, sS_q, i64_w, i32_w]
        rfl
       refine one_ (i := 2) (N := some 74) #[true, true, true, true, true, true, true, true, true, true, true, false, false, false, false, false, false, false, false, false, false, false, false, false, false, false, false, false, false, false, false, false, false, false, false, false] rfl rfl (one_of HT_.out (by kernel_rfl)) (by decide) (fun K hK => ?_)
       refine goes_ Try.func31 (by kernel_rfl) rfl #[.slice Ao65 t482.length co65, .int .i64 x8_2] (by rfl) rfl rfl (by (try simp only [lM_q, lC_q, lN_q]); first | done | rfl | (simp only [lD_q, lT_q]; rfl)) ?_
       with_reducible refine (laws_hasInt.calls k2 _ _ t482 x8_2 t491 _ ?side1 ?side2 A53.out).mono ?_
       (case side1 => exact cup (rR_q HO_6.out).2.2)
       (case side2 => exact (rR_q HO_6.out).2.1)
       rintro e w' ⟨rfl, ⟨nd, rfl⟩⟩
       refine ⟨_, rfl, ?_⟩
       refine hK.out _ _ ⟨(bC_q BK481.out 0).trans rfl, (bC_q BK481.out 1).trans rfl, (bC_q BK481.out 2).trans rfl, hHeld.2.2.2.1, hHeld.2.2.2.2.1, hHeld.2.2.2.2.2.1, hHeld.2.2.2.2.2.2.1, hHeld.2.2.2.2.2.2.2⟩ (fun hHeld => ?_)
       clear hK K
       refine norm_ (a' := ?_) ?_ ?_
       rotate_left
       ·show Act.put _ (some 74) _ = _
        simp only [Act.put, sA_q, sZ_q, sS_q, i64_w, i32_w]
        rfl
       refine pure_ (i := 11) (N := some 83) (v := ?_) (a' := ?_) #[true, true, true, true, true, true, true, true, true, true, true, true, false, false, false, false, false, false, false, false, false, false, false, false, false, false, false, false, false, false, false, false, false, false, false, false] rfl rfl (any_of HT_.out (by kernel_rfl)) (fun _ _ _ h => h) (Or.inl ⟨by rfl, ?_⟩) ?_ ?_
       rotate_left
       ·intro w'
        go_simp
        with_reducible rfl
       rotate_left
       ·simp only [Act.put, sA_q, sZ_q, sS_q, i64_w, i32_w]
        rfl
       refine pure_ (i := 12) (N := some 84) (v := ?_) (a' := ?_) #[true, true, true, true, true, true, true, true, true, true, true, true, true, false, false, false, false, false, false, false, false, false, false, false, false, false, false, false, false, false, false, false, false, false, false, false] rfl rfl (any_of HT_.out (by kernel_rfl)) (fun _ _ _ h => h) (Or.inl ⟨by rfl, ?_⟩) ?_ ?_
       rotate_left
       ·intro w'
        go_simp
        with_reducible rfl
       rotate_left
       ·simp only [Act.put, sA_q, sZ_q, sS_q, i64_w, i32_w]
        rfl
       refine pure_ (i := 13) (N := some 85) (v := ?_) (a' := ?_) #[true, true, true, true, true, true, true, true, true, true, true, true, true, true, false, false, false, false, false, false, false, false, false, false, false, false, false, false, false, false, false, false, false, false, false, false] rfl rfl (any_of HT_.out (by kernel_rfl)) (fun _ _ _ h => h) (Or.inl ⟨by rfl, ?_⟩) ?_ ?_
       rotate_left
       ·intro w'
        go_simp
        with_reducible rfl
       rotate_left
       ·simp only [Act.put, sA_q, sZ_q, sS_q, i64_w, i32_w]
        rfl
       refine pure_ (i := 14) (N := some 86) (v := ?_) (a' := ?_) #[true, true, true, true, true, true, true, true, true, true, true, true, true, true, true, false, false, false, false, false, false, false, false, false, false, false, false, false, false, false, false, false, false, false, false, false] rfl rfl (any_of HT_.out (by kernel_rfl)) (fun _ _ _ h => h) (Or.inl ⟨by rfl, ?_⟩) ?_ ?_
       rotate_left
       ·intro w'
        go_simp
        with_reducible rfl
       rotate_left
       ·simp only [Act.put, sA_q, sZ_q, sS_q, i64_w, i32_w]
        rfl
       refine pure_ (i := 16) (N := some 88) (v := ?_) (a' := ?_) #[true, true, true, true, true, true, true, true, true, true, true, true, true, true, true, false, true, false, false, false, false, false, false, false, false, false, false, false, false, false, false, false, false, false, false, false] rfl rfl (any_of HT_.out (by kernel_rfl)) (fun _ _ _ h => h) (Or.inl ⟨by rfl, ?_⟩) ?_ ?_
       rotate_left
       ·intro w'
        go_simp
        with_reducible rfl
       rotate_left
       ·simp only [Act.put, sA_q, sZ_q, sS_q, i64_w, i32_w]
        rfl
       refine take_ (i := 15) (N := some 87) (v := ?_) (a' := ?_) #[true, true, true, true, true, true, true, true, true, true, true, true, true, true, true, true, true, false, false, false, false, false, false, false, false, false, false, false, false, false, false, false, false, false, false, false] rfl rfl (take_ofW HT_.out HW_.out (by kernel_rfl)) (fun _ _ _ h => h) (Or.inl ⟨by rfl, ?_⟩) hHeld ?_ ?_
       rotate_left
       ·rintro w' ⟨s0, s1, s2, s3, s4, s5, s6, s7⟩
        go_simp
        with_reducible rfl
       rotate_left
       ·simp only [Act.put, sA_q, sZ_q, sS_q, i64_w, i32_w]
        rfl
       refine take_ (i := 17) (N := some 89) (v := ?_) (a' := ?_) #[true, true, true, true, true, true, true, true, true, true, true, true, true, true, true, true, true, true, false, false, false, false, false, false, false, false, false, false, false, false, false, false, false, false, false, false] rfl rfl (take_ofW HT_.out HW_.out (by kernel_rfl)) (fun _ _ _ h => h) (Or.inl ⟨by rfl, ?_⟩) hHeld ?_ ?_
       rotate_left
       ·rintro w' ⟨s0, s1, s2, s3, s4, s5, s6, s7⟩
        go_simp
        with_reducible rfl
       rotate_left
       ·simp only [Act.put, sA_q, sZ_q, sS_q, i64_w, i32_w]
        rfl
       refine pure_ (i := 18) (N := some 90) (v := ?_) (a' := ?_) #[true, true, true, true, true, true, true, true, true, true, true, true, true, true, true, true, true, true, true, false, false, false, false, false, false, false, false, false, false, false, false, false, false, false, false, false] rfl rfl (any_of HT_.out (by kernel_rfl)) (fun _ _ _ h => h) (Or.inl ⟨by rfl, ?_⟩) ?_ ?_
       rotate_left
       ·intro w'
        go_simp
        with_reducible rfl
       rotate_left
       ·simp only [Act.put, sA_q, sZ_q, sS_q, i64_w, i32_w]
        rfl
       refine pure_ (i := 19) (N := some 91) (v := ?_) (a' := ?_) #[true, true, true, true, true, true, true, true, true, true, true, true, true, true, true, true, true, true, true, true, false, false, false, false, false, false, false, false, false, false, false, false, false, false, false, false] rfl rfl (any_of HT_.out (by kernel_rfl)) (fun _ _ _ h => h) (Or.inl ⟨by rfl, ?_⟩) ?_ ?_
       rotate_left
       ·intro w'
        go_simp
        with_reducible rfl
       rotate_left
       ·simp only [Act.put, sA_q, sZ_q, sS_q, i64_w, i32_w]
        rfl
       refine pure_ (i := 20) (N := some 92) (v := ?_) (a' := ?_) #[true, true, true, true, true, true, true, true, true, true, true, true, true, true, true, true, true, true, true, true, true, false, false, false, false, false, false, false, false, false, false, false, false, false, false, false] rfl rfl (any_of HT_.out (by kernel_rfl)) (fun _ _ _ h => h) (Or.inl ⟨by rfl, ?_⟩) ?_ ?_
       rotate_left
       ·intro w'
        go_simp
        with_reducible rfl
       rotate_left
       ·simp only [Act.put, sA_q, sZ_q, sS_q, i64_w, i32_w]
        rfl
       refine pure_ (i := 21) (N := some 93) (v := undef) (a' := ?_) #[true, true, true, true, true, true, true, true, true, true, true, true, true, true, true, true, true, true, true, true, true, true, false, false, false, false, false, false, false, false, false, false, false, false, false, false] rfl rfl (any_of HT_.out (by kernel_rfl)) (fun _ _ _ h => h) (Or.inr ⟨by rfl, rfl⟩) ?_ ?_
       rotate_left
       ·simp only [Act.put, sA_q, sZ_q, sS_q, i64_w, i32_w]
        rfl
       refine pure_ (i := 22) (N := some 94) (v := undef) (a' := ?_) #[true, true, true, true, true, true, true, true, true, true, true, true, true, true, true, true, true, true, true, true, true, true, true, false, false, false, false, false, false, false, false, false, false, false, false, false] rfl rfl (any_of HT_.out (by kernel_rfl)) (fun _ _ _ h => h) (Or.inr ⟨by rfl, rfl⟩) ?_ ?_
       rotate_left
       ·simp only [Act.put, sA_q, sZ_q, sS_q, i64_w, i32_w]
        rfl
       refine pure_ (i := 23) (N := some 95) (v := undef) (a' := ?_) #[true, true, true, true, true, true, true, true, true, true, true, true, true, true, true, true, true, true, true, true, true, true, true, true, false, false, false, false, false, false, false, false, false, false, false, false] rfl rfl (any_of HT_.out (by kernel_rfl)) (fun _ _ _ h => h) (Or.inr ⟨by rfl, rfl⟩) ?_ ?_
       rotate_left
       ·simp only [Act.put, sA_q, sZ_q, sS_q, i64_w, i32_w]
        rfl
       refine pure_ (i := 24) (N := some 96) (v := undef) (a' := ?_) #[true, true, true, true, true, true, true, true, true, true, true, true, true, true, true, true, true, true, true, true, true, true, true, true, true, false, false, false, false, false, false, false, false, false, false, false] rfl rfl (any_of HT_.out (by kernel_rfl)) (fun _ _ _ h => h) (Or.inr ⟨by rfl, rfl⟩) ?_ ?_
       rotate_left
       ·simp only [Act.put, sA_q, sZ_q, sS_q, i64_w, i32_w]
        rfl
       refine pure_ (i := 25) (N := some 97) (v := undef) (a' := ?_) #[true, true, true, true, true, true, true, true, true, true, true, true, true, true, true, true, true, true, true, true, true, true, true, true, true, true, false, false, false, false, false, false, false, false, false, false] rfl rfl (any_of HT_.out (by kernel_rfl)) (fun _ _ _ h => h) (Or.inr ⟨by rfl, rfl⟩) ?_ ?_
       rotate_left
       ·simp only [Act.put, sA_q, sZ_q, sS_q, i64_w, i32_w]
        rfl
       refine pure_ (i := 26) (N := some 98) (v := undef) (a' := ?_) #[true, true, true, true, true, true, true, true, true, true, true, true, true, true, true, true, true, true, true, true, true, true, true, true, true, true, true, false, false, false, false, false, false, false, false, false] rfl rfl (any_of HT_.out (by kernel_rfl)) (fun _ _ _ h => h) (Or.inr ⟨by rfl, rfl⟩) ?_ ?_
       rotate_left
       ·simp only [Act.put, sA_q, sZ_q, sS_q, i64_w, i32_w]
        rfl
       refine pure_ (i := 27) (N := some 99) (v := undef) (a' := ?_) #[true, true, true, true, true, true, true, true, true, true, true, true, true, true, true, true, true, true, true, true, true, true, true, true, true, true, true, true, false, false, false, false, false, false, false, false] rfl rfl (any_of HT_.out (by kernel_rfl)) (fun _ _ _ h => h) (Or.inr ⟨by rfl, rfl⟩) ?_ ?_
       rotate_left
       ·simp only [Act.put, sA_q, sZ_q, sS_q, i64_w, i32_w]
        rfl
       refine pure_ (i := 28) (N := some 100) (v := undef) (a' := ?_) #[true, true, true, true, true, true, true, true, true, true, true, true, true, true, true, true, true, true, true, true, true, true, true, true, true, true, true, true, true, false, false, false, false, false, false, false] rfl rfl (any_of HT_.out (by kernel_rfl)) (fun _ _ _ h => h) (Or.inr ⟨by rfl, rfl⟩) ?_ ?_
       rotate_left
       ·simp only [Act.put, sA_q, sZ_q, sS_q, i64_w, i32_w]
        rfl
       refine pure_ (i := 29) (N := some 101) (v := undef) (a' := ?_) #[true, true, true, true, true, true, true, true, true, true, true, true, true, true, true, true, true, true, true, true, true, true, true, true, true, true, true, true, true, true, false, false, false, false, false, false] rfl rfl (any_of HT_.out (by kernel_rfl)) (fun _ _ _ h => h) (Or.inr ⟨by rfl, rfl⟩) ?_ ?_
       rotate_left
       ·simp only [Act.put, sA_q, sZ_q, sS_q, i64_w, i32_w]
        rfl
       refine pure_ (i := 30) (N := some 102) (v := undef) (a' := ?_) #[true, true, true, true, true, true, true, true, true, true, true, true, true, true, true, true, true, true, true, true, true, true, true, true, true, true, true, true, true, true, true, false, false, false, false, false] rfl rfl (any_of HT_.out (by kernel_rfl)) (fun _ _ _ h => h) (Or.inr ⟨by rfl, rfl⟩) ?_ ?_
       rotate_left
       ·simp only [Act.put, sA_q, sZ_q, sS_q, i64_w, i32_w]
        rfl
       refine pure_ (i := 31) (N := some 103) (v := undef) (a' := ?_) #[true, true, true, true, true, true, true, true, true, true, true, true, true, true, true, true, true, true, true, true, true, true, true, true, true, true, true, true, true, true, true, true, false, false, false, false] rfl rfl (any_of HT_.out (by kernel_rfl)) (fun _ _ _ h => h) (Or.inr ⟨by rfl, rfl⟩) ?_ ?_
       rotate_left
       ·simp only [Act.put, sA_q, sZ_q, sS_q, i64_w, i32_w]
        rfl
       refine pure_ (i := 32) (N := some 104) (v := undef) (a' := ?_) #[true, true, true, true, true, true, true, true, true, true, true, true, true, true, true, true, true, true, true, true, true, true, true, true, true, true, true, true, true, true, true, true, true, false, false, false] rfl rfl (any_of HT_.out (by kernel_rfl)) (fun _ _ _ h => h) (Or.inr ⟨by rfl, rfl⟩) ?_ ?_
       rotate_left
       ·simp only [Act.put, sA_q, sZ_q, sS_q, i64_w, i32_w]
        rfl
       refine pure_ (i := 33) (N := some 105) (v := undef) (a' := ?_) #[true, true, true, true, true, true, true, true, true, true, true, true, true, true, true, true, true, true, true, true, true, true, true, true, true, true, true, true, true, true, true, true, true, true, false, false] rfl rfl (any_of HT_.out (by kernel_rfl)) (fun _ _ _ h => h) (Or.inr ⟨by rfl, rfl⟩) ?_ ?_
       rotate_left
       ·simp only [Act.put, sA_q, sZ_q, sS_q, i64_w, i32_w]
        rfl
       refine pure_ (i := 34) (N := some 106) (v := ?_) (a' := ?_) #[true, true, true, true, true, true, true, true, true, true, true, true, true, true, true, true, true, true, true, true, true, true, true, true, true, true, true, true, true, true, true, true, true, true, true, false] rfl rfl (any_of HT_.out (by kernel_rfl)) (fun _ _ _ h => h) (Or.inl ⟨by rfl, ?_⟩) ?_ ?_
       rotate_left
       ·intro w'
        go_simp
        with_reducible rfl
       rotate_left
       ·simp only [Act.put, sA_q, sZ_q, sS_q, i64_w, i32_w]
        rfl
       refine pure_ (i := 35) (N := some 107) (v := ?_) (a' := ?_) #[true, true, true, true, true, true, true, true, true, true, true, true, true, true, true, true, true, true, true, true, true, true, true, true, true, true, true, true, true, true, true, true, true, true, true, true] rfl rfl (any_of HT_.out (by kernel_rfl)) (fun _ _ _ h => h) (Or.inl ⟨by rfl, ?_⟩) ?_ ?_
       rotate_left
       ·intro w'
        go_simp
        with_reducible rfl
       rotate_left
       ·simp only [Act.put, sA_q, sZ_q, sS_q, i64_w, i32_w]
        rfl
       refine done_ (done_of HT_.out (by kernel_rfl)) ?_
       try go_wp2
       go_ret
       exact ⟨by first | rfl | (simp [eN_q, eS_q] <;> rfl) | (simp [*, eN_q, eS_q] <;> rfl), by repeat (with_reducible first | exact HB.out | apply bA_q | apply pB_q | apply bD_q | refine bS_q ?_ GE481.out)⟩
      rw [if_neg c63] at H
      have c63b0 : (t491 != false) = false := by simpa using c63
      (try (have c63b1 : decide (t491 = false) = true := by simpa using c63))
      (try (have c63b2 : (t491 == false) = true := by simpa using c63))
      clear c63
      have H' := Ae_q H
      clear H
      try go_wp2
      have n0_ := Ae_q (tD_q HO_3.out)
      have n1_ := Ae_q (rD_q HO_4.out)
      have n2_ := Ae_q (rD_q HO_6.out)
      have n3_ := Ae_q (bW_q BK481.out)
      have n4_ := Ae_q (bD_q HB.out)
      clear HO_3
      clear HO_4
      clear HO_6
      clear BK481
      clear HB
      have HO_3 := n0_
      have HO_4 := n1_
      have HO_6 := n2_
      have BK481 := n3_
      have HB := n4_
      clear n0_ n1_ n2_ n3_ n4_
      have p492 : 0 ≤ (x8_2 : Int) := oD_q (by assumption)
      have q492 : x8_2 < (t472.length : Int) := oD_q (by assumption)
      obtain ⟨ad492, A492_3, c492_3, e492, hx492_0, hx492_1, hx492_2, hx492_3, hl492_3, hi492_3⟩ := at_T31 (Kd.S_reads' HO_3.out).2.2 x8_2 p492 q492
      cases e492
      obtain ⟨ce492, hce492, hMe492, hcc492⟩ := Kd.S_get HO_3.out z31 x8_2 p492 (by first | exact q492 | exact oD_q (by assumption) | (have e_ := (Kd.S_reads' HO_3.out).1; omega))
      obtain ⟨ve492_3, rfl, ge492_3⟩ := k31_openM hMe492
      have hv492_3 := hcc492 3 _ rfl
      rw [add_field _ _ 3 (by omega)] at hv492_3
      replace hv492_3 := oI_q (hv492_3.symm.trans hx492_3)
      rw [hv492_3] at ge492_3
      have HL492_3 := Ae_q (show Kd.R kI_q 3 _ _ _ _ ((rd_T31 t472 x8_2).f3) from ge492_3)
      clear hv492_3 ge492_3
      clear hcc492 hce492
      have HR492_3 := Ae_q hi492_3
      have HC492_3 := Ae_q hl492_3
      clear hi492_3 hl492_3
      replace p492 := eq_true p492
      replace q492 := eq_true q492
      obtain ⟨Ao67, co67, eo67⟩ := rS_q HO_6.out
      (first | subst eo67 | (injection eo67 with f1_ f2_ f3_; have f4_ := f1_.symm; have f5_ := f3_.symm; clear f1_ f2_ f3_; subst f4_; subst f5_))
      have p493 : 0 ≤ (x8_2 : Int) := oD_q (by assumption)
      have q493 : x8_2 < (t475.length : Int) := oD_q (by assumption)
      obtain ⟨ad493, e493, hx493_0⟩ := aI_q (rR_q HO_4.out).2.2 x8_2 p493 q493
      cases e493
      replace p493 := eq_true p493
      replace q493 := eq_true q493
      refine start_ (n := 36) (S := fun w' => w'.cell? ⟨gb481, 0, none⟩ = some (.int .i64 t478) ∧ w'.cell? ⟨gb481, 1, none⟩ = some (.int .i64 t479) ∧ w'.cell? ⟨gb481, 2, none⟩ = some (.int .i64 t480) ∧ w'.cell? (ad492.add ((x8_2).toNat * 4)) = some (.int .i64 ((rd_T31 t472 x8_2).f0)) ∧ w'.cell? ⟨(ad492.add ((x8_2).toNat * 4)).block, (ad492.add ((x8_2).toNat * 4)).off + 1, none⟩ = some (.int .i64 ((rd_T31 t472 x8_2).f1)) ∧ w'.cell? ⟨(ad492.add ((x8_2).toNat * 4)).block, (ad492.add ((x8_2).toNat * 4)).off + 2, none⟩ = some (.int .i64 ((rd_T31 t472 x8_2).f2)) ∧ w'.cell? ⟨(ad492.add ((x8_2).toNat * 4)).block, (ad492.add ((x8_2).toNat * 4)).off + 3, none⟩ = some (.slice A492_3 ((rd_T31 t472 x8_2).f3).length c492_3) ∧ w'.cell? (ad493.add (x8_2).toNat) = some (.int .i64 (rd t475 x8_2))) (ds := []) #[false, false, false, false, false, false, false, false, false, false, false, false, false, false, false, false, false, false, false, false, false, false, false, false, false, false, false, false, false, false, false, false, false, false, false, false] (by kernel_rfl) rfl rfl ⟨(bC_q BK481.out 0).trans rfl, (bC_q BK481.out 1).trans rfl, (bC_q BK481.out 2).trans rfl, hx492_0, hx492_1, hx492_2, hx492_3, hx493_0⟩ (fun hHeld => ?_); refine with_tabW laws_FnHits.tab11 laws_FnHits.bits11 (fun HT_ HW_ => ?_)
      generalize wr.drew = w66 at HO_3 HO_4 HO_6 BK481 HB HL492_3 HR492_3 hx492_0 hx492_1 hx492_2 hx492_3 hx493_0 hHeld ⊢
      refine pure_ (i := 0) (N := some 72) (v := ?_) (a' := ?_) #[true, false, false, false, false, false, false, false, false, false, false, false, false, false, false, false, false, false, false, false, false, false, false, false, false, false, false, false, false, false, false, false, false, false, false, false] rfl rfl (any_of HT_.out (by kernel_rfl)) (fun _ _ _ h => h) (Or.inl ⟨by rfl, ?_⟩) ?_ ?_
      rotate_left
      ·intro w'
       go_simp
       with_reducible rfl
      rotate_left
      ·simp only [Act.put, sA_q, sZ_q, sS_q, i64_w, i32_w]
       rfl
      refine pure_ (i := 1) (N := some 73) (v := ?_) (a' := ?_) #[true, true, false, false, false, false, false, false, false, false, false, false, false, false, false, false, false, false, false, false, false, false, false, false, false, false, false, false, false, false, false, false, false, false, false, false] rfl rfl (any_of HT_.out (by kernel_rfl)) (fun _ _ _ h => h) (Or.inl ⟨by rfl, ?_⟩) ?_ ?_
      rotate_left
      ·intro w'
       go_simp
       with_reducible rfl
      rotate_left
      ·simp only [Act.put, sA_q, sZ_q, sS_q, i64_w, i32_w]
       rfl
      refine pure_ (i := 3) (N := some 75) (v := ?_) (a' := ?_) #[true, true, false, true, false, false, false, false, false, false, false, false, false, false, false, false, false, false, false, false, false, false, false, false, false, false, false, false, false, false, false, false, false, false, false, false] rfl rfl (any_of HT_.out (by kernel_rfl)) (fun _ _ _ h => h) (Or.inl ⟨by rfl, ?_⟩) ?_ ?_
      rotate_left
      ·intro w'
       go_simp
       with_reducible rfl
      rotate_left
      ·simp only [Act.put, sA_q, sZ_q, sS_q, i64_w, i32_w]
       rfl
      refine pure_ (i := 4) (N := some 76) (v := ?_) (a' := ?_) #[true, true, false, true, true, false, false, false, false, false, false, false, false, false, false, false, false, false, false, false, false, false, false, false, false, false, false, false, false, false, false, false, false, false, false, false] rfl rfl (any_of HT_.out (by kernel_rfl)) (fun _ _ _ h => h) (Or.inl ⟨by rfl, ?_⟩) ?_ ?_
      rotate_left
      ·intro w'
       go_simp
       with_reducible rfl
      rotate_left
      ·simp only [Act.put, sA_q, sZ_q, sS_q, i64_w, i32_w]
       rfl
      refine pure_ (i := 5) (N := some 77) (v := ?_) (a' := ?_) #[true, true, false, true, true, true, false, false, false, false, false, false, false, false, false, false, false, false, false, false, false, false, false, false, false, false, false, false, false, false, false, false, false, false, false, false] rfl rfl (any_of HT_.out (by kernel_rfl)) (fun _ _ _ h => h) (Or.inl ⟨by rfl, ?_⟩) ?_ ?_
      rotate_left
      ·intro w'
       go_simp
       with_reducible rfl
      rotate_left
      ·simp only [Act.put, sA_q, sZ_q, sS_q, i64_w, i32_w]
       rfl
      refine pure_ (i := 6) (N := some 78) (v := ?_) (a' := ?_) #[true, true, false, true, true, true, true, false, false, false, false, false, false, false, false, false, false, false, false, false, false, false, false, false, false, false, false, false, false, false, false, false, false, false, false, false] rfl rfl (any_of HT_.out (by kernel_rfl)) (fun _ _ _ h => h) (Or.inl ⟨by rfl, ?_⟩) ?_ ?_
      rotate_left
      ·intro w'
       go_simp
       with_reducible rfl
      rotate_left
      ·simp only [Act.put, sA_q, sZ_q, sS_q, i64_w, i32_w]
       rfl
      refine pure_ (i := 8) (N := some 80) (v := ?_) (a' := ?_) #[true, true, false, true, true, true, true, false, true, false, false, false, false, false, false, false, false, false, false, false, false, false, false, false, false, false, false, false, false, false, false, false, false, false, false, false] rfl rfl (any_of HT_.out (by kernel_rfl)) (fun _ _ _ h => h) (Or.inl ⟨by rfl, ?_⟩) ?_ ?_
      rotate_left
      ·intro w'
       go_simp
       with_reducible rfl
      rotate_left
      ·simp only [Act.put, sA_q, sZ_q, sS_q, i64_w, i32_w]
       rfl
      refine take_ (i := 7) (N := some 79) (v := ?_) (a' := ?_) #[true, true, false, true, true, true, true, true, true, false, false, false, false, false, false, false, false, false, false, false, false, false, false, false, false, false, false, false, false, false, false, false, false, false, false, false] rfl rfl (take_ofW HT_.out HW_.out (by kernel_rfl)) (fun _ _ _ h => h) (Or.inl ⟨by rfl, ?_⟩) hHeld ?_ ?_
      rotate_left
      ·rintro w' ⟨s0, s1, s2, s3, s4, s5, s6, s7⟩
       go_simp
       with_reducible rfl
      rotate_left
      ·simp only [Act.put, sA_q, sZ_q, sS_q, i64_w, i32_w]
       rfl
      refine take_ (i := 9) (N := some 81) (v := ?_) (a' := ?_) #[true, true, false, true, true, true, true, true, true, true, false, false, false, false, false, false, false, false, false, false, false, false, false, false, false, false, false, false, false, false, false, false, false, false, false, false] rfl rfl (take_ofW HT_.out HW_.out (by kernel_rfl)) (fun _ _ _ h => h) (Or.inl ⟨by rfl, ?_⟩) hHeld ?_ ?_
      rotate_left
      ·rintro w' ⟨s0, s1, s2, s3, s4, s5, s6, s7⟩
       go_simp
       with_reducible rfl
      rotate_left
      ·simp only [Act.put, sA_q, sZ_q, sS_q, i64_w, i32_w]
       rfl
      refine pure_ (i := 10) (N := some 82) (v := ?_) (a' := ?_) #[true, true, false, true, true, true, true, true, true, true, true, false, false, false, false, false, false, false, false, false, false, false, false, false, false, false, false, false, false, false, false, false, false, false, false, false] rfl rfl (any_of HT_.out (by kernel_rfl)) (fun _ _ _ h => h) (Or.inl ⟨by rfl, ?_⟩) ?_ ?_
      rotate_left
      ·intro w'
       go_simp
       with_reducible rfl
      rotate_left
      ·simp only [Act.put, sA_q, sZ_q, sS_q, i64_w, i32_w]
       rfl
      refine one_ (i := 2) (N := some 74) #[true, true, true, true, true, true, true, true, true, true, true, false, false, false, false, false, false, false, false, false, false, false, false, false, false, false, false, false, false, false, false, false, false, false, false, false] rfl rfl (one_of HT_.out (by kernel_rfl)) (by decide) (fun K hK => ?_)
      refine goes_ Try.func31 (by kernel_rfl) rfl #[.slice Ao67 t482.length co67, .int .i64 x8_2] (by rfl) rfl rfl (by (try simp only [lM_q, lC_q, lN_q]); first | done | rfl | (simp only [lD_q, lT_q]; rfl)) ?_
      with_reducible refine (laws_hasInt.calls k2 _ _ t482 x8_2 t491 _ ?side1 ?side2 A53.out).mono ?_
      (case side1 => exact cup (rR_q HO_6.out).2.2)
      (case side2 => exact (rR_q HO_6.out).2.1)
      rintro e w' ⟨rfl, ⟨nd, rfl⟩⟩
      refine ⟨_, rfl, ?_⟩
      refine hK.out _ _ ⟨(bC_q BK481.out 0).trans rfl, (bC_q BK481.out 1).trans rfl, (bC_q BK481.out 2).trans rfl, hHeld.2.2.2.1, hHeld.2.2.2.2.1, hHeld.2.2.2.2.2.1, hHeld.2.2.2.2.2.2.1, hHeld.2.2.2.2.2.2.2⟩ (fun hHeld => ?_)
      clear hK K
      refine norm_ (a' := ?_) ?_ ?_
      rotate_left
      ·show Act.put _ (some 74) _ = _
       simp only [Act.put, sA_q, sZ_q, sS_q, i64_w, i32_w]
       rfl
      refine pure_ (i := 11) (N := some 83) (v := ?_) (a' := ?_) #[true, true, true, true, true, true, true, true, true, true, true, true, false, false, false, false, false, false, false, false, false, false, false, false, false, false, false, false, false, false, false, false, false, false, false, false] rfl rfl (any_of HT_.out (by kernel_rfl)) (fun _ _ _ h => h) (Or.inl ⟨by rfl, ?_⟩) ?_ ?_
      rotate_left
      ·intro w'
       go_simp
       with_reducible rfl
      rotate_left
      ·simp only [Act.put, sA_q, sZ_q, sS_q, i64_w, i32_w]
       rfl
      refine pure_ (i := 12) (N := some 84) (v := ?_) (a' := ?_) #[true, true, true, true, true, true, true, true, true, true, true, true, true, false, false, false, false, false, false, false, false, false, false, false, false, false, false, false, false, false, false, false, false, false, false, false] rfl rfl (any_of HT_.out (by kernel_rfl)) (fun _ _ _ h => h) (Or.inl ⟨by rfl, ?_⟩) ?_ ?_
      rotate_left
      ·intro w'
       go_simp
       with_reducible rfl
      rotate_left
      ·simp only [Act.put, sA_q, sZ_q, sS_q, i64_w, i32_w]
       rfl
      refine pure_ (i := 13) (N := some 85) (v := ?_) (a' := ?_) #[true, true, true, true, true, true, true, true, true, true, true, true, true, true, false, false, false, false, false, false, false, false, false, false, false, false, false, false, false, false, false, false, false, false, false, false] rfl rfl (any_of HT_.out (by kernel_rfl)) (fun _ _ _ h => h) (Or.inl ⟨by rfl, ?_⟩) ?_ ?_
      rotate_left
      ·intro w'
       go_simp
       with_reducible rfl
      rotate_left
      ·simp only [Act.put, sA_q, sZ_q, sS_q, i64_w, i32_w]
       rfl
      refine pure_ (i := 14) (N := some 86) (v := ?_) (a' := ?_) #[true, true, true, true, true, true, true, true, true, true, true, true, true, true, true, false, false, false, false, false, false, false, false, false, false, false, false, false, false, false, false, false, false, false, false, false] rfl rfl (any_of HT_.out (by kernel_rfl)) (fun _ _ _ h => h) (Or.inl ⟨by rfl, ?_⟩) ?_ ?_
      rotate_left
      ·intro w'
       go_simp
       with_reducible rfl
      rotate_left
      ·simp only [Act.put, sA_q, sZ_q, sS_q, i64_w, i32_w]
       rfl
      refine pure_ (i := 16) (N := some 88) (v := ?_) (a' := ?_) #[true, true, true, true, true, true, true, true, true, true, true, true, true, true, true, false, true, false, false, false, false, false, false, false, false, false, false, false, false, false, false, false, false, false, false, false] rfl rfl (any_of HT_.out (by kernel_rfl)) (fun _ _ _ h => h) (Or.inl ⟨by rfl, ?_⟩) ?_ ?_
      rotate_left
      ·intro w'
       go_simp
       with_reducible rfl
      rotate_left
      ·simp only [Act.put, sA_q, sZ_q, sS_q, i64_w, i32_w]
       rfl
      refine take_ (i := 15) (N := some 87) (v := ?_) (a' := ?_) #[true, true, true, true, true, true, true, true, true, true, true, true, true, true, true, true, true, false, false, false, false, false, false, false, false, false, false, false, false, false, false, false, false, false, false, false] rfl rfl (take_ofW HT_.out HW_.out (by kernel_rfl)) (fun _ _ _ h => h) (Or.inl ⟨by rfl, ?_⟩) hHeld ?_ ?_
      rotate_left
      ·rintro w' ⟨s0, s1, s2, s3, s4, s5, s6, s7⟩
       go_simp
       with_reducible rfl
      rotate_left
      ·simp only [Act.put, sA_q, sZ_q, sS_q, i64_w, i32_w]
       rfl
      refine take_ (i := 17) (N := some 89) (v := ?_) (a' := ?_) #[true, true, true, true, true, true, true, true, true, true, true, true, true, true, true, true, true, true, false, false, false, false, false, false, false, false, false, false, false, false, false, false, false, false, false, false] rfl rfl (take_ofW HT_.out HW_.out (by kernel_rfl)) (fun _ _ _ h => h) (Or.inl ⟨by rfl, ?_⟩) hHeld ?_ ?_
      rotate_left
      ·rintro w' ⟨s0, s1, s2, s3, s4, s5, s6, s7⟩
       go_simp
       with_reducible rfl
      rotate_left
      ·simp only [Act.put, sA_q, sZ_q, sS_q, i64_w, i32_w]
       rfl
      refine pure_ (i := 18) (N := some 90) (v := ?_) (a' := ?_) #[true, true, true, true, true, true, true, true, true, true, true, true, true, true, true, true, true, true, true, false, false, false, false, false, false, false, false, false, false, false, false, false, false, false, false, false] rfl rfl (any_of HT_.out (by kernel_rfl)) (fun _ _ _ h => h) (Or.inl ⟨by rfl, ?_⟩) ?_ ?_
      rotate_left
      ·intro w'
       go_simp
       with_reducible rfl
      rotate_left
      ·simp only [Act.put, sA_q, sZ_q, sS_q, i64_w, i32_w]
       rfl
      refine pure_ (i := 19) (N := some 91) (v := ?_) (a' := ?_) #[true, true, true, true, true, true, true, true, true, true, true, true, true, true, true, true, true, true, true, true, false, false, false, false, false, false, false, false, false, false, false, false, false, false, false, false] rfl rfl (any_of HT_.out (by kernel_rfl)) (fun _ _ _ h => h) (Or.inl ⟨by rfl, ?_⟩) ?_ ?_
      rotate_left
      ·intro w'
       go_simp
       with_reducible rfl
      rotate_left
      ·simp only [Act.put, sA_q, sZ_q, sS_q, i64_w, i32_w]
       rfl
      refine pure_ (i := 20) (N := some 92) (v := ?_) (a' := ?_) #[true, true, true, true, true, true, true, true, true, true, true, true, true, true, true, true, true, true, true, true, true, false, false, false, false, false, false, false, false, false, false, false, false, false, false, false] rfl rfl (any_of HT_.out (by kernel_rfl)) (fun _ _ _ h => h) (Or.inl ⟨by rfl, ?_⟩) ?_ ?_
      rotate_left
      ·intro w'
       go_simp
       with_reducible rfl
      rotate_left
      ·simp only [Act.put, sA_q, sZ_q, sS_q, i64_w, i32_w]
       rfl
      refine pure_ (i := 21) (N := some 93) (v := undef) (a' := ?_) #[true, true, true, true, true, true, true, true, true, true, true, true, true, true, true, true, true, true, true, true, true, true, false, false, false, false, false, false, false, false, false, false, false, false, false, false] rfl rfl (any_of HT_.out (by kernel_rfl)) (fun _ _ _ h => h) (Or.inr ⟨by rfl, rfl⟩) ?_ ?_
      rotate_left
      ·simp only [Act.put, sA_q, sZ_q, sS_q, i64_w, i32_w]
       rfl
      refine pure_ (i := 22) (N := some 94) (v := undef) (a' := ?_) #[true, true, true, true, true, true, true, true, true, true, true, true, true, true, true, true, true, true, true, true, true, true, true, false, false, false, false, false, false, false, false, false, false, false, false, false] rfl rfl (any_of HT_.out (by kernel_rfl)) (fun _ _ _ h => h) (Or.inr ⟨by rfl, rfl⟩) ?_ ?_
      rotate_left
      ·simp only [Act.put, sA_q, sZ_q, sS_q, i64_w, i32_w]
       rfl
      refine pure_ (i := 23) (N := some 95) (v := undef) (a' := ?_) #[true, true, true, true, true, true, true, true, true, true, true, true, true, true, true, true, true, true, true, true, true, true, true, true, false, false, false, false, false, false, false, false, false, false, false, false] rfl rfl (any_of HT_.out (by kernel_rfl)) (fun _ _ _ h => h) (Or.inr ⟨by rfl, rfl⟩) ?_ ?_
      rotate_left
      ·simp only [Act.put, sA_q, sZ_q, sS_q, i64_w, i32_w]
       rfl
      refine pure_ (i := 24) (N := some 96) (v := undef) (a' := ?_) #[true, true, true, true, true, true, true, true, true, true, true, true, true, true, true, true, true, true, true, true, true, true, true, true, true, false, false, false, false, false, false, false, false, false, false, false] rfl rfl (any_of HT_.out (by kernel_rfl)) (fun _ _ _ h => h) (Or.inr ⟨by rfl, rfl⟩) ?_ ?_
      rotate_left
      ·simp only [Act.put, sA_q, sZ_q, sS_q, i64_w, i32_w]
       rfl
      refine pure_ (i := 25) (N := some 97) (v := undef) (a' := ?_) #[true, true, true, true, true, true, true, true, true, true, true, true, true, true, true, true, true, true, true, true, true, true, true, true, true, true, false, false, false, false, false, false, false, false, false, false] rfl rfl (any_of HT_.out (by kernel_rfl)) (fun _ _ _ h => h) (Or.inr ⟨by rfl, rfl⟩) ?_ ?_
      rotate_left
      ·simp only [Act.put, sA_q, sZ_q, sS_q, i64_w, i32_w]
       rfl
      refine pure_ (i := 26) (N := some 98) (v := undef) (a' := ?_) #[true, true, true, true, true, true, true, true, true, true, true, true, true, true, true, true, true, true, true, true, true, true, true, true, true, true, true, false, false, false, false, false, false, false, false, false] rfl rfl (any_of HT_.out (by kernel_rfl)) (fun _ _ _ h => h) (Or.inr ⟨by rfl, rfl⟩) ?_ ?_
      rotate_left
      ·simp only [Act.put, sA_q, sZ_q, sS_q, i64_w, i32_w]
       rfl
      refine pure_ (i := 27) (N := some 99) (v := undef) (a' := ?_) #[true, true, true, true, true, true, true, true, true, true, true, true, true, true, true, true, true, true, true, true, true, true, true, true, true, true, true, true, false, false, false, false, false, false, false, false] rfl rfl (any_of HT_.out (by kernel_rfl)) (fun _ _ _ h => h) (Or.inr ⟨by rfl, rfl⟩) ?_ ?_
      rotate_left
      ·simp only [Act.put, sA_q, sZ_q, sS_q, i64_w, i32_w]
       rfl
      refine pure_ (i := 28) (N := some 100) (v := undef) (a' := ?_) #[true, true, true, true, true, true, true, true, true, true, true, true, true, true, true, true, true, true, true, true, true, true, true, true, true, true, true, true, true, false, false, false, false, false, false, false] rfl rfl (any_of HT_.out (by kernel_rfl)) (fun _ _ _ h => h) (Or.inr ⟨by rfl, rfl⟩) ?_ ?_
      rotate_left
      ·simp only [Act.put, sA_q, sZ_q, sS_q, i64_w, i32_w]
       rfl
      refine pure_ (i := 29) (N := some 101) (v := undef) (a' := ?_) #[true, true, true, true, true, true, true, true, true, true, true, true, true, true, true, true, true, true, true, true, true, true, true, true, true, true, true, true, true, true, false, false, false, false, false, false] rfl rfl (any_of HT_.out (by kernel_rfl)) (fun _ _ _ h => h) (Or.inr ⟨by rfl, rfl⟩) ?_ ?_
      rotate_left
      ·simp only [Act.put, sA_q, sZ_q, sS_q, i64_w, i32_w]
       rfl
      refine pure_ (i := 30) (N := some 102) (v := undef) (a' := ?_) #[true, true, true, true, true, true, true, true, true, true, true, true, true, true, true, true, true, true, true, true, true, true, true, true, true, true, true, true, true, true, true, false, false, false, false, false] rfl rfl (any_of HT_.out (by kernel_rfl)) (fun _ _ _ h => h) (Or.inr ⟨by rfl, rfl⟩) ?_ ?_
      rotate_left
      ·simp only [Act.put, sA_q, sZ_q, sS_q, i64_w, i32_w]
       rfl
      refine pure_ (i := 31) (N := some 103) (v := undef) (a' := ?_) #[true, true, true, true, true, true, true, true, true, true, true, true, true, true, true, true, true, true, true, true, true, true, true, true, true, true, true, true, true, true, true, true, false, false, false, false] rfl rfl (any_of HT_.out (by kernel_rfl)) (fun _ _ _ h => h) (Or.inr ⟨by rfl, rfl⟩) ?_ ?_
      rotate_left
      ·simp only [Act.put, sA_q, sZ_q, sS_q, i64_w, i32_w]
       rfl
      refine pure_ (i := 32) (N := some 104) (v := undef) (a' := ?_) #[true, true, true, true, true, true, true, true, true, true, true, true, true, true, true, true, true, true, true, true, true, true, true, true, true, true, true, true, true, true, true, true, true, false, false, false] rfl rfl (any_of HT_.out (by kernel_rfl)) (fun _ _ _ h => h) (Or.inr ⟨by rfl, rfl⟩) ?_ ?_
      rotate_left
      ·simp only [Act.put, sA_q, sZ_q, sS_q, i64_w, i32_w]
       rfl
      refine pure_ (i := 33) (N := some 105) (v := undef) (a' := ?_) #[true, true, true, true, true, true, true, true, true, true, true, true, true, true, true, true, true, true, true, true, true, true, true, true, true, true, true, true, true, true, true, true, true, true, false, false] rfl rfl (any_of HT_.out (by kernel_rfl)) (fun _ _ _ h => h) (Or.inr ⟨by rfl, rfl⟩) ?_ ?_
      rotate_left
      ·simp only [Act.put, sA_q, sZ_q, sS_q, i64_w, i32_w]
       rfl
      refine pure_ (i := 34) (N := some 106) (v := ?_) (a' := ?_) #[true, true, true, true, true, true, true, true, true, true, true, true, true, true, true, true, true, true, true, true, true, true, true, true, true, true, true, true, true, true, true, true, true, true, true, false] rfl rfl (any_of HT_.out (by kernel_rfl)) (fun _ _ _ h => h) (Or.inl ⟨by rfl, ?_⟩) ?_ ?_
      rotate_left
      ·intro w'
       go_simp
       with_reducible rfl
      rotate_left
      ·simp only [Act.put, sA_q, sZ_q, sS_q, i64_w, i32_w]
       rfl
      refine pure_ (i := 35) (N := some 107) (v := ?_) (a' := ?_) #[true, true, true, true, true, true, true, true, true, true, true, true, true, true, true, true, true, true, true, true, true, true, true, true, true, true, true, true, true, true, true, true, true, true, true, true] rfl rfl (any_of HT_.out (by kernel_rfl)) (fun _ _ _ h => h) (Or.inl ⟨by rfl, ?_⟩) ?_ ?_
      rotate_left
      ·intro w'
       go_simp
       with_reducible rfl
      rotate_left
      ·simp only [Act.put, sA_q, sZ_q, sS_q, i64_w, i32_w]
       rfl
      refine done_ (done_of HT_.out (by kernel_rfl)) ?_
      try go_wp2
      go_roundg k2
      case measure => have := HJ5.out; have := HK2.out; omega
      case rel => exact ⟨(wrap64 (x8_2 + 1)), (by first | rfl | (simp; done) | (simp [*]; done)), H', ⟨by have := HJ5.out; have := HK2.out; omega⟩, ⟨by (with_reducible repeat (first | apply tA_q | apply tN_q | apply tD_q)); exact HO_3.out⟩, ⟨by (with_reducible repeat (first | apply rA_q | apply rN_q | apply rD_q)); exact HO_4.out⟩, ⟨by (with_reducible repeat (first | apply rA_q | apply rN_q | apply rD_q)); exact HO_6.out⟩, ⟨by (with_reducible repeat (first | refine bN_q ?_ _ | refine bW_q ?_ | refine bL_q ?_ _)); exact BK481.out⟩, ⟨by repeat (with_reducible first | exact HB.out | apply bA_q | apply pB_q | apply bD_q | refine bS_q ?_ GE481.out)⟩⟩
     rw [if_pos c57] at H
     have c57b0 : decide ((rd t475 x8_2) < t480) = true := dT_q c57
     clear c57
     by_cases c58 : (t491 != (decide ((wrap64 ((rd t475 x8_2) + ((rd_T31 t472 x8_2).f0))) > t479))) = true
     ·rw [if_pos c58] at H
      have c58b0 : (t491 != (decide ((wrap64 ((rd t475 x8_2) + ((rd_T31 t472 x8_2).f0))) > t479))) = true := c58
      (try (have c58b1 : decide (t491 = (decide ((wrap64 ((rd t475 x8_2) + ((rd_T31 t472 x8_2).f0))) > t479))) = false := by simpa using c58))
      (try (have c58b2 : (t491 == (decide ((wrap64 ((rd t475 x8_2) + ((rd_T31 t472 x8_2).f0))) > t479))) = false := by simpa using c58))
      (try (have c58b3 : ¬ (t491 = (decide ((wrap64 ((rd t475 x8_2) + ((rd_T31 t472 x8_2).f0))) > t479))) := by simpa using c58))
      clear c58
      obtain rfl := oI_q H
      try go_wp2
      have n0_ := Ae_q (tD_q HO_3.out)
      have n1_ := Ae_q (rD_q HO_4.out)
      have n2_ := Ae_q (rD_q HO_6.out)
      have n3_ := Ae_q (bW_q BK481.out)
      have n4_ := Ae_q (bD_q HB.out)
      clear HO_3
      clear HO_4
      clear HO_6
      clear BK481
      clear HB
      have HO_3 := n0_
      have HO_4 := n1_
      have HO_6 := n2_
      have BK481 := n3_
      have HB := n4_
      clear n0_ n1_ n2_ n3_ n4_
      have p492 : 0 ≤ (x8_2 : Int) := oD_q (by assumption)
      have q492 : x8_2 < (t472.length : Int) := oD_q (by assumption)
      obtain ⟨ad492, A492_3, c492_3, e492, hx492_0, hx492_1, hx492_2, hx492_3, hl492_3, hi492_3⟩ := at_T31 (Kd.S_reads' HO_3.out).2.2 x8_2 p492 q492
      cases e492
      obtain ⟨ce492, hce492, hMe492, hcc492⟩ := Kd.S_get HO_3.out z31 x8_2 p492 (by first | exact q492 | exact oD_q (by assumption) | (have e_ := (Kd.S_reads' HO_3.out).1; omega))
      obtain ⟨ve492_3, rfl, ge492_3⟩ := k31_openM hMe492
      have hv492_3 := hcc492 3 _ rfl
      rw [add_field _ _ 3 (by omega)] at hv492_3
      replace hv492_3 := oI_q (hv492_3.symm.trans hx492_3)
      rw [hv492_3] at ge492_3
      have HL492_3 := Ae_q (show Kd.R kI_q 3 _ _ _ _ ((rd_T31 t472 x8_2).f3) from ge492_3)
      clear hv492_3 ge492_3
      clear hcc492 hce492
      have HR492_3 := Ae_q hi492_3
      have HC492_3 := Ae_q hl492_3
      clear hi492_3 hl492_3
      replace p492 := eq_true p492
      replace q492 := eq_true q492
      obtain ⟨Ao60, co60, eo60⟩ := rS_q HO_6.out
      (first | subst eo60 | (injection eo60 with f1_ f2_ f3_; have f4_ := f1_.symm; have f5_ := f3_.symm; clear f1_ f2_ f3_; subst f4_; subst f5_))
      have p493 : 0 ≤ (x8_2 : Int) := oD_q (by assumption)
      have q493 : x8_2 < (t475.length : Int) := oD_q (by assumption)
      obtain ⟨ad493, e493, hx493_0⟩ := aI_q (rR_q HO_4.out).2.2 x8_2 p493 q493
      cases e493
      replace p493 := eq_true p493
      replace q493 := eq_true q493
      have p494 : 0 ≤ (x8_2 : Int) := oD_q (by assumption)
      have q494 : x8_2 < (t475.length : Int) := oD_q (by assumption)
      obtain ⟨ad494, e494, hx494_0⟩ := aI_q (rR_q HO_4.out).2.2 x8_2 p494 q494
      obtain rfl : ad493 = ad494 := (by injection e494)
      replace p494 := eq_true p494
      replace q494 := eq_true q494
      have p495 : 0 ≤ (x8_2 : Int) := oD_q (by assumption)
      have q495 : x8_2 < (t472.length : Int) := oD_q (by assumption)
      obtain ⟨ad495, A495_3, c495_3, e495, hx495_0, hx495_1, hx495_2, hx495_3, hl495_3, hi495_3⟩ := at_T31 (Kd.S_reads' HO_3.out).2.2 x8_2 p495 q495
      obtain rfl : ad492 = ad495 := (by injection e495)
      obtain ⟨ce495, hce495, hMe495, hcc495⟩ := Kd.S_get HO_3.out z31 x8_2 p495 (by first | exact q495 | exact oD_q (by assumption) | (have e_ := (Kd.S_reads' HO_3.out).1; omega))
      obtain ⟨ve495_3, rfl, ge495_3⟩ := k31_openM hMe495
      have hv495_3 := hcc495 3 _ rfl
      rw [add_field _ _ 3 (by omega)] at hv495_3
      replace hv495_3 := oI_q (hv495_3.symm.trans hx495_3)
      rw [hv495_3] at ge495_3
      have HL495_3 := Ae_q (show Kd.R kI_q 3 _ _ _ _ ((rd_T31 t472 x8_2).f3) from ge495_3)
      clear hv495_3 ge495_3
      clear hcc495 hce495
      have HR495_3 := Ae_q hi495_3
      have HC495_3 := Ae_q hl495_3
      clear hi495_3 hl495_3
      replace p495 := eq_true p495
      replace q495 := eq_true q495
      have ea_ := oI_q (hx492_3.symm.trans hx495_3)
      injection ea_ with ea_ en_ ec_
      subst ea_
      subst ec_
      clear en_
      refine start_ (n := 36) (S := fun w' => w'.cell? ⟨gb481, 0, none⟩ = some (.int .i64 t478) ∧ w'.cell? ⟨gb481, 1, none⟩ = some (.int .i64 t479) ∧ w'.cell? ⟨gb481, 2, none⟩ = some (.int .i64 t480) ∧ w'.cell? (ad492.add ((x8_2).toNat * 4)) = some (.int .i64 ((rd_T31 t472 x8_2).f0)) ∧ w'.cell? ⟨(ad492.add ((x8_2).toNat * 4)).block, (ad492.add ((x8_2).toNat * 4)).off + 1, none⟩ = some (.int .i64 ((rd_T31 t472 x8_2).f1)) ∧ w'.cell? ⟨(ad492.add ((x8_2).toNat * 4)).block, (ad492.add ((x8_2).toNat * 4)).off + 2, none⟩ = some (.int .i64 ((rd_T31 t472 x8_2).f2)) ∧ w'.cell? ⟨(ad492.add ((x8_2).toNat * 4)).block, (ad492.add ((x8_2).toNat * 4)).off + 3, none⟩ = some (.slice A492_3 ((rd_T31 t472 x8_2).f3).length c492_3) ∧ w'.cell? (ad493.add (x8_2).toNat) = some (.int .i64 (rd t475 x8_2)) ∧ w'.cell? (ad493.add (x8_2).toNat) = some (.int .i64 (rd t475 x8_2)) ∧ w'.cell? (ad492.add ((x8_2).toNat * 4)) = some (.int .i64 ((rd_T31 t472 x8_2).f0)) ∧ w'.cell? ⟨(ad492.add ((x8_2).toNat * 4)).block, (ad492.add ((x8_2).toNat * 4)).off + 1, none⟩ = some (.int .i64 ((rd_T31 t472 x8_2).f1)) ∧ w'.cell? ⟨(ad492.add ((x8_2).toNat * 4)).block, (ad492.add ((x8_2).toNat * 4)).off + 2, none⟩ = some (.int .i64 ((rd_T31 t472 x8_2).f2)) ∧ w'.cell? ⟨(ad492.add ((x8_2).toNat * 4)).block, (ad492.add ((x8_2).toNat * 4)).off + 3, none⟩ = some (.slice A492_3 ((rd_T31 t472 x8_2).f3).length c492_3)) (ds := []) #[false, false, false, false, false, false, false, false, false, false, false, false, false, false, false, false, false, false, false, false, false, false, false, false, false, false, false, false, false, false, false, false, false, false, false, false] (by kernel_rfl) rfl rfl ⟨(bC_q BK481.out 0).trans rfl, (bC_q BK481.out 1).trans rfl, (bC_q BK481.out 2).trans rfl, hx492_0, hx492_1, hx492_2, hx492_3, hx493_0, hx494_0, hx495_0, hx495_1, hx495_2, hx495_3⟩ (fun hHeld => ?_); refine with_tabW laws_FnHits.tab11 laws_FnHits.bits11 (fun HT_ HW_ => ?_)
      generalize wr.drew = w59 at HO_3 HO_4 HO_6 BK481 HB HL492_3 HL495_3 HR492_3 HR495_3 hx492_0 hx492_1 hx492_2 hx492_3 hx493_0 hx494_0 hx495_0 hx495_1 hx495_2 hx495_3 hHeld ⊢
      refine pure_ (i := 0) (N := some 72) (v := ?_) (a' := ?_) #[true, false, false, false, false, false, false, false, false, false, false, false, false, false, false, false, false, false, false, false, false, false, false, false, false, false, false, false, false, false, false, false, false, false, false, false] rfl rfl (any_of HT_.out (by kernel_rfl)) (fun _ _ _ h => h) (Or.inl ⟨by rfl, ?_⟩) ?_ ?_
      rotate_left
      ·intro w'
       go_simp
       with_reducible rfl
      rotate_left
      ·simp only [Act.put, sA_q, sZ_q, sS_q, i64_w, i32_w]
       rfl
      refine pure_ (i := 1) (N := some 73) (v := ?_) (a' := ?_) #[true, true, false, false, false, false, false, false, false, false, false, false, false, false, false, false, false, false, false, false, false, false, false, false, false, false, false, false, false, false, false, false, false, false, false, false] rfl rfl (any_of HT_.out (by kernel_rfl)) (fun _ _ _ h => h) (Or.inl ⟨by rfl, ?_⟩) ?_ ?_
      rotate_left
      ·intro w'
       go_simp
       with_reducible rfl
      rotate_left
      ·simp only [Act.put, sA_q, sZ_q, sS_q, i64_w, i32_w]
       rfl
      refine pure_ (i := 3) (N := some 75) (v := ?_) (a' := ?_) #[true, true, false, true, false, false, false, false, false, false, false, false, false, false, false, false, false, false, false, false, false, false, false, false, false, false, false, false, false, false, false, false, false, false, false, false] rfl rfl (any_of HT_.out (by kernel_rfl)) (fun _ _ _ h => h) (Or.inl ⟨by rfl, ?_⟩) ?_ ?_
      rotate_left
      ·intro w'
       go_simp
       with_reducible rfl
      rotate_left
      ·simp only [Act.put, sA_q, sZ_q, sS_q, i64_w, i32_w]
       rfl
      refine pure_ (i := 4) (N := some 76) (v := ?_) (a' := ?_) #[true, true, false, true, true, false, false, false, false, false, false, false, false, false, false, false, false, false, false, false, false, false, false, false, false, false, false, false, false, false, false, false, false, false, false, false] rfl rfl (any_of HT_.out (by kernel_rfl)) (fun _ _ _ h => h) (Or.inl ⟨by rfl, ?_⟩) ?_ ?_
      rotate_left
      ·intro w'
       go_simp
       with_reducible rfl
      rotate_left
      ·simp only [Act.put, sA_q, sZ_q, sS_q, i64_w, i32_w]
       rfl
      refine pure_ (i := 5) (N := some 77) (v := ?_) (a' := ?_) #[true, true, false, true, true, true, false, false, false, false, false, false, false, false, false, false, false, false, false, false, false, false, false, false, false, false, false, false, false, false, false, false, false, false, false, false] rfl rfl (any_of HT_.out (by kernel_rfl)) (fun _ _ _ h => h) (Or.inl ⟨by rfl, ?_⟩) ?_ ?_
      rotate_left
      ·intro w'
       go_simp
       with_reducible rfl
      rotate_left
      ·simp only [Act.put, sA_q, sZ_q, sS_q, i64_w, i32_w]
       rfl
      refine pure_ (i := 6) (N := some 78) (v := ?_) (a' := ?_) #[true, true, false, true, true, true, true, false, false, false, false, false, false, false, false, false, false, false, false, false, false, false, false, false, false, false, false, false, false, false, false, false, false, false, false, false] rfl rfl (any_of HT_.out (by kernel_rfl)) (fun _ _ _ h => h) (Or.inl ⟨by rfl, ?_⟩) ?_ ?_
      rotate_left
      ·intro w'
       go_simp
       with_reducible rfl
      rotate_left
      ·simp only [Act.put, sA_q, sZ_q, sS_q, i64_w, i32_w]
       rfl
      refine pure_ (i := 8) (N := some 80) (v := ?_) (a' := ?_) #[true, true, false, true, true, true, true, false, true, false, false, false, false, false, false, false, false, false, false, false, false, false, false, false, false, false, false, false, false, false, false, false, false, false, false, false] rfl rfl (any_of HT_.out (by kernel_rfl)) (fun _ _ _ h => h) (Or.inl ⟨by rfl, ?_⟩) ?_ ?_
      rotate_left
      ·intro w'
       go_simp
       with_reducible rfl
      rotate_left
      ·simp only [Act.put, sA_q, sZ_q, sS_q, i64_w, i32_w]
       rfl
      refine take_ (i := 7) (N := some 79) (v := ?_) (a' := ?_) #[true, true, false, true, true, true, true, true, true, false, false, false, false, false, false, false, false, false, false, false, false, false, false, false, false, false, false, false, false, false, false, false, false, false, false, false] rfl rfl (take_ofW HT_.out HW_.out (by kernel_rfl)) (fun _ _ _ h => h) (Or.inl ⟨by rfl, ?_⟩) hHeld ?_ ?_
      rotate_left
      ·rintro w' ⟨s0, s1, s2, s3, s4, s5, s6, s7, s8, s9, s10, s11, s12⟩
       go_simp
       with_reducible rfl
      rotate_left
      ·simp only [Act.put, sA_q, sZ_q, sS_q, i64_w, i32_w]
       rfl
      refine take_ (i := 9) (N := some 81) (v := ?_) (a' := ?_) #[true, true, false, true, true, true, true, true, true, true, false, false, false, false, false, false, false, false, false, false, false, false, false, false, false, false, false, false, false, false, false, false, false, false, false, false] rfl rfl (take_ofW HT_.out HW_.out (by kernel_rfl)) (fun _ _ _ h => h) (Or.inl ⟨by rfl, ?_⟩) hHeld ?_ ?_
      rotate_left
      ·rintro w' ⟨s0, s1, s2, s3, s4, s5, s6, s7, s8, s9, s10, s11, s12⟩
       go_simp
       with_reducible rfl
      rotate_left
      ·simp only [Act.put, sA_q, sZ_q, sS_q, i64_w, i32_w]
       rfl
      refine pure_ (i := 10) (N := some 82) (v := ?_) (a' := ?_) #[true, true, false, true, true, true, true, true, true, true, true, false, false, false, false, false, false, false, false, false, false, false, false, false, false, false, false, false, false, false, false, false, false, false, false, false] rfl rfl (any_of HT_.out (by kernel_rfl)) (fun _ _ _ h => h) (Or.inl ⟨by rfl, ?_⟩) ?_ ?_
      rotate_left
      ·intro w'
       go_simp
       with_reducible rfl
      rotate_left
      ·simp only [Act.put, sA_q, sZ_q, sS_q, i64_w, i32_w]
       rfl
      refine one_ (i := 2) (N := some 74) #[true, true, true, true, true, true, true, true, true, true, true, false, false, false, false, false, false, false, false, false, false, false, false, false, false, false, false, false, false, false, false, false, false, false, false, false] rfl rfl (one_of HT_.out (by kernel_rfl)) (by decide) (fun K hK => ?_)
      refine goes_ Try.func31 (by kernel_rfl) rfl #[.slice Ao60 t482.length co60, .int .i64 x8_2] (by rfl) rfl rfl (by (try simp only [lM_q, lC_q, lN_q]); first | done | rfl | (simp only [lD_q, lT_q]; rfl)) ?_
      with_reducible refine (laws_hasInt.calls k2 _ _ t482 x8_2 t491 _ ?side1 ?side2 A53.out).mono ?_
      (case side1 => exact cup (rR_q HO_6.out).2.2)
      (case side2 => exact (rR_q HO_6.out).2.1)
      rintro e w' ⟨rfl, ⟨nd, rfl⟩⟩
      refine ⟨_, rfl, ?_⟩
      refine hK.out _ _ ⟨(bC_q BK481.out 0).trans rfl, (bC_q BK481.out 1).trans rfl, (bC_q BK481.out 2).trans rfl, hHeld.2.2.2.1, hHeld.2.2.2.2.1, hHeld.2.2.2.2.2.1, hHeld.2.2.2.2.2.2.1, hHeld.2.2.2.2.2.2.2.1, hHeld.2.2.2.2.2.2.2.2.1, hHeld.2.2.2.2.2.2.2.2.2.1, hHeld.2.2.2.2.2.2.2.2.2.2.1, hHeld.2.2.2.2.2.2.2.2.2.2.2.1, hHeld.2.2.2.2.2.2.2.2.2.2.2.2⟩ (fun hHeld => ?_)
      clear hK K
      refine norm_ (a' := ?_) ?_ ?_
      rotate_left
      ·show Act.put _ (some 74) _ = _
       simp only [Act.put, sA_q, sZ_q, sS_q, i64_w, i32_w]
       rfl
      refine pure_ (i := 11) (N := some 83) (v := ?_) (a' := ?_) #[true, true, true, true, true, true, true, true, true, true, true, true, false, false, false, false, false, false, false, false, false, false, false, false, false, false, false, false, false, false, false, false, false, false, false, false] rfl rfl (any_of HT_.out (by kernel_rfl)) (fun _ _ _ h => h) (Or.inl ⟨by rfl, ?_⟩) ?_ ?_
      rotate_left
      ·intro w'
       go_simp
       with_reducible rfl
      rotate_left
      ·simp only [Act.put, sA_q, sZ_q, sS_q, i64_w, i32_w]
       rfl
      refine pure_ (i := 12) (N := some 84) (v := ?_) (a' := ?_) #[true, true, true, true, true, true, true, true, true, true, true, true, true, false, false, false, false, false, false, false, false, false, false, false, false, false, false, false, false, false, false, false, false, false, false, false] rfl rfl (any_of HT_.out (by kernel_rfl)) (fun _ _ _ h => h) (Or.inl ⟨by rfl, ?_⟩) ?_ ?_
      rotate_left
      ·intro w'
       go_simp
       with_reducible rfl
      rotate_left
      ·simp only [Act.put, sA_q, sZ_q, sS_q, i64_w, i32_w]
       rfl
      refine pure_ (i := 13) (N := some 85) (v := ?_) (a' := ?_) #[true, true, true, true, true, true, true, true, true, true, true, true, true, true, false, false, false, false, false, false, false, false, false, false, false, false, false, false, false, false, false, false, false, false, false, false] rfl rfl (any_of HT_.out (by kernel_rfl)) (fun _ _ _ h => h) (Or.inl ⟨by rfl, ?_⟩) ?_ ?_
      rotate_left
      ·intro w'
       go_simp
       with_reducible rfl
      rotate_left
      ·simp only [Act.put, sA_q, sZ_q, sS_q, i64_w, i32_w]
       rfl
      refine pure_ (i := 14) (N := some 86) (v := ?_) (a' := ?_) #[true, true, true, true, true, true, true, true, true, true, true, true, true, true, true, false, false, false, false, false, false, false, false, false, false, false, false, false, false, false, false, false, false, false, false, false] rfl rfl (any_of HT_.out (by kernel_rfl)) (fun _ _ _ h => h) (Or.inl ⟨by rfl, ?_⟩) ?_ ?_
      rotate_left
      ·intro w'
       go_simp
       with_reducible rfl
      rotate_left
      ·simp only [Act.put, sA_q, sZ_q, sS_q, i64_w, i32_w]
       rfl
      refine pure_ (i := 16) (N := some 88) (v := ?_) (a' := ?_) #[true, true, true, true, true, true, true, true, true, true, true, true, true, true, true, false, true, false, false, false, false, false, false, false, false, false, false, false, false, false, false, false, false, false, false, false] rfl rfl (any_of HT_.out (by kernel_rfl)) (fun _ _ _ h => h) (Or.inl ⟨by rfl, ?_⟩) ?_ ?_
      rotate_left
      ·intro w'
       go_simp
       with_reducible rfl
      rotate_left
      ·simp only [Act.put, sA_q, sZ_q, sS_q, i64_w, i32_w]
       rfl
      refine take_ (i := 15) (N := some 87) (v := ?_) (a' := ?_) #[true, true, true, true, true, true, true, true, true, true, true, true, true, true, true, true, true, false, false, false, false, false, false, false, false, false, false, false, false, false, false, false, false, false, false, false] rfl rfl (take_ofW HT_.out HW_.out (by kernel_rfl)) (fun _ _ _ h => h) (Or.inl ⟨by rfl, ?_⟩) hHeld ?_ ?_
      rotate_left
      ·rintro w' ⟨s0, s1, s2, s3, s4, s5, s6, s7, s8, s9, s10, s11, s12⟩
       go_simp
       with_reducible rfl
      rotate_left
      ·simp only [Act.put, sA_q, sZ_q, sS_q, i64_w, i32_w]
       rfl
      refine take_ (i := 17) (N := some 89) (v := ?_) (a' := ?_) #[true, true, true, true, true, true, true, true, true, true, true, true, true, true, true, true, true, true, false, false, false, false, false, false, false, false, false, false, false, false, false, false, false, false, false, false] rfl rfl (take_ofW HT_.out HW_.out (by kernel_rfl)) (fun _ _ _ h => h) (Or.inl ⟨by rfl, ?_⟩) hHeld ?_ ?_
      rotate_left
      ·rintro w' ⟨s0, s1, s2, s3, s4, s5, s6, s7, s8, s9, s10, s11, s12⟩
       go_simp
       with_reducible rfl
      rotate_left
      ·simp only [Act.put, sA_q, sZ_q, sS_q, i64_w, i32_w]
       rfl
      refine pure_ (i := 18) (N := some 90) (v := ?_) (a' := ?_) #[true, true, true, true, true, true, true, true, true, true, true, true, true, true, true, true, true, true, true, false, false, false, false, false, false, false, false, false, false, false, false, false, false, false, false, false] rfl rfl (any_of HT_.out (by kernel_rfl)) (fun _ _ _ h => h) (Or.inl ⟨by rfl, ?_⟩) ?_ ?_
      rotate_left
      ·intro w'
       go_simp
       with_reducible rfl
      rotate_left
      ·simp only [Act.put, sA_q, sZ_q, sS_q, i64_w, i32_w]
       rfl
      refine pure_ (i := 19) (N := some 91) (v := ?_) (a' := ?_) #[true, true, true, true, true, true, true, true, true, true, true, true, true, true, true, true, true, true, true, true, false, false, false, false, false, false, false, false, false, false, false, false, false, false, false, false] rfl rfl (any_of HT_.out (by kernel_rfl)) (fun _ _ _ h => h) (Or.inl ⟨by rfl, ?_⟩) ?_ ?_
      rotate_left
      ·intro w'
       go_simp
       with_reducible rfl
      rotate_left
      ·simp only [Act.put, sA_q, sZ_q, sS_q, i64_w, i32_w]
       rfl
      refine pure_ (i := 20) (N := some 92) (v := ?_) (a' := ?_) #[true, true, true, true, true, true, true, true, true, true, true, true, true, true, true, true, true, true, true, true, true, false, false, false, false, false, false, false, false, false, false, false, false, false, false, false] rfl rfl (any_of HT_.out (by kernel_rfl)) (fun _ _ _ h => h) (Or.inl ⟨by rfl, ?_⟩) ?_ ?_
      rotate_left
      ·intro w'
       go_simp
       with_reducible rfl
      rotate_left
      ·simp only [Act.put, sA_q, sZ_q, sS_q, i64_w, i32_w]
       rfl
      refine pure_ (i := 21) (N := some 93) (v := ?_) (a' := ?_) #[true, true, true, true, true, true, true, true, true, true, true, true, true, true, true, true, true, true, true, true, true, true, false, false, false, false, false, false, false, false, false, false, false, false, false, false] rfl rfl (any_of HT_.out (by kernel_rfl)) (fun _ _ _ h => h) (Or.inl ⟨by rfl, ?_⟩) ?_ ?_
      rotate_left
      ·intro w'
       go_simp
       with_reducible rfl
      rotate_left
      ·simp only [Act.put, sA_q, sZ_q, sS_q, i64_w, i32_w]
       rfl
      refine pure_ (i := 22) (N := some 94) (v := ?_) (a' := ?_) #[true, true, true, true, true, true, true, true, true, true, true, true, true, true, true, true, true, true, true, true, true, true, true, false, false, false, false, false, false, false, false, false, false, false, false, false] rfl rfl (any_of HT_.out (by kernel_rfl)) (fun _ _ _ h => h) (Or.inl ⟨by rfl, ?_⟩) ?_ ?_
      rotate_left
      ·intro w'
       go_simp
       with_reducible rfl
      rotate_left
      ·simp only [Act.put, sA_q, sZ_q, sS_q, i64_w, i32_w]
       rfl
      refine pure_ (i := 23) (N := some 95) (v := ?_) (a' := ?_) #[true, true, true, true, true, true, true, true, true, true, true, true, true, true, true, true, true, true, true, true, true, true, true, true, false, false, false, false, false, false, false, false, false, false, false, false] rfl rfl (any_of HT_.out (by kernel_rfl)) (fun _ _ _ h => h) (Or.inl ⟨by rfl, ?_⟩) ?_ ?_
      rotate_left
      ·intro w'
       go_simp
       with_reducible rfl
      rotate_left
      ·simp only [Act.put, sA_q, sZ_q, sS_q, i64_w, i32_w]
       rfl
      refine pure_ (i := 25) (N := some 97) (v := ?_) (a' := ?_) #[true, true, true, true, true, true, true, true, true, true, true, true, true, true, true, true, true, true, true, true, true, true, true, true, false, true, false, false, false, false, false, false, false, false, false, false] rfl rfl (any_of HT_.out (by kernel_rfl)) (fun _ _ _ h => h) (Or.inl ⟨by rfl, ?_⟩) ?_ ?_
      rotate_left
      ·intro w'
       go_simp
       with_reducible rfl
      rotate_left
      ·simp only [Act.put, sA_q, sZ_q, sS_q, i64_w, i32_w]
       rfl
      refine pure_ (i := 26) (N := some 98) (v := ?_) (a' := ?_) #[true, true, true, true, true, true, true, true, true, true, true, true, true, true, true, true, true, true, true, true, true, true, true, true, false, true, true, false, false, false, false, false, false, false, false, false] rfl rfl (any_of HT_.out (by kernel_rfl)) (fun _ _ _ h => h) (Or.inl ⟨by rfl, ?_⟩) ?_ ?_
      rotate_left
      ·intro w'
       go_simp
       with_reducible rfl
      rotate_left
      ·simp only [Act.put, sA_q, sZ_q, sS_q, i64_w, i32_w]
       rfl
      refine pure_ (i := 27) (N := some 99) (v := ?_) (a' := ?_) #[true, true, true, true, true, true, true, true, true, true, true, true, true, true, true, true, true, true, true, true, true, true, true, true, false, true, true, true, false, false, false, false, false, false, false, false] rfl rfl (any_of HT_.out (by kernel_rfl)) (fun _ _ _ h => h) (Or.inl ⟨by rfl, ?_⟩) ?_ ?_
      rotate_left
      ·intro w'
       go_simp
       with_reducible rfl
      rotate_left
      ·simp only [Act.put, sA_q, sZ_q, sS_q, i64_w, i32_w]
       rfl
      refine pure_ (i := 28) (N := some 100) (v := ?_) (a' := ?_) #[true, true, true, true, true, true, true, true, true, true, true, true, true, true, true, true, true, true, true, true, true, true, true, true, false, true, true, true, true, false, false, false, false, false, false, false] rfl rfl (any_of HT_.out (by kernel_rfl)) (fun _ _ _ h => h) (Or.inl ⟨by rfl, ?_⟩) ?_ ?_
      rotate_left
      ·intro w'
       go_simp
       with_reducible rfl
      rotate_left
      ·simp only [Act.put, sA_q, sZ_q, sS_q, i64_w, i32_w]
       rfl
      refine pure_ (i := 31) (N := some 103) (v := ?_) (a' := ?_) #[true, true, true, true, true, true, true, true, true, true, true, true, true, true, true, true, true, true, true, true, true, true, true, true, false, true, true, true, true, false, false, true, false, false, false, false] rfl rfl (any_of HT_.out (by kernel_rfl)) (fun _ _ _ h => h) (Or.inl ⟨by rfl, ?_⟩) ?_ ?_
      rotate_left
      ·intro w'
       go_simp
       with_reducible rfl
      rotate_left
      ·simp only [Act.put, sA_q, sZ_q, sS_q, i64_w, i32_w]
       rfl
      refine take_ (i := 24) (N := some 96) (v := ?_) (a' := ?_) #[true, true, true, true, true, true, true, true, true, true, true, true, true, true, true, true, true, true, true, true, true, true, true, true, true, true, true, true, true, false, false, true, false, false, false, false] rfl rfl (take_ofW HT_.out HW_.out (by kernel_rfl)) (fun _ _ _ h => h) (Or.inl ⟨by rfl, ?_⟩) hHeld ?_ ?_
      rotate_left
      ·rintro w' ⟨s0, s1, s2, s3, s4, s5, s6, s7, s8, s9, s10, s11, s12⟩
       go_simp
       with_reducible rfl
      rotate_left
      ·simp only [Act.put, sA_q, sZ_q, sS_q, i64_w, i32_w]
       rfl
      refine take_ (i := 29) (N := some 101) (v := ?_) (a' := ?_) #[true, true, true, true, true, true, true, true, true, true, true, true, true, true, true, true, true, true, true, true, true, true, true, true, true, true, true, true, true, true, false, true, false, false, false, false] rfl rfl (take_ofW HT_.out HW_.out (by kernel_rfl)) (fun _ _ _ h => h) (Or.inl ⟨by rfl, ?_⟩) hHeld ?_ ?_
      rotate_left
      ·rintro w' ⟨s0, s1, s2, s3, s4, s5, s6, s7, s8, s9, s10, s11, s12⟩
       go_simp
       with_reducible rfl
      rotate_left
      ·simp only [Act.put, sA_q, sZ_q, sS_q, i64_w, i32_w]
       rfl
      refine pure_ (i := 30) (N := some 102) (v := ?_) (a' := ?_) #[true, true, true, true, true, true, true, true, true, true, true, true, true, true, true, true, true, true, true, true, true, true, true, true, true, true, true, true, true, true, true, true, false, false, false, false] rfl rfl (any_of HT_.out (by kernel_rfl)) (fun _ _ _ h => h) (Or.inl ⟨by rfl, ?_⟩) ?_ ?_
      rotate_left
      ·intro w'
       go_simp
       with_reducible rfl
      rotate_left
      ·simp only [Act.put, sA_q, sZ_q, sS_q, i64_w, i32_w]
       rfl
      refine take_ (i := 32) (N := some 104) (v := ?_) (a' := ?_) #[true, true, true, true, true, true, true, true, true, true, true, true, true, true, true, true, true, true, true, true, true, true, true, true, true, true, true, true, true, true, true, true, true, false, false, false] rfl rfl (take_ofW HT_.out HW_.out (by kernel_rfl)) (fun _ _ _ h => h) (Or.inl ⟨by rfl, ?_⟩) hHeld ?_ ?_
      rotate_left
      ·rintro w' ⟨s0, s1, s2, s3, s4, s5, s6, s7, s8, s9, s10, s11, s12⟩
       go_simp
       with_reducible rfl
      rotate_left
      ·simp only [Act.put, sA_q, sZ_q, sS_q, i64_w, i32_w]
       rfl
      refine pure_ (i := 33) (N := some 105) (v := ?_) (a' := ?_) #[true, true, true, true, true, true, true, true, true, true, true, true, true, true, true, true, true, true, true, true, true, true, true, true, true, true, true, true, true, true, true, true, true, true, false, false] rfl rfl (any_of HT_.out (by kernel_rfl)) (fun _ _ _ h => h) (Or.inl ⟨by rfl, ?_⟩) ?_ ?_
      rotate_left
      ·intro w'
       go_simp
       with_reducible rfl
      rotate_left
      ·simp only [Act.put, sA_q, sZ_q, sS_q, i64_w, i32_w]
       rfl
      refine pure_ (i := 34) (N := some 106) (v := ?_) (a' := ?_) #[true, true, true, true, true, true, true, true, true, true, true, true, true, true, true, true, true, true, true, true, true, true, true, true, true, true, true, true, true, true, true, true, true, true, true, false] rfl rfl (any_of HT_.out (by kernel_rfl)) (fun _ _ _ h => h) (Or.inl ⟨by rfl, ?_⟩) ?_ ?_
      rotate_left
      ·intro w'
       go_simp
       with_reducible rfl
      rotate_left
      ·simp only [Act.put, sA_q, sZ_q, sS_q, i64_w, i32_w]
       rfl
      refine pure_ (i := 35) (N := some 107) (v := ?_) (a' := ?_) #[true, true, true, true, true, true, true, true, true, true, true, true, true, true, true, true, true, true, true, true, true, true, true, true, true, true, true, true, true, true, true, true, true, true, true, true] rfl rfl (any_of HT_.out (by kernel_rfl)) (fun _ _ _ h => h) (Or.inl ⟨by rfl, ?_⟩) ?_ ?_
      rotate_left
      ·intro w'
       go_simp
       with_reducible rfl
      rotate_left
      ·simp only [Act.put, sA_q, sZ_q, sS_q, i64_w, i32_w]
       rfl
      refine done_ (done_of HT_.out (by kernel_rfl)) ?_
      try go_wp2
      go_ret
      exact ⟨by first | rfl | (simp [eN_q, eS_q] <;> rfl) | (simp [*, eN_q, eS_q] <;> rfl), by repeat (with_reducible first | exact HB.out | apply bA_q | apply pB_q | apply bD_q | refine bS_q ?_ GE481.out)⟩
     rw [if_neg c58] at H
     have c58b0 : (t491 != (decide ((wrap64 ((rd t475 x8_2) + ((rd_T31 t472 x8_2).f0))) > t479))) = false := by simpa using c58
     (try (have c58b1 : decide (t491 = (decide ((wrap64 ((rd t475 x8_2) + ((rd_T31 t472 x8_2).f0))) > t479))) = true := by simpa using c58))
     (try (have c58b2 : (t491 == (decide ((wrap64 ((rd t475 x8_2) + ((rd_T31 t472 x8_2).f0))) > t479))) = true := by simpa using c58))
     clear c58
     have H' := Ae_q H
     clear H
     try go_wp2
     have n0_ := Ae_q (tD_q HO_3.out)
     have n1_ := Ae_q (rD_q HO_4.out)
     have n2_ := Ae_q (rD_q HO_6.out)
     have n3_ := Ae_q (bW_q BK481.out)
     have n4_ := Ae_q (bD_q HB.out)
     clear HO_3
     clear HO_4
     clear HO_6
     clear BK481
     clear HB
     have HO_3 := n0_
     have HO_4 := n1_
     have HO_6 := n2_
     have BK481 := n3_
     have HB := n4_
     clear n0_ n1_ n2_ n3_ n4_
     have p492 : 0 ≤ (x8_2 : Int) := oD_q (by assumption)
     have q492 : x8_2 < (t472.length : Int) := oD_q (by assumption)
     obtain ⟨ad492, A492_3, c492_3, e492, hx492_0, hx492_1, hx492_2, hx492_3, hl492_3, hi492_3⟩ := at_T31 (Kd.S_reads' HO_3.out).2.2 x8_2 p492 q492
     cases e492
     obtain ⟨ce492, hce492, hMe492, hcc492⟩ := Kd.S_get HO_3.out z31 x8_2 p492 (by first | exact q492 | exact oD_q (by assumption) | (have e_ := (Kd.S_reads' HO_3.out).1; omega))
     obtain ⟨ve492_3, rfl, ge492_3⟩ := k31_openM hMe492
     have hv492_3 := hcc492 3 _ rfl
     rw [add_field _ _ 3 (by omega)] at hv492_3
     replace hv492_3 := oI_q (hv492_3.symm.trans hx492_3)
     rw [hv492_3] at ge492_3
     have HL492_3 := Ae_q (show Kd.R kI_q 3 _ _ _ _ ((rd_T31 t472 x8_2).f3) from ge492_3)
     clear hv492_3 ge492_3
     clear hcc492 hce492
     have HR492_3 := Ae_q hi492_3
     have HC492_3 := Ae_q hl492_3
     clear hi492_3 hl492_3
     replace p492 := eq_true p492
     replace q492 := eq_true q492
     obtain ⟨Ao62, co62, eo62⟩ := rS_q HO_6.out
     (first | subst eo62 | (injection eo62 with f1_ f2_ f3_; have f4_ := f1_.symm; have f5_ := f3_.symm; clear f1_ f2_ f3_; subst f4_; subst f5_))
     have p493 : 0 ≤ (x8_2 : Int) := oD_q (by assumption)
     have q493 : x8_2 < (t475.length : Int) := oD_q (by assumption)
     obtain ⟨ad493, e493, hx493_0⟩ := aI_q (rR_q HO_4.out).2.2 x8_2 p493 q493
     cases e493
     replace p493 := eq_true p493
     replace q493 := eq_true q493
     have p494 : 0 ≤ (x8_2 : Int) := oD_q (by assumption)
     have q494 : x8_2 < (t475.length : Int) := oD_q (by assumption)
     obtain ⟨ad494, e494, hx494_0⟩ := aI_q (rR_q HO_4.out).2.2 x8_2 p494 q494
     obtain rfl : ad493 = ad494 := (by injection e494)
     replace p494 := eq_true p494
     replace q494 := eq_true q494
     have p495 : 0 ≤ (x8_2 : Int) := oD_q (by assumption)
     have q495 : x8_2 < (t472.length : Int) := oD_q (by assumption)
     obtain ⟨ad495, A495_3, c495_3, e495, hx495_0, hx495_1, hx495_2, hx495_3, hl495_3, hi495_3⟩ := at_T31 (Kd.S_reads' HO_3.out).2.2 x8_2 p495 q495
     obtain rfl : ad492 = ad495 := (by injection e495)
     obtain ⟨ce495, hce495, hMe495, hcc495⟩ := Kd.S_get HO_3.out z31 x8_2 p495 (by first | exact q495 | exact oD_q (by assumption) | (have e_ := (Kd.S_reads' HO_3.out).1; omega))
     obtain ⟨ve495_3, rfl, ge495_3⟩ := k31_openM hMe495
     have hv495_3 := hcc495 3 _ rfl
     rw [add_field _ _ 3 (by omega)] at hv495_3
     replace hv495_3 := oI_q (hv495_3.symm.trans hx495_3)
     rw [hv495_3] at ge495_3
     have HL495_3 := Ae_q (show Kd.R kI_q 3 _ _ _ _ ((rd_T31 t472 x8_2).f3) from ge495_3)
     clear hv495_3 ge495_3
     clear hcc495 hce495
     have HR495_3 := Ae_q hi495_3
     have HC495_3 := Ae_q hl495_3
     clear hi495_3 hl495_3
     replace p495 := eq_true p495
     replace q495 := eq_true q495
     have ea_ := oI_q (hx492_3.symm.trans hx495_3)
     injection ea_ with ea_ en_ ec_
     subst ea_
     subst ec_
     clear en_
     refine start_ (n := 36) (S := fun w' => w'.cell? ⟨gb481, 0, none⟩ = some (.int .i64 t478) ∧ w'.cell? ⟨gb481, 1, none⟩ = some (.int .i64 t479) ∧ w'.cell? ⟨gb481, 2, none⟩ = some (.int .i64 t480) ∧ w'.cell? (ad492.add ((x8_2).toNat * 4)) = some (.int .i64 ((rd_T31 t472 x8_2).f0)) ∧ w'.cell? ⟨(ad492.add ((x8_2).toNat * 4)).block, (ad492.add ((x8_2).toNat * 4)).off + 1, none⟩ = some (.int .i64 ((rd_T31 t472 x8_2).f1)) ∧ w'.cell? ⟨(ad492.add ((x8_2).toNat * 4)).block, (ad492.add ((x8_2).toNat * 4)).off + 2, none⟩ = some (.int .i64 ((rd_T31 t472 x8_2).f2)) ∧ w'.cell? ⟨(ad492.add ((x8_2).toNat * 4)).block, (ad492.add ((x8_2).toNat * 4)).off + 3, none⟩ = some (.slice A492_3 ((rd_T31 t472 x8_2).f3).length c492_3) ∧ w'.cell? (ad493.add (x8_2).toNat) = some (.int .i64 (rd t475 x8_2)) ∧ w'.cell? (ad493.add (x8_2).toNat) = some (.int .i64 (rd t475 x8_2)) ∧ w'.cell? (ad492.add ((x8_2).toNat * 4)) = some (.int .i64 ((rd_T31 t472 x8_2).f0)) ∧ w'.cell? ⟨(ad492.add ((x8_2).toNat * 4)).block, (ad492.add ((x8_2).toNat * 4)).off + 1, none⟩ = some (.int .i64 ((rd_T31 t472 x8_2).f1)) ∧ w'.cell? ⟨(ad492.add ((x8_2).toNat * 4)).block, (ad492.add ((x8_2).toNat * 4)).off + 2, none⟩ = some (.int .i64 ((rd_T31 t472 x8_2).f2)) ∧ w'.cell? ⟨(ad492.add ((x8_2).toNat * 4)).block, (ad492.add ((x8_2).toNat * 4)).off + 3, none⟩ = some (.slice A492_3 ((rd_T31 t472 x8_2).f3).length c492_3)) (ds := []) #[false, false, false, false, false, false, false, false, false, false, false, false, false, false, false, false, false, false, false, false, false, false, false, false, false, false, false, false, false, false, false, false, false, false, false, false] (by kernel_rfl) rfl rfl ⟨(bC_q BK481.out 0).trans rfl, (bC_q BK481.out 1).trans rfl, (bC_q BK481.out 2).trans rfl, hx492_0, hx492_1, hx492_2, hx492_3, hx493_0, hx494_0, hx495_0, hx495_1, hx495_2, hx495_3⟩ (fun hHeld => ?_); refine with_tabW laws_FnHits.tab11 laws_FnHits.bits11 (fun HT_ HW_ => ?_)
     generalize wr.drew = w61 at HO_3 HO_4 HO_6 BK481 HB HL492_3 HL495_3 HR492_3 HR495_3 hx492_0 hx492_1 hx492_2 hx492_3 hx493_0 hx494_0 hx495_0 hx495_1 hx495_2 hx495_3 hHeld ⊢
     refine pure_ (i := 0) (N := some 72) (v := ?_) (a' := ?_) #[true, false, false, false, false, false, false, false, false, false, false, false, false, false, false, false, false, false, false, false, false, false, false, false, false, false, false, false, false, false, false, false, false, false, false, false] rfl rfl (any_of HT_.out (by kernel_rfl)) (fun _ _ _ h => h) (Or.inl ⟨by rfl, ?_⟩) ?_ ?_
     rotate_left
     ·intro w'
      go_simp
      with_reducible rfl
     rotate_left
     ·simp only [Act.put, sA_q, sZ_q, sS_q, i64_w, i32_w]
      rfl
     refine pure_ (i := 1) (N := some 73) (v := ?_) (a' := ?_) #[true, true, false, false, false, false, false, false, false, false, false, false, false, false, false, false, false, false, false, false, false, false, false, false, false, false, false, false, false, false, false, false, false, false, false, false] rfl rfl (any_of HT_.out (by kernel_rfl)) (fun _ _ _ h => h) (Or.inl ⟨by rfl, ?_⟩) ?_ ?_
     rotate_left
     ·intro w'
      go_simp
      with_reducible rfl
     rotate_left
     ·simp only [Act.put, sA_q, sZ_q, sS_q, i64_w, i32_w]
      rfl
     refine pure_ (i := 3) (N := some 75) (v := ?_) (a' := ?_) #[true, true, false, true, false, false, false, false, false, false, false, false, false, false, false, false, false, false, false, false, false, false, false, false, false, false, false, false, false, false, false, false, false, false, false, false] rfl rfl (any_of HT_.out (by kernel_rfl)) (fun _ _ _ h => h) (Or.inl ⟨by rfl, ?_⟩) ?_ ?_
     rotate_left
     ·intro w'
      go_simp
      with_reducible rfl
     rotate_left
     ·simp only [Act.put, sA_q, sZ_q, sS_q, i64_w, i32_w]
      rfl
     refine pure_ (i := 4) (N := some 76) (v := ?_) (a' := ?_) #[true, true, false, true, true, false, false, false, false, false, false, false, false, false, false, false, false, false, false, false, false, false, false, false, false, false, false, false, false, false, false, false, false, false, false, false] rfl rfl (any_of HT_.out (by kernel_rfl)) (fun _ _ _ h => h) (Or.inl ⟨by rfl, ?_⟩) ?_ ?_
     rotate_left
     ·intro w'
      go_simp
      with_reducible rfl
     rotate_left
     ·simp only [Act.put, sA_q, sZ_q, sS_q, i64_w, i32_w]
      rfl
     refine pure_ (i := 5) (N := some 77) (v := ?_) (a' := ?_) #[true, true, false, true, true, true, false, false, false, false, false, false, false, false, false, false, false, false, false, false, false, false, false, false, false, false, false, false, false, false, false, false, false, false, false, false] rfl rfl (any_of HT_.out (by kernel_rfl)) (fun _ _ _ h => h) (Or.inl ⟨by rfl, ?_⟩) ?_ ?_
     rotate_left
     ·intro w'
      go_simp
      with_reducible rfl
     rotate_left
     ·simp only [Act.put, sA_q, sZ_q, sS_q, i64_w, i32_w]
      rfl
     refine pure_ (i := 6) (N := some 78) (v := ?_) (a' := ?_) #[true, true, false, true, true, true, true, false, false, false, false, false, false, false, false, false, false, false, false, false, false, false, false, false, false, false, false, false, false, false, false, false, false, false, false, false] rfl rfl (any_of HT_.out (by kernel_rfl)) (fun _ _ _ h => h) (Or.inl ⟨by rfl, ?_⟩) ?_ ?_
     rotate_left
     ·intro w'
      go_simp
      with_reducible rfl
     rotate_left
     ·simp only [Act.put, sA_q, sZ_q, sS_q, i64_w, i32_w]
      rfl
     refine pure_ (i := 8) (N := some 80) (v := ?_) (a' := ?_) #[true, true, false, true, true, true, true, false, true, false, false, false, false, false, false, false, false, false, false, false, false, false, false, false, false, false, false, false, false, false, false, false, false, false, false, false] rfl rfl (any_of HT_.out (by kernel_rfl)) (fun _ _ _ h => h) (Or.inl ⟨by rfl, ?_⟩) ?_ ?_
     rotate_left
     ·intro w'
      go_simp
      with_reducible rfl
     rotate_left
     ·simp only [Act.put, sA_q, sZ_q, sS_q, i64_w, i32_w]
      rfl
     refine take_ (i := 7) (N := some 79) (v := ?_) (a' := ?_) #[true, true, false, true, true, true, true, true, true, false, false, false, false, false, false, false, false, false, false, false, false, false, false, false, false, false, false, false, false, false, false, false, false, false, false, false] rfl rfl (take_ofW HT_.out HW_.out (by kernel_rfl)) (fun _ _ _ h => h) (Or.inl ⟨by rfl, ?_⟩) hHeld ?_ ?_
     rotate_left
     ·rintro w' ⟨s0, s1, s2, s3, s4, s5, s6, s7, s8, s9, s10, s11, s12⟩
      go_simp
      with_reducible rfl
     rotate_left
     ·simp only [Act.put, sA_q, sZ_q, sS_q, i64_w, i32_w]
      rfl
     refine take_ (i := 9) (N := some 81) (v := ?_) (a' := ?_) #[true, true, false, true, true, true, true, true, true, true, false, false, false, false, false, false, false, false, false, false, false, false, false, false, false, false, false, false, false, false, false, false, false, false, false, false] rfl rfl (take_ofW HT_.out HW_.out (by kernel_rfl)) (fun _ _ _ h => h) (Or.inl ⟨by rfl, ?_⟩) hHeld ?_ ?_
     rotate_left
     ·rintro w' ⟨s0, s1, s2, s3, s4, s5, s6, s7, s8, s9, s10, s11, s12⟩
      go_simp
      with_reducible rfl
     rotate_left
     ·simp only [Act.put, sA_q, sZ_q, sS_q, i64_w, i32_w]
      rfl
     refine pure_ (i := 10) (N := some 82) (v := ?_) (a' := ?_) #[true, true, false, true, true, true, true, true, true, true, true, false, false, false, false, false, false, false, false, false, false, false, false, false, false, false, false, false, false, false, false, false, false, false, false, false] rfl rfl (any_of HT_.out (by kernel_rfl)) (fun _ _ _ h => h) (Or.inl ⟨by rfl, ?_⟩) ?_ ?_
     rotate_left
     ·intro w'
      go_simp
      with_reducible rfl
     rotate_left
     ·simp only [Act.put, sA_q, sZ_q, sS_q, i64_w, i32_w]
      rfl
     refine one_ (i := 2) (N := some 74) #[true, true, true, true, true, true, true, true, true, true, true, false, false, false, false, false, false, false, false, false, false, false, false, false, false, false, false, false, false, false, false, false, false, false, false, false] rfl rfl (one_of HT_.out (by kernel_rfl)) (by decide) (fun K hK => ?_)
     refine goes_ Try.func31 (by kernel_rfl) rfl #[.slice Ao62 t482.length co62, .int .i64 x8_2] (by rfl) rfl rfl (by (try simp only [lM_q, lC_q, lN_q]); first | done | rfl | (simp only [lD_q, lT_q]; rfl)) ?_
     with_reducible refine (laws_hasInt.calls k2 _ _ t482 x8_2 t491 _ ?side1 ?side2 A53.out).mono ?_
     (case side1 => exact cup (rR_q HO_6.out).2.2)
     (case side2 => exact (rR_q HO_6.out).2.1)
     rintro e w' ⟨rfl, ⟨nd, rfl⟩⟩
     refine ⟨_, rfl, ?_⟩
     refine hK.out _ _ ⟨(bC_q BK481.out 0).trans rfl, (bC_q BK481.out 1).trans rfl, (bC_q BK481.out 2).trans rfl, hHeld.2.2.2.1, hHeld.2.2.2.2.1, hHeld.2.2.2.2.2.1, hHeld.2.2.2.2.2.2.1, hHeld.2.2.2.2.2.2.2.1, hHeld.2.2.2.2.2.2.2.2.1, hHeld.2.2.2.2.2.2.2.2.2.1, hHeld.2.2.2.2.2.2.2.2.2.2.1, hHeld.2.2.2.2.2.2.2.2.2.2.2.1, hHeld.2.2.2.2.2.2.2.2.2.2.2.2⟩ (fun hHeld => ?_)
     clear hK K
     refine norm_ (a' := ?_) ?_ ?_
     rotate_left
     ·show Act.put _ (some 74) _ = _
      simp only [Act.put, sA_q, sZ_q, sS_q, i64_w, i32_w]
      rfl
     refine pure_ (i := 11) (N := some 83) (v := ?_) (a' := ?_) #[true, true, true, true, true, true, true, true, true, true, true, true, false, false, false, false, false, false, false, false, false, false, false, false, false, false, false, false, false, false, false, false, false, false, false, false] rfl rfl (any_of HT_.out (by kernel_rfl)) (fun _ _ _ h => h) (Or.inl ⟨by rfl, ?_⟩) ?_ ?_
     rotate_left
     ·intro w'
      go_simp
      with_reducible rfl
     rotate_left
     ·simp only [Act.put, sA_q, sZ_q, sS_q, i64_w, i32_w]
      rfl
     refine pure_ (i := 12) (N := some 84) (v := ?_) (a' := ?_) #[true, true, true, true, true, true, true, true, true, true, true, true, true, false, false, false, false, false, false, false, false, false, false, false, false, false, false, false, false, false, false, false, false, false, false, false] rfl rfl (any_of HT_.out (by kernel_rfl)) (fun _ _ _ h => h) (Or.inl ⟨by rfl, ?_⟩) ?_ ?_
     rotate_left
     ·intro w'
      go_simp
      with_reducible rfl
     rotate_left
     ·simp only [Act.put, sA_q, sZ_q, sS_q, i64_w, i32_w]
      rfl
     refine pure_ (i := 13) (N := some 85) (v := ?_) (a' := ?_) #[true, true, true, true, true, true, true, true, true, true, true, true, true, true, false, false, false, false, false, false, false, false, false, false, false, false, false, false, false, false, false, false, false, false, false, false] rfl rfl (any_of HT_.out (by kernel_rfl)) (fun _ _ _ h => h) (Or.inl ⟨by rfl, ?_⟩) ?_ ?_
     rotate_left
     ·intro w'
      go_simp
      with_reducible rfl
     rotate_left
     ·simp only [Act.put, sA_q, sZ_q, sS_q, i64_w, i32_w]
      rfl
     refine pure_ (i := 14) (N := some 86) (v := ?_) (a' := ?_) #[true, true, true, true, true, true, true, true, true, true, true, true, true, true, true, false, false, false, false, false, false, false, false, false, false, false, false, false, false, false, false, false, false, false, false, false] rfl rfl (any_of HT_.out (by kernel_rfl)) (fun _ _ _ h => h) (Or.inl ⟨by rfl, ?_⟩) ?_ ?_
     rotate_left
     ·intro w'
      go_simp
      with_reducible rfl
     rotate_left
     ·simp only [Act.put, sA_q, sZ_q, sS_q, i64_w, i32_w]
      rfl
     refine pure_ (i := 16) (N := some 88) (v := ?_) (a' := ?_) #[true, true, true, true, true, true, true, true, true, true, true, true, true, true, true, false, true, false, false, false, false, false, false, false, false, false, false, false, false, false, false, false, false, false, false, false] rfl rfl (any_of HT_.out (by kernel_rfl)) (fun _ _ _ h => h) (Or.inl ⟨by rfl, ?_⟩) ?_ ?_
     rotate_left
     ·intro w'
      go_simp
      with_reducible rfl
     rotate_left
     ·simp only [Act.put, sA_q, sZ_q, sS_q, i64_w, i32_w]
      rfl
     refine take_ (i := 15) (N := some 87) (v := ?_) (a' := ?_) #[true, true, true, true, true, true, true, true, true, true, true, true, true, true, true, true, true, false, false, false, false, false, false, false, false, false, false, false, false, false, false, false, false, false, false, false] rfl rfl (take_ofW HT_.out HW_.out (by kernel_rfl)) (fun _ _ _ h => h) (Or.inl ⟨by rfl, ?_⟩) hHeld ?_ ?_
     rotate_left
     ·rintro w' ⟨s0, s1, s2, s3, s4, s5, s6, s7, s8, s9, s10, s11, s12⟩
      go_simp
      with_reducible rfl
     rotate_left
     ·simp only [Act.put, sA_q, sZ_q, sS_q, i64_w, i32_w]
      rfl
     refine take_ (i := 17) (N := some 89) (v := ?_) (a' := ?_) #[true, true, true, true, true, true, true, true, true, true, true, true, true, true, true, true, true, true, false, false, false, false, false, false, false, false, false, false, false, false, false, false, false, false, false, false] rfl rfl (take_ofW HT_.out HW_.out (by kernel_rfl)) (fun _ _ _ h => h) (Or.inl ⟨by rfl, ?_⟩) hHeld ?_ ?_
     rotate_left
     ·rintro w' ⟨s0, s1, s2, s3, s4, s5, s6, s7, s8, s9, s10, s11, s12⟩
      go_simp
      with_reducible rfl
     rotate_left
     ·simp only [Act.put, sA_q, sZ_q, sS_q, i64_w, i32_w]
      rfl
     refine pure_ (i := 18) (N := some 90) (v := ?_) (a' := ?_) #[true, true, true, true, true, true, true, true, true, true, true, true, true, true, true, true, true, true, true, false, false, false, false, false, false, false, false, false, false, false, false, false, false, false, false, false] rfl rfl (any_of HT_.out (by kernel_rfl)) (fun _ _ _ h => h) (Or.inl ⟨by rfl, ?_⟩) ?_ ?_
     rotate_left
     ·intro w'
      go_simp
      with_reducible rfl
     rotate_left
     ·simp only [Act.put, sA_q, sZ_q, sS_q, i64_w, i32_w]
      rfl
     refine pure_ (i := 19) (N := some 91) (v := ?_) (a' := ?_) #[true, true, true, true, true, true, true, true, true, true, true, true, true, true, true, true, true, true, true, true, false, false, false, false, false, false, false, false, false, false, false, false, false, false, false, false] rfl rfl (any_of HT_.out (by kernel_rfl)) (fun _ _ _ h => h) (Or.inl ⟨by rfl, ?_⟩) ?_ ?_
     rotate_left
     ·intro w'
      go_simp
      with_reducible rfl
     rotate_left
     ·simp only [Act.put, sA_q, sZ_q, sS_q, i64_w, i32_w]
      rfl
     refine pure_ (i := 20) (N := some 92) (v := ?_) (a' := ?_) #[true, true, true, true, true, true, true, true, true, true, true, true, true, true, true, true, true, true, true, true, true, false, false, false, false, false, false, false, false, false, false, false, false, false, false, false] rfl rfl (any_of HT_.out (by kernel_rfl)) (fun _ _ _ h => h) (Or.inl ⟨by rfl, ?_⟩) ?_ ?_
     rotate_left
     ·intro w'
      go_simp
      with_reducible rfl
     rotate_left
     ·simp only [Act.put, sA_q, sZ_q, sS_q, i64_w, i32_w]
      rfl
     refine pure_ (i := 21) (N := some 93) (v := ?_) (a' := ?_) #[true, true, true, true, true, true, true, true, true, true, true, true, true, true, true, true, true, true, true, true, true, true, false, false, false, false, false, false, false, false, false, false, false, false, false, false] rfl rfl (any_of HT_.out (by kernel_rfl)) (fun _ _ _ h => h) (Or.inl ⟨by rfl, ?_⟩) ?_ ?_
     rotate_left
     ·intro w'
      go_simp
      with_reducible rfl
     rotate_left
     ·simp only [Act.put, sA_q, sZ_q, sS_q, i64_w, i32_w]
      rfl
     refine pure_ (i := 22) (N := some 94) (v := ?_) (a' := ?_) #[true, true, true, true, true, true, true, true, true, true, true, true, true, true, true, true, true, true, true, true, true, true, true, false, false, false, false, false, false, false, false, false, false, false, false, false] rfl rfl (any_of HT_.out (by kernel_rfl)) (fun _ _ _ h => h) (Or.inl ⟨by rfl, ?_⟩) ?_ ?_
     rotate_left
     ·intro w'
      go_simp
      with_reducible rfl
     rotate_left
     ·simp only [Act.put, sA_q, sZ_q, sS_q, i64_w, i32_w]
      rfl
     refine pure_ (i := 23) (N := some 95) (v := ?_) (a' := ?_) #[true, true, true, true, true, true, true, true, true, true, true, true, true, true, true, true, true, true, true, true, true, true, true, true, false, false, false, false, false, false, false, false, false, false, false, false] rfl rfl (any_of HT_.out (by kernel_rfl)) (fun _ _ _ h => h) (Or.inl ⟨by rfl, ?_⟩) ?_ ?_
     rotate_left
     ·intro w'
      go_simp
      with_reducible rfl
     rotate_left
     ·simp only [Act.put, sA_q, sZ_q, sS_q, i64_w, i32_w]
      rfl
     refine pure_ (i := 25) (N := some 97) (v := ?_) (a' := ?_) #[true, true, true, true, true, true, true, true, true, true, true, true, true, true, true, true, true, true, true, true, true, true, true, true, false, true, false, false, false, false, false, false, false, false, false, false] rfl rfl (any_of HT_.out (by kernel_rfl)) (fun _ _ _ h => h) (Or.inl ⟨by rfl, ?_⟩) ?_ ?_
     rotate_left
     ·intro w'
      go_simp
      with_reducible rfl
     rotate_left
     ·simp only [Act.put, sA_q, sZ_q, sS_q, i64_w, i32_w]
      rfl
     refine pure_ (i := 26) (N := some 98) (v := ?_) (a' := ?_) #[true, true, true, true, true, true, true, true, true, true, true, true, true, true, true, true, true, true, true, true, true, true, true, true, false, true, true, false, false, false, false, false, false, false, false, false] rfl rfl (any_of HT_.out (by kernel_rfl)) (fun _ _ _ h => h) (Or.inl ⟨by rfl, ?_⟩) ?_ ?_
     rotate_left
     ·intro w'
      go_simp
      with_reducible rfl
     rotate_left
     ·simp only [Act.put, sA_q, sZ_q, sS_q, i64_w, i32_w]
      rfl
     refine pure_ (i := 27) (N := some 99) (v := ?_) (a' := ?_) #[true, true, true, true, true, true, true, true, true, true, true, true, true, true, true, true, true, true, true, true, true, true, true, true, false, true, true, true, false, false, false, false, false, false, false, false] rfl rfl (any_of HT_.out (by kernel_rfl)) (fun _ _ _ h => h) (Or.inl ⟨by rfl, ?_⟩) ?_ ?_
     rotate_left
     ·intro w'
      go_simp
      with_reducible rfl
     rotate_left
     ·simp only [Act.put, sA_q, sZ_q, sS_q, i64_w, i32_w]
      rfl
     refine pure_ (i := 28) (N := some 100) (v := ?_) (a' := ?_) #[true, true, true, true, true, true, true, true, true, true, true, true, true, true, true, true, true, true, true, true, true, true, true, true, false, true, true, true, true, false, false, false, false, false, false, false] rfl rfl (any_of HT_.out (by kernel_rfl)) (fun _ _ _ h => h) (Or.inl ⟨by rfl, ?_⟩) ?_ ?_
     rotate_left
     ·intro w'
      go_simp
      with_reducible rfl
     rotate_left
     ·simp only [Act.put, sA_q, sZ_q, sS_q, i64_w, i32_w]
      rfl
     refine pure_ (i := 31) (N := some 103) (v := ?_) (a' := ?_) #[true, true, true, true, true, true, true, true, true, true, true, true, true, true, true, true, true, true, true, true, true, true, true, true, false, true, true, true, true, false, false, true, false, false, false, false] rfl rfl (any_of HT_.out (by kernel_rfl)) (fun _ _ _ h => h) (Or.inl ⟨by rfl, ?_⟩) ?_ ?_
     rotate_left
     ·intro w'
      go_simp
      with_reducible rfl
     rotate_left
     ·simp only [Act.put, sA_q, sZ_q, sS_q, i64_w, i32_w]
      rfl
     refine take_ (i := 24) (N := some 96) (v := ?_) (a' := ?_) #[true, true, true, true, true, true, true, true, true, true, true, true, true, true, true, true, true, true, true, true, true, true, true, true, true, true, true, true, true, false, false, true, false, false, false, false] rfl rfl (take_ofW HT_.out HW_.out (by kernel_rfl)) (fun _ _ _ h => h) (Or.inl ⟨by rfl, ?_⟩) hHeld ?_ ?_
     rotate_left
     ·rintro w' ⟨s0, s1, s2, s3, s4, s5, s6, s7, s8, s9, s10, s11, s12⟩
      go_simp
      with_reducible rfl
     rotate_left
     ·simp only [Act.put, sA_q, sZ_q, sS_q, i64_w, i32_w]
      rfl
     refine take_ (i := 29) (N := some 101) (v := ?_) (a' := ?_) #[true, true, true, true, true, true, true, true, true, true, true, true, true, true, true, true, true, true, true, true, true, true, true, true, true, true, true, true, true, true, false, true, false, false, false, false] rfl rfl (take_ofW HT_.out HW_.out (by kernel_rfl)) (fun _ _ _ h => h) (Or.inl ⟨by rfl, ?_⟩) hHeld ?_ ?_
     rotate_left
     ·rintro w' ⟨s0, s1, s2, s3, s4, s5, s6, s7, s8, s9, s10, s11, s12⟩
      go_simp
      with_reducible rfl
     rotate_left
     ·simp only [Act.put, sA_q, sZ_q, sS_q, i64_w, i32_w]
      rfl
     refine pure_ (i := 30) (N := some 102) (v := ?_) (a' := ?_) #[true, true, true, true, true, true, true, true, true, true, true, true, true, true, true, true, true, true, true, true, true, true, true, true, true, true, true, true, true, true, true, true, false, false, false, false] rfl rfl (any_of HT_.out (by kernel_rfl)) (fun _ _ _ h => h) (Or.inl ⟨by rfl, ?_⟩) ?_ ?_
     rotate_left
     ·intro w'
      go_simp
      with_reducible rfl
     rotate_left
     ·simp only [Act.put, sA_q, sZ_q, sS_q, i64_w, i32_w]
      rfl
     refine take_ (i := 32) (N := some 104) (v := ?_) (a' := ?_) #[true, true, true, true, true, true, true, true, true, true, true, true, true, true, true, true, true, true, true, true, true, true, true, true, true, true, true, true, true, true, true, true, true, false, false, false] rfl rfl (take_ofW HT_.out HW_.out (by kernel_rfl)) (fun _ _ _ h => h) (Or.inl ⟨by rfl, ?_⟩) hHeld ?_ ?_
     rotate_left
     ·rintro w' ⟨s0, s1, s2, s3, s4, s5, s6, s7, s8, s9, s10, s11, s12⟩
      go_simp
      with_reducible rfl
     rotate_left
     ·simp only [Act.put, sA_q, sZ_q, sS_q, i64_w, i32_w]
      rfl
     refine pure_ (i := 33) (N := some 105) (v := ?_) (a' := ?_) #[true, true, true, true, true, true, true, true, true, true, true, true, true, true, true, true, true, true, true, true, true, true, true, true, true, true, true, true, true, true, true, true, true, true, false, false] rfl rfl (any_of HT_.out (by kernel_rfl)) (fun _ _ _ h => h) (Or.inl ⟨by rfl, ?_⟩) ?_ ?_
     rotate_left
     ·intro w'
      go_simp
      with_reducible rfl
     rotate_left
     ·simp only [Act.put, sA_q, sZ_q, sS_q, i64_w, i32_w]
      rfl
     refine pure_ (i := 34) (N := some 106) (v := ?_) (a' := ?_) #[true, true, true, true, true, true, true, true, true, true, true, true, true, true, true, true, true, true, true, true, true, true, true, true, true, true, true, true, true, true, true, true, true, true, true, false] rfl rfl (any_of HT_.out (by kernel_rfl)) (fun _ _ _ h => h) (Or.inl ⟨by rfl, ?_⟩) ?_ ?_
     rotate_left
     ·intro w'
      go_simp
      with_reducible rfl
     rotate_left
     ·simp only [Act.put, sA_q, sZ_q, sS_q, i64_w, i32_w]
      rfl
     refine pure_ (i := 35) (N := some 107) (v := ?_) (a' := ?_) #[true, true, true, true, true, true, true, true, true, true, true, true, true, true, true, true, true, true, true, true, true, true, true, true, true, true, true, true, true, true, true, true, true, true, true, true] rfl rfl (any_of HT_.out (by kernel_rfl)) (fun _ _ _ h => h) (Or.inl ⟨by rfl, ?_⟩) ?_ ?_
     rotate_left
     ·intro w'
      go_simp
      with_reducible rfl
     rotate_left
     ·simp only [Act.put, sA_q, sZ_q, sS_q, i64_w, i32_w]
      rfl
     refine done_ (done_of HT_.out (by kernel_rfl)) ?_
     try go_wp2
     go_roundg k2
     case measure => have := HJ5.out; have := HK2.out; omega
     case rel => exact ⟨(wrap64 (x8_2 + 1)), (by first | rfl | (simp; done) | (simp [*]; done)), H', ⟨by have := HJ5.out; have := HK2.out; omega⟩, ⟨by (with_reducible repeat (first | apply tA_q | apply tN_q | apply tD_q)); exact HO_3.out⟩, ⟨by (with_reducible repeat (first | apply rA_q | apply rN_q | apply rD_q)); exact HO_4.out⟩, ⟨by (with_reducible repeat (first | apply rA_q | apply rN_q | apply rD_q)); exact HO_6.out⟩, ⟨by (with_reducible repeat (first | refine bN_q ?_ _ | refine bW_q ?_ | refine bL_q ?_ _)); exact BK481.out⟩, ⟨by repeat (with_reducible first | exact HB.out | apply bA_q | apply pB_q | apply bD_q | refine bS_q ?_ GE481.out)⟩⟩

def laws_FnHits.Pure : Prop := ∀ (l0 : List Int), l0.length ≤ maxLen → l0.length * 1 ≤ 140737488351232 → (∀ x ∈ l0, (Lit.int .u8 x).wf = true) → ∃ k, laws_FnHits.f k l0 = some true
theorem laws_FnHits.walk (P : laws_FnHits.Pure) (a0 : Option Addr) (len0 cap0 : Nat) (z0 : List Int) (w : World) (w0 : (a0 = none ∧ len0 = 0 ∧ cap0 = 0 ∧ z0 = []) ∨ ∃ x, a0 = some x ∧ len0 ≤ cap0 ∧ cap0 ≤ maxLen ∧ z0.length = cap0 ∧ (∀ i, i < z0.length → w.cell? (x.add i) = some (.int .u8 (z0.getD i 0))) ∧ ∀ n ∈ z0, (Lit.int .u8 n).wf = true) (y0 : len0 * 1 ≤ 140737488351232) :
    Calls Try.prog 8 #[.slice a0 len0 cap0] w fun e w' => e = .returned (.bool true) ∧ Below w.heap.size w w' := by
 obtain ⟨l0, rfl, hr0, hm0, hw0, hc0⟩ := ReadsInt.ofRowC w0
 obtain ⟨k, h⟩ := P l0 hm0 y0 hw0
 refine (laws_FnHits.calls k _ _ l0 true w (Kd.C_of_reads (d := (0 : Int)) (h1 := fun _ => rfl) hr0) hc0 h).mono ?_
 rintro e w' ⟨rfl, hd⟩
 exact ⟨rfl, hd⟩

end Go.Proofs.Ytoaigcdoblnmhaa.PPn
