import Derived.Test.YtnhenfmegpjigaaVIPEvx0
namespace Go.Proofs.Ytnhenfmegpjigaa.PEv
open Go.RowKit Go.Proofs.YtnhenfmegpjigaaW.PrintWords Go.Proofs.YtnhenfmegpjigaaW.PrintLast Go.Proofs.YtnhenfmegpjigaaW.PrintMore
attribute [local go_sem] max2_int min2_int max_two min_two max_three min_three max_four min_four
set_option linter.unusedVariables false
set_option linter.unusedSimpArgs false

def laws_szEventS.f (l0 : List (S65)) (a1 : Int) : Option (Int) := if (wrap64 (a1 - (l0.length : Int))) < 0 then (some (-1)) else (some (wrap64 (a1 - (l0.length : Int))))
set_option maxHeartbeats 8000000 in
set_option maxRecDepth 100000 in
theorem laws_szEventS.calls (A0 : Option Addr) (c0 : Nat) (l0 : List (S65)) (a1 : Int) (r : Int) (w : World) (hr0 : Kd.C k65 w A0 l0.length l0) (hc0 : l0.length ≤ c0) (h : laws_szEventS.f l0 a1 = some r) :
    Calls Try.prog 18 #[.slice A0 l0.length c0, .int .i64 a1] w fun e w' => e = .returned (.int .i64 r) ∧ Drawn0 w w' := by
 have HR0 := Ae_q hr0
 have HC0 := Ae_q hc0
 clear hr0 hc0
 have H : (if (wrap64 (a1 - (l0.length : Int))) < 0 then (some (-1)) else (some (wrap64 (a1 - (l0.length : Int))))) = some r := h
 clear h
 by_cases c3 : (wrap64 (a1 - (l0.length : Int))) < 0
 ·rw [if_pos c3] at H
  have c3b0 : decide ((wrap64 (a1 - (l0.length : Int))) < 0) = true := dT_q c3
  clear c3
  obtain rfl := oI_q H
  go_enter Try.func18, Try.ntmps18
  go_wp2
  go_ret
  exact ⟨by first | rfl | (simp; done) | (simp [*]; done), by repeat (first | exact Drawn0.refl _ | apply Drawn0.step)⟩
 rw [if_neg c3] at H
 have c3b0 : decide ((wrap64 (a1 - (l0.length : Int))) < 0) = false := dF_q c3
 clear c3
 obtain rfl := oI_q H
 go_enter Try.func18, Try.ntmps18
 go_wp2
 go_ret
 exact ⟨by first | rfl | (simp; done) | (simp [*]; done), by repeat (first | exact Drawn0.refl _ | apply Drawn0.step)⟩

def laws_toEvent.f (a0_0 : Int) (a0_1 : Int) (a0_2 : Int) (a0_3 : Int) (a0_4 : Int) (a0_5 : Int) : Option (Int × Int × Int × Int × Int × Int) := some (a0_0, a0_1, a0_2, a0_3, a0_4, a0_5)
set_option maxHeartbeats 8000000 in
set_option maxRecDepth 100000 in
theorem laws_toEvent.calls (a0_0 : Int) (a0_1 : Int) (a0_2 : Int) (a0_3 : Int) (a0_4 : Int) (a0_5 : Int) (r1 : Int) (r2 : Int) (r3 : Int) (r4 : Int) (r5 : Int) (r6 : Int) (w : World) (h : laws_toEvent.f a0_0 a0_1 a0_2 a0_3 a0_4 a0_5 = some (r1, r2, r3, r4, r5, r6)) :
    Calls Try.prog 47 #[.agg #[.int .i64 a0_0, .int .i64 a0_1, .int .i64 a0_2, .int .i64 a0_3, .int .i64 a0_4, .int .i64 a0_5]] w fun e w' => e = .returned (.agg #[.int .i64 r1, .int .i64 r2, .int .i64 r3, .int .i64 r4, .int .i64 r5, .int .i64 r6]) ∧ Below w.heap.size w w' := by
 have hu65 := Try.underlying65
 have hu27 := Try.underlying27
 have HB := Ae_q (bR_q w.heap.size w)
 have H : (some (a0_0, a0_1, a0_2, a0_3, a0_4, a0_5)) = some (r1, r2, r3, r4, r5, r6) := h
 clear h
 simp only [oE_q, pE_q] at H
 obtain ⟨rfl, rfl, rfl, rfl, rfl, rfl⟩ := H
 go_enter Try.func47, Try.ntmps47
 go_wp2_with (first | ((with_reducible refine gD_q (N := 1) rfl ?_); refine bE_q ?hg (N := 1) ?hd (cs := #[.int .i64 a0_0, .int .i64 a0_1, .int .i64 a0_2, .int .i64 a0_3, .int .i64 a0_4, .int .i64 a0_5]) (t := 65) ?hr ?_; (case hd => rfl); (case hg => rfl); (case hr => first | (go_simp; done) | (go_simp; rfl)); intro gb228 hg w2 hbox hb; have n0_ := Ae_q (bT_q (bel HB.out) hb); have n1_ := Ae_q (hbox); have n2_ := Ae_q ((by rw [hg]; exact (bZ_q (bel HB.out)) : w.heap.size ≤ gb228)); have n3_ := Ae_q ((by rw [hg]; exact (bZ_q (bel HB.out)) : w.heap.size ≤ gb228)); clear HB; have HB := n0_; have BK228 := n1_; have GW228 := n2_; have GE228 := n3_; clear n0_ n1_ n2_ n3_; clear hb hbox hg) | ((with_reducible refine gD_q (N := 2) rfl ?_); refine bE_q ?hg (N := 2) ?hd (cs := #[.int .i64 0, .int .i64 0, .int .i64 0, .int .i64 0, .int .i64 0, .int .i64 0]) (t := 27) ?hr ?_; (case hd => rfl); (case hg => rfl); (case hr => first | (go_simp; done) | (go_simp; rfl)); intro gb229 hg w3 hbox hb; have n0_ := Ae_q (bB_q (g := gb228) (o := .cells #[.int .i64 a0_0, .int .i64 a0_1, .int .i64 a0_2, .int .i64 a0_3, .int .i64 a0_4, .int .i64 a0_5] 65 (0, 0)) (bup BK228.out) hb); have n1_ := Ae_q (bT_q (by repeat (with_reducible first | exact HB.out | apply bA_q | apply pB_q | apply bD_q | refine bS_q ?_ GE228.out)) hb); have n2_ := Ae_q (hbox); have n3_ := Ae_q ((by rw [hg]; exact (bZ_q (by repeat (with_reducible first | exact HB.out | apply bA_q | apply pB_q | apply bD_q | refine bS_q ?_ GE228.out))) : w.heap.size ≤ gb229)); have n4_ := Ae_q ((by rw [hg]; exact (bZ_q (by repeat (with_reducible first | exact HB.out | apply bA_q | apply pB_q | apply bD_q | refine bS_q ?_ GE228.out))) : w.heap.size ≤ gb229)); have n5_ := Ae_q ((by rw [hg]; exact nL_q (blk_lt (g := gb228) (o := .cells #[.int .i64 a0_0, .int .i64 a0_1, .int .i64 a0_2, .int .i64 a0_3, .int .i64 a0_4, .int .i64 a0_5] 65 (0, 0)) (bup BK228.out)) : gb228 ≠ gb229)); have n6_ := Ae_q ((by rw [hg]; exact nG_q (blk_lt (g := gb228) (o := .cells #[.int .i64 a0_0, .int .i64 a0_1, .int .i64 a0_2, .int .i64 a0_3, .int .i64 a0_4, .int .i64 a0_5] 65 (0, 0)) (bup BK228.out)) : gb229 ≠ gb228)); clear BK228; clear HB; have BK228 := n0_; have HB := n1_; have BK229 := n2_; have GW229 := n3_; have GE229 := n4_; have NB228_229 := n5_; have NB229_228 := n6_; clear n0_ n1_ n2_ n3_ n4_ n5_ n6_; clear hb hbox hg) | ((with_reducible refine gD_q (N := 3) rfl ?_); refine bE_q ?hg (N := 3) ?hd (cs := #[.int .i64 0, .int .i64 0, .int .i64 0, .int .i64 0, .int .i64 0, .int .i64 0]) (t := 27) ?hr ?_; (case hd => rfl); (case hg => rfl); (case hr => first | (go_simp; done) | (go_simp; rfl)); intro gb230 hg w4 hbox hb; have n0_ := Ae_q (bB_q (g := gb228) (o := .cells #[.int .i64 a0_0, .int .i64 a0_1, .int .i64 a0_2, .int .i64 a0_3, .int .i64 a0_4, .int .i64 a0_5] 65 (0, 0)) (bup BK228.out) hb); have n1_ := Ae_q (bB_q (g := gb229) (o := .cells #[.int .i64 0, .int .i64 0, .int .i64 0, .int .i64 0, .int .i64 0, .int .i64 0] 27 (0, 0)) (bup BK229.out) hb); have n2_ := Ae_q (bT_q (by repeat (with_reducible first | exact HB.out | apply bA_q | apply pB_q | apply bD_q | refine bS_q ?_ GE228.out | refine bS_q ?_ GE229.out)) hb); have n3_ := Ae_q (hbox); have n4_ := Ae_q ((by rw [hg]; exact (bZ_q (by repeat (with_reducible first | exact HB.out | apply bA_q | apply pB_q | apply bD_q | refine bS_q ?_ GE228.out | refine bS_q ?_ GE229.out))) : w.heap.size ≤ gb230)); have n5_ := Ae_q ((by rw [hg]; exact (bZ_q (by repeat (with_reducible first | exact HB.out | apply bA_q | apply pB_q | apply bD_q | refine bS_q ?_ GE228.out | refine bS_q ?_ GE229.out))) : w.heap.size ≤ gb230)); have n6_ := Ae_q ((by rw [hg]; exact nL_q (blk_lt (g := gb228) (o := .cells #[.int .i64 a0_0, .int .i64 a0_1, .int .i64 a0_2, .int .i64 a0_3, .int .i64 a0_4, .int .i64 a0_5] 65 (0, 0)) (bup BK228.out)) : gb228 ≠ gb230)); have n7_ := Ae_q ((by rw [hg]; exact nG_q (blk_lt (g := gb228) (o := .cells #[.int .i64 a0_0, .int .i64 a0_1, .int .i64 a0_2, .int .i64 a0_3, .int .i64 a0_4, .int .i64 a0_5] 65 (0, 0)) (bup BK228.out)) : gb230 ≠ gb228)); have n8_ := Ae_q ((by rw [hg]; exact nL_q (blk_lt (g := gb229) (o := .cells #[.int .i64 0, .int .i64 0, .int .i64 0, .int .i64 0, .int .i64 0, .int .i64 0] 27 (0, 0)) (bup BK229.out)) : gb229 ≠ gb230)); have n9_ := Ae_q ((by rw [hg]; exact nG_q (blk_lt (g := gb229) (o := .cells #[.int .i64 0, .int .i64 0, .int .i64 0, .int .i64 0, .int .i64 0, .int .i64 0] 27 (0, 0)) (bup BK229.out)) : gb230 ≠ gb229)); clear BK228; clear BK229; clear HB; have BK228 := n0_; have BK229 := n1_; have HB := n2_; have BK230 := n3_; have GW230 := n4_; have GE230 := n5_; have NB228_230 := n6_; have NB230_228 := n7_; have NB229_230 := n8_; have NB230_229 := n9_; clear n0_ n1_ n2_ n3_ n4_ n5_ n6_ n7_ n8_ n9_; clear hb hbox hg; have hnb5 := NB228_229.out; have hnc5 := NB229_228.out; have hnb6 := NB228_230.out; have hnc6 := NB230_228.out; have hcz7_0 : w4.cell? ⟨gb228, 0, none⟩ = some (.int .i64 a0_0) := (bC_q BK228.out 0).trans rfl; have hcz7_1 : w4.cell? ⟨gb228, 1, none⟩ = some (.int .i64 a0_1) := (bC_q BK228.out 1).trans rfl; have hcz7_2 : w4.cell? ⟨gb228, 2, none⟩ = some (.int .i64 a0_2) := (bC_q BK228.out 2).trans rfl; have hcz7_3 : w4.cell? ⟨gb228, 3, none⟩ = some (.int .i64 a0_3) := (bC_q BK228.out 3).trans rfl; have hcz7_4 : w4.cell? ⟨gb228, 4, none⟩ = some (.int .i64 a0_4) := (bC_q BK228.out 4).trans rfl; have hcz7_5 : w4.cell? ⟨gb228, 5, none⟩ = some (.int .i64 a0_5) := (bC_q BK228.out 5).trans rfl; have hfz7_0 := bF_q BK228.out 0; have hfz7_1 := bF_q BK228.out 1; have hfz7_2 := bF_q BK228.out 2; have hfz7_3 := bF_q BK228.out 3; have hfz7_4 := bF_q BK228.out 4; have hfz7_5 := bF_q BK228.out 5; have hnb8 := NB230_229.out; have hnc8 := NB229_230.out; have hcz9_0 : w4.cell? ⟨gb230, 0, none⟩ = some (.int .i64 0) := (bC_q BK230.out 0).trans rfl; have hcz9_1 : w4.cell? ⟨gb230, 1, none⟩ = some (.int .i64 0) := (bC_q BK230.out 1).trans rfl; have hcz9_2 : w4.cell? ⟨gb230, 2, none⟩ = some (.int .i64 0) := (bC_q BK230.out 2).trans rfl; have hcz9_3 : w4.cell? ⟨gb230, 3, none⟩ = some (.int .i64 0) := (bC_q BK230.out 3).trans rfl; have hcz9_4 : w4.cell? ⟨gb230, 4, none⟩ = some (.int .i64 0) := (bC_q BK230.out 4).trans rfl; have hcz9_5 : w4.cell? ⟨gb230, 5, none⟩ = some (.int .i64 0) := (bC_q BK230.out 5).trans rfl; have hfz9_0 := bF_q BK230.out 0; have hfz9_1 := bF_q BK230.out 1; have hfz9_2 := bF_q BK230.out 2; have hfz9_3 := bF_q BK230.out 3; have hfz9_4 := bF_q BK230.out 4; have hfz9_5 := bF_q BK230.out 5; have hcz10_0 : w4.cell? ⟨gb229, 0, none⟩ = some (.int .i64 0) := (bC_q BK229.out 0).trans rfl; have hcz10_1 : w4.cell? ⟨gb229, 1, none⟩ = some (.int .i64 0) := (bC_q BK229.out 1).trans rfl; have hcz10_2 : w4.cell? ⟨gb229, 2, none⟩ = some (.int .i64 0) := (bC_q BK229.out 2).trans rfl; have hcz10_3 : w4.cell? ⟨gb229, 3, none⟩ = some (.int .i64 0) := (bC_q BK229.out 3).trans rfl; have hcz10_4 : w4.cell? ⟨gb229, 4, none⟩ = some (.int .i64 0) := (bC_q BK229.out 4).trans rfl; have hcz10_5 : w4.cell? ⟨gb229, 5, none⟩ = some (.int .i64 0) := (bC_q BK229.out 5).trans rfl; have hfz10_0 := bF_q BK229.out 0; have hfz10_1 := bF_q BK229.out 1; have hfz10_2 := bF_q BK229.out 2; have hfz10_3 := bF_q BK229.out 3; have hfz10_4 := bF_q BK229.out 4; have hfz10_5 := bF_q BK229.out 5))
 refine bodyPost_ret (results_cell_row rfl _ _ gb229 27 #[.int .i64 a0_0, .int .i64 a0_1, .int .i64 a0_2, .int .i64 a0_3, .int .i64 a0_4, .int .i64 a0_5] (0, 0) _ rfl (by (with_reducible repeat (first | refine bN_q ?_ _ | refine bW_q ?_ | refine bL_q ?_ _)); refine blk_put (cs := #[.int .i64 a0_0, .int .i64 a0_1, .int .i64 a0_2, .int .i64 a0_3, .int .i64 a0_4, .int .i64 0]) ?_ 5 _ rfl; (with_reducible repeat (first | refine bN_q ?_ _ | refine bW_q ?_ | refine bL_q ?_ _)); refine blk_put (cs := #[.int .i64 a0_0, .int .i64 a0_1, .int .i64 a0_2, .int .i64 a0_3, .int .i64 0, .int .i64 0]) ?_ 4 _ rfl; (with_reducible repeat (first | refine bN_q ?_ _ | refine bW_q ?_ | refine bL_q ?_ _)); refine blk_put (cs := #[.int .i64 a0_0, .int .i64 a0_1, .int .i64 a0_2, .int .i64 0, .int .i64 0, .int .i64 0]) ?_ 3 _ rfl; (with_reducible repeat (first | refine bN_q ?_ _ | refine bW_q ?_ | refine bL_q ?_ _)); refine blk_put (cs := #[.int .i64 a0_0, .int .i64 a0_1, .int .i64 0, .int .i64 0, .int .i64 0, .int .i64 0]) ?_ 2 _ rfl; (with_reducible repeat (first | refine bN_q ?_ _ | refine bW_q ?_ | refine bL_q ?_ _)); refine blk_put (cs := #[.int .i64 a0_0, .int .i64 0, .int .i64 0, .int .i64 0, .int .i64 0, .int .i64 0]) ?_ 1 _ rfl; (with_reducible repeat (first | refine bN_q ?_ _ | refine bW_q ?_ | refine bL_q ?_ _)); refine blk_put (cs := #[.int .i64 0, .int .i64 0, .int .i64 0, .int .i64 0, .int .i64 0, .int .i64 0]) ?_ 0 _ rfl; (with_reducible repeat (first | refine bN_q ?_ _ | refine bW_q ?_ | refine bL_q ?_ _)); refine blk_far ?_ NB229_230.out _; (with_reducible repeat (first | refine bN_q ?_ _ | refine bW_q ?_ | refine bL_q ?_ _)); refine blk_far ?_ NB229_230.out _; (with_reducible repeat (first | refine bN_q ?_ _ | refine bW_q ?_ | refine bL_q ?_ _)); refine blk_far ?_ NB229_230.out _; (with_reducible repeat (first | refine bN_q ?_ _ | refine bW_q ?_ | refine bL_q ?_ _)); refine blk_far ?_ NB229_230.out _; (with_reducible repeat (first | refine bN_q ?_ _ | refine bW_q ?_ | refine bL_q ?_ _)); refine blk_far ?_ NB229_230.out _; (with_reducible repeat (first | refine bN_q ?_ _ | refine bW_q ?_ | refine bL_q ?_ _)); refine blk_far ?_ NB229_230.out _; (with_reducible repeat (first | refine bN_q ?_ _ | refine bW_q ?_ | refine bL_q ?_ _)); exact BK229.out) Try.underlying27 rfl (by kernel_rfl)) rfl ?_
 exact ⟨by first | rfl | (simp [eN_q, eS_q] <;> rfl) | (simp [*, eN_q, eS_q] <;> rfl), by repeat (with_reducible first | exact HB.out | apply bA_q | apply pB_q | apply bD_q | refine bS_q ?_ GE228.out | refine bS_q ?_ GE229.out | refine bS_q ?_ GE230.out)⟩

def laws_toEventS.l0 : Nat → List (S65) → List (S27) → Int → Option ((List (S27)))
 | 0, _, _, _ => none
 | k + 1, x0, x3, x4 => if x4 < (x0.length : Int) then (if 0 ≤ x4 then ((laws_toEvent.f ((rd_T65 x0 x4).f0) ((rd_T65 x0 x4).f1) ((rd_T65 x0 x4).f2) ((rd_T65 x0 x4).f3) ((rd_T65 x0 x4).f4) ((rd_T65 x0 x4).f5)).bind fun bt235 => (if x4 < (x3.length : Int) then (laws_toEventS.l0 k x0 (x3.set (x4 : Int).toNat (⟨bt235.1, bt235.2.1, bt235.2.2.1, bt235.2.2.2.1, bt235.2.2.2.2.1, bt235.2.2.2.2.2⟩ : S27)) (wrap64 (x4 + 1))) else (none))) else (none)) else (some x3)
def laws_toEventS.f (k : Nat) (l0 : List (S65)) : Option ((List (S27))) := if 0 ≤ (l0.length : Int) then (if ((l0.length : Int) : Int).toNat ≤ 5864062014805 then (laws_toEventS.l0 k l0 (List.replicate ((l0.length : Int) : Int).toNat z27) 0) else (none)) else (none)
set_option maxHeartbeats 8000000 in
set_option maxRecDepth 100000 in
theorem laws_toEventS.calls (k : Nat) (A0 : Option Addr) (c0 : Nat) (l0 : List (S65)) (r : List (S27)) (w : World) (hr0 : Kd.C k65 w A0 l0.length l0) (hc0 : l0.length ≤ c0) (h : laws_toEventS.f k l0 = some r) :
    Calls Try.prog 19 #[.slice A0 l0.length c0] w fun e w' => ∃ v0_ : Value, e = .returned (v0_) ∧ Kd.R k27 27 w' w.heap.size (fun _ => True) v0_ r ∧ Below w.heap.size w w' := by
 have hu65 := Try.underlying65
 have hu27 := Try.underlying27
 have HR0 := Ae_q hr0
 have HC0 := Ae_q hc0
 clear hr0 hc0
 have HB := Ae_q (bR_q w.heap.size w)
 have H : (if 0 ≤ (l0.length : Int) then (if ((l0.length : Int) : Int).toNat ≤ 5864062014805 then (laws_toEventS.l0 k l0 (List.replicate ((l0.length : Int) : Int).toNat z27) 0) else (none)) else (none)) = some r := h
 clear h
 by_cases c2 : 0 ≤ (l0.length : Int)
 rotate_left
 ·rw [if_neg c2] at H
  exact absurd H (by simp)
 rw [if_pos c2] at H
 have c2b0 := eq_true c2
 have c2b1 : decide (0 ≤ (l0.length : Int)) = true := dT_q c2
 clear c2
 by_cases c3 : ((l0.length : Int) : Int).toNat ≤ 5864062014805
 rotate_left
 ·rw [if_neg c3] at H
  exact absurd H (by simp)
 rw [if_pos c3] at H
 have c3b0 := eq_true c3
 have c3b1 : decide (((l0.length : Int) : Int).toNat ≤ 5864062014805) = true := dT_q c3
 clear c3
 obtain ⟨y231, hy231⟩ : ∃ y_ : List (S27), y_ = (List.replicate ((l0.length : Int) : Int).toNat z27) := ⟨_, rfl⟩
 replace H : (laws_toEventS.l0 k l0 y231 0) = some r := by first | (rw [hy231]; with_reducible exact H) | (have H2_ := (oS_q _ _).symm.trans H; rw [hy231]; with_reducible exact H2_) | (have H2_ := (oS_q _ _).symm.trans H; with_reducible exact H2_) | with_reducible exact H | (rw [hy231]; exact H) | exact H
 have Ny231 := Ae_q hy231
 clear hy231
 have H' := Ae_q H
 clear H
 go_enter Try.func19, Try.ntmps19
 go_wp2_with (first | ((with_reducible refine gD_q (N := 7) rfl ?_); refine Kd.R_make k27 _ 27 rfl (N := 7) rfl 23 _ _ rfl (l0.length : Int) rfl rfl Try.underlying23 (.agg #[(.int .i64 0), (.int .i64 0), (.int .i64 0), (.int .i64 0), (.int .i64 0), (.int .i64 0)]) 48 info27 rfl (by decide) (by omega) z27 (ok := fun _ => True) (okp := fun _ => True) (k27_mkM _ _ _ z27 ) (fun _ hk => hk) trivial (oD_q (by assumption)) (nT_q (Nat.mul_le_mul_right _ (oD_q (by assumption) : (l0.length : Int).toNat ≤ 5864062014805)) (by omega)) (bR_q _ _) (nR_q _) ?_; intro v232 w4 ho5 hb hg_ hnew_; clear hg_ hnew_; (first | rw [← Ny231.out] at ho5 | (simp only [Int.reduceToNat] at ho5; rw [← Ny231.out] at ho5)); have n0_ := Ae_q (rL_q ho5 (bZ_q (bel HB.out))); have n1_ := Ae_q (bT_q (bel HB.out) hb); clear HB; have HO233 := n0_; have HB := n1_; clear n0_ n1_; clear hb ho5))
 go_loopg [4] k (fun kq v4 w' => ∃ (x3_1 : List (S27)) (x4_1 : Int), v4 = .int .i64 x4_1 ∧ Aside0 (laws_toEventS.l0 kq l0 x3_1 x4_1 = some r) ∧ Aside0 (kq ≤ k) ∧ Aside0 (Kd.R k27 27 w' w.heap.size (fun _ => True) v232 x3_1) ∧ Aside0 (Below w.heap.size w w'))
 case atStart => exact ⟨(y231), (0), (by first | rfl | (simp; done) | (simp [*]; done)), H', ⟨nR_q _⟩, ⟨by (with_reducible repeat (first | apply rA_q | apply rN_q | apply rD_q)); exact HO233.out⟩, ⟨bel HB.out⟩⟩
 case round =>
  clear H'
  try clear c1
  try clear c2
  try clear c2b0
  try clear c2b1
  try clear p2
  try clear c3
  try clear c3b0
  try clear c3b1
  obtain ⟨x3_1, x4_1, rfl, HA, HK1, HO_3, HB⟩ := hrel
  cases gk with
  | zero => exact absurd HA.out (by simp [laws_toEventS.l0])
  | succ k1 =>
   have H := HA.out
   clear HA
   simp only [laws_toEventS.l0] at H
   by_cases c6 : x4_1 < (l0.length : Int)
   rotate_left
   ·rw [if_neg c6] at H
    have c6b0 : decide (x4_1 < (l0.length : Int)) = false := dF_q c6
    clear c6
    obtain rfl := oI_q H
    go_wp2
    go_ret
    exact ⟨_, by first | rfl | (simp [eN_q, eS_q] <;> rfl) | (simp [*, eN_q, eS_q] <;> rfl), by (with_reducible repeat (first | apply rA_q | apply rN_q | apply rD_q)); exact HO_3.out, bel HB.out⟩
   rw [if_pos c6] at H
   have c6b0 : decide (x4_1 < (l0.length : Int)) = true := dT_q c6
   clear c6
   by_cases c7 : 0 ≤ x4_1
   rotate_left
   ·rw [if_neg c7] at H
    exact absurd H (by simp)
   rw [if_pos c7] at H
   have c7b0 : decide (0 ≤ x4_1) = true := dT_q c7
   clear c7
   replace H := oB_q.mp H
   obtain ⟨⟨t235, t236, t237, t238, t239, t240⟩, A80, H⟩ := H
   replace H : (if x4_1 < (x3_1.length : Int) then (laws_toEventS.l0 k1 l0 (x3_1.set (x4_1 : Int).toNat (⟨t235, t236, t237, t238, t239, t240⟩ : S27)) (wrap64 (x4_1 + 1))) else (none)) = some r := H
   have A8 := Ae_q A80
   clear A80
   by_cases c9 : x4_1 < (x3_1.length : Int)
   rotate_left
   ·rw [if_neg c9] at H
    exact absurd H (by simp)
   rw [if_pos c9] at H
   have c9b0 : decide (x4_1 < (x3_1.length : Int)) = true := dT_q c9
   clear c9
   obtain ⟨y241, hy241⟩ : ∃ y_ : List (S27), y_ = (x3_1.set (x4_1 : Int).toNat (⟨t235, t236, t237, t238, t239, t240⟩ : S27)) := ⟨_, rfl⟩
   replace H : (laws_toEventS.l0 k1 l0 y241 (wrap64 (x4_1 + 1))) = some r := by first | (rw [hy241]; with_reducible exact H) | (have H2_ := (oS_q _ _).symm.trans H; rw [hy241]; with_reducible exact H2_) | (have H2_ := (oS_q _ _).symm.trans H; with_reducible exact H2_) | with_reducible exact H | (rw [hy241]; exact H) | exact H
   have Ny241 := Ae_q hy241
   clear hy241
   have H' := Ae_q H
   clear H
   have p234 : 0 ≤ (x4_1 : Int) := oD_q (by assumption)
   have q234 : x4_1 < (l0.length : Int) := oD_q (by assumption)
   obtain ⟨ad234, e234, hx234_0, hx234_1, hx234_2, hx234_3, hx234_4, hx234_5⟩ := at_T65 HR0.out x4_1 p234 q234
   cases e234
   replace hx234_0 := cel HB.out hx234_0
   replace hx234_1 := cel HB.out hx234_1
   replace hx234_2 := cel HB.out hx234_2
   replace hx234_3 := cel HB.out hx234_3
   replace hx234_4 := cel HB.out hx234_4
   replace hx234_5 := cel HB.out hx234_5
   replace p234 := eq_true p234
   replace q234 := eq_true q234
   go_wp2_with (first | ((with_reducible refine gC_q (f := 47) rfl ?_); refine gL_q (some 20) rfl rfl Try.func47 (by kernel_rfl) rfl #[.agg #[.int .i64 ((rd_T65 l0 x4_1).f0), .int .i64 ((rd_T65 l0 x4_1).f1), .int .i64 ((rd_T65 l0 x4_1).f2), .int .i64 ((rd_T65 l0 x4_1).f3), .int .i64 ((rd_T65 l0 x4_1).f4), .int .i64 ((rd_T65 l0 x4_1).f5)]] rfl (by (try simp only [lM_q, lC_q, lN_q]); first | done | rfl | (simp only [lD_q, lT_q]; rfl)) ?_; (with_reducible refine (laws_toEvent.calls ((rd_T65 l0 x4_1).f0) ((rd_T65 l0 x4_1).f1) ((rd_T65 l0 x4_1).f2) ((rd_T65 l0 x4_1).f3) ((rd_T65 l0 x4_1).f4) ((rd_T65 l0 x4_1).f5) t235 t236 t237 t238 t239 t240 _ A8.out).mono ?_); rintro e w11 ⟨rfl, hb⟩; refine ⟨_, rfl, ?_⟩; have n0_ := Ae_q (rO_q (rup HO_3.out) hb); have n1_ := Ae_q (bT_q (bel HB.out) hb); clear HO_3; clear HB; have HO_3 := n0_; have HB := n1_; clear n0_ n1_; (try clear hb); (try clear hb2); (try clear hk); (try clear hi); have p10 : 0 ≤ (x4_1 : Int) := oD_q (by assumption); have q10 : (x4_1 : Int) < ((x3_1.length : Int) : Int) := oD_q (by assumption); obtain ⟨go10, co10, eo10, gb10, gl10, cl10, HG10⟩ := Kd.R_form HO_3.out (by omega); (first | cases eo10 | (injection eo10 with ea_ en_ ec_; (first | subst ea_ | (injection ea_ with ea_; subst ea_)); subst ec_; clear en_)); have GB10 := Ae_q gb10; have GG10 := Ae_q HG10; clear gb10 gl10 HG10; obtain ⟨ce10, hcl10, hM10, hcc10, hfr10⟩ := Kd.R_elem HO_3.out z27 (x4_1 : Int) p10 q10; obtain rfl := k27_openM hM10; have hx10_0 : w11.cell? ⟨go10, (x4_1 : Int).toNat * 6, none⟩ = some (.int .i64 ((rd_T27 x3_1 x4_1).f0)) := hcc10 0 _ rfl; have hx10_1 : w11.cell? ⟨go10, (x4_1 : Int).toNat * 6 + 1, none⟩ = some (.int .i64 ((rd_T27 x3_1 x4_1).f1)) := hcc10 1 _ rfl; have hx10_2 : w11.cell? ⟨go10, (x4_1 : Int).toNat * 6 + 2, none⟩ = some (.int .i64 ((rd_T27 x3_1 x4_1).f2)) := hcc10 2 _ rfl; have hx10_3 : w11.cell? ⟨go10, (x4_1 : Int).toNat * 6 + 3, none⟩ = some (.int .i64 ((rd_T27 x3_1 x4_1).f3)) := hcc10 3 _ rfl; have hx10_4 : w11.cell? ⟨go10, (x4_1 : Int).toNat * 6 + 4, none⟩ = some (.int .i64 ((rd_T27 x3_1 x4_1).f4)) := hcc10 4 _ rfl; have hx10_5 : w11.cell? ⟨go10, (x4_1 : Int).toNat * 6 + 5, none⟩ = some (.int .i64 ((rd_T27 x3_1 x4_1).f5)) := hcc10 5 _ rfl; have hf10_0 : w11.frozen? ⟨go10, (x4_1 : Int).toNat * 6, none⟩ = false := hfr10 0; have hf10_1 : w11.frozen? ⟨go10, (x4_1 : Int).toNat * 6 + 1, none⟩ = false := hfr10 1; have hf10_2 : w11.frozen? ⟨go10, (x4_1 : Int).toNat * 6 + 2, none⟩ = false := hfr10 2; have hf10_3 : w11.frozen? ⟨go10, (x4_1 : Int).toNat * 6 + 3, none⟩ = false := hfr10 3; have hf10_4 : w11.frozen? ⟨go10, (x4_1 : Int).toNat * 6 + 4, none⟩ = false := hfr10 4; have hf10_5 : w11.frozen? ⟨go10, (x4_1 : Int).toNat * 6 + 5, none⟩ = false := hfr10 5; clear hcl10 hcc10 hfr10 hM10; replace p10 := eq_true p10; replace q10 := eq_true q10; have HX12 := Ae_q (show Kd.R k27 27 w11 w.heap.size (fun _ => True) (.slice (some ⟨go10, 0, none⟩) x3_1.length co10) x3_1 from (rup HO_3.out)); obtain ⟨ce12, hcl12, hM12, hcc12, hfr12⟩ := Kd.R_elem HX12.out z27 (x4_1 : Int) (oD_q (by assumption)) (by have h_ : (x4_1 : Int) < ((x3_1.length : Int) : Int) := oD_q (by assumption); first | exact h_ | (have e_ := (rR_q HO_3.out).1; omega) | simpa using h_); obtain rfl := k27_openM hM12; have HP12 := Kd.R_seg HX12.out (x4_1 : Int) (oD_q (by assumption)) (by have h_ : (x4_1 : Int) < ((x3_1.length : Int) : Int) := oD_q (by assumption); first | exact h_ | (have e_ := (rR_q HO_3.out).1; omega) | simpa using h_) (seg := [.int .i64 t235, .int .i64 t236, .int .i64 t237, .int .i64 t238, .int .i64 t239, .int .i64 t240]) (j := 0) hcl12 hcc12 (show 6 ≤ 6 from by decide) (x' := (⟨t235, t236, t237, t238, t239, t240⟩ : S27)) (k27_mkM _ _ _ (⟨t235, t236, t237, t238, t239, t240⟩ : S27) ) (fun _ hk => hk); have hx12_0 := hcc12 0 _ rfl; (try simp only [show (k27).sz = 6 from rfl, Nat.mul_one, Nat.add_zero] at hx12_0); have hf12_0 := hfr12 0; (try simp only [show (k27).sz = 6 from rfl, Nat.mul_one, Nat.add_zero] at hf12_0); have hx12_1 := hcc12 1 _ rfl; (try simp only [show (k27).sz = 6 from rfl, Nat.mul_one, Nat.add_zero] at hx12_1); have hf12_1 := hfr12 1; (try simp only [show (k27).sz = 6 from rfl, Nat.mul_one, Nat.add_zero] at hf12_1); have hx12_2 := hcc12 2 _ rfl; (try simp only [show (k27).sz = 6 from rfl, Nat.mul_one, Nat.add_zero] at hx12_2); have hf12_2 := hfr12 2; (try simp only [show (k27).sz = 6 from rfl, Nat.mul_one, Nat.add_zero] at hf12_2); have hx12_3 := hcc12 3 _ rfl; (try simp only [show (k27).sz = 6 from rfl, Nat.mul_one, Nat.add_zero] at hx12_3); have hf12_3 := hfr12 3; (try simp only [show (k27).sz = 6 from rfl, Nat.mul_one, Nat.add_zero] at hf12_3); have hx12_4 := hcc12 4 _ rfl; (try simp only [show (k27).sz = 6 from rfl, Nat.mul_one, Nat.add_zero] at hx12_4); have hf12_4 := hfr12 4; (try simp only [show (k27).sz = 6 from rfl, Nat.mul_one, Nat.add_zero] at hf12_4); have hx12_5 := hcc12 5 _ rfl; (try simp only [show (k27).sz = 6 from rfl, Nat.mul_one, Nat.add_zero] at hx12_5); have hf12_5 := hfr12 5; (try simp only [show (k27).sz = 6 from rfl, Nat.mul_one, Nat.add_zero] at hf12_5); clear hcl12 hcc12 hfr12 hM12) | ((with_reducible refine gate_store (t := 27) (p := 21) rfl ?_); refine store_event (t := 27) (p := 21) (v := ?vo_w13) (w1 := ((((((w11.setCell ⟨go10, (x4_1 : Int).toNat * 6, none⟩ (.int .i64 t235)).setCell ⟨go10, (x4_1 : Int).toNat * 6 + 1, none⟩ (.int .i64 t236)).setCell ⟨go10, (x4_1 : Int).toNat * 6 + 2, none⟩ (.int .i64 t237)).setCell ⟨go10, (x4_1 : Int).toNat * 6 + 3, none⟩ (.int .i64 t238)).setCell ⟨go10, (x4_1 : Int).toNat * 6 + 4, none⟩ (.int .i64 t239)).setCell ⟨go10, (x4_1 : Int).toNat * 6 + 5, none⟩ (.int .i64 t240))) ?hg ?ho ?hn ?hr ?_; (case ho => rfl); (case hg => rfl); (case hn => rfl); (case hr => first | (go_simp; done) | (go_simp; rfl)); intro w13 hw; have hg : w11.grownBy w13 (some go10) := (by rw [hw]; exact HP12.2); have hp_ : Kd.R k27 27 w13 w.heap.size (fun _ => True) (.slice (some ⟨go10, 0, none⟩) x3_1.length co10) y241 := (by rw [hw, Ny241.out]; exact HP12.1); clear HP12; have n0_ := Ae_q (hp_); have n1_ := Ae_q ((by rw [hw]; exact bS_q (bS_q (bS_q (bS_q (bS_q (bS_q (HB.out) GB10.out) GB10.out) GB10.out) GB10.out) GB10.out) GB10.out : Below w.heap.size w w13)); clear HO_3; clear HB; have HO_3 := n0_; have HB := n1_; clear n0_ n1_; clear hg hw hp_))
   go_roundg k1
   case measure => have := HK1.out; omega
   case rel => exact ⟨(y241), (wrap64 (x4_1 + 1)), (by first | rfl | (simp; done) | (simp [*]; done)), H', ⟨by have := HK1.out; omega⟩, ⟨by (with_reducible repeat (first | apply rA_q | apply rN_q | apply rD_q)); exact HO_3.out⟩, ⟨bel HB.out⟩⟩

def laws_eqEvent.f (a0_0 : Int) (a0_1 : Int) (a0_2 : Int) (a0_3 : Int) (a0_4 : Int) (a0_5 : Int) (a1_0 : Int) (a1_1 : Int) (a1_2 : Int) (a1_3 : Int) (a1_4 : Int) (a1_5 : Int) : Option (Bool) := if a0_0 = a1_0 then (if a0_1 = a1_1 then (if a0_2 = a1_2 then (if a0_3 = a1_3 then (if a0_4 = a1_4 then (if a0_5 = a1_5 then (some true) else (some false)) else (some false)) else (some false)) else (some false)) else (some false)) else (some false)
set_option maxHeartbeats 8000000 in
set_option maxRecDepth 100000 in
theorem laws_eqEvent.calls (a0_0 : Int) (a0_1 : Int) (a0_2 : Int) (a0_3 : Int) (a0_4 : Int) (a0_5 : Int) (a1_0 : Int) (a1_1 : Int) (a1_2 : Int) (a1_3 : Int) (a1_4 : Int) (a1_5 : Int) (r : Bool) (w : World) (h : laws_eqEvent.f a0_0 a0_1 a0_2 a0_3 a0_4 a0_5 a1_0 a1_1 a1_2 a1_3 a1_4 a1_5 = some r) :
    Calls Try.prog 48 #[.agg #[.int .i64 a0_0, .int .i64 a0_1, .int .i64 a0_2, .int .i64 a0_3, .int .i64 a0_4, .int .i64 a0_5], .agg #[.int .i64 a1_0, .int .i64 a1_1, .int .i64 a1_2, .int .i64 a1_3, .int .i64 a1_4, .int .i64 a1_5]] w fun e w' => e = .returned (.bool r) ∧ Below w.heap.size w w' := by
 have hu27 := Try.underlying27
 have HB := Ae_q (bR_q w.heap.size w)
 have H : (if a0_0 = a1_0 then (if a0_1 = a1_1 then (if a0_2 = a1_2 then (if a0_3 = a1_3 then (if a0_4 = a1_4 then (if a0_5 = a1_5 then (some true) else (some false)) else (some false)) else (some false)) else (some false)) else (some false)) else (some false)) = some r := h
 clear h
 by_cases c3 : a0_0 = a1_0
 rotate_left
 ·rw [if_neg c3] at H
  have c3b0 : (a0_0 == a1_0) = false := fN_q.mpr c3
  have c3b1 : (a0_0 != a1_0) = true := nI_q.mpr c3
  obtain rfl := oI_q H
  go_enter Try.func48, Try.ntmps48
  go_wp2_with (first | ((with_reducible refine gD_q (N := 2) rfl ?_); refine bE_q ?hg (N := 2) ?hd (cs := #[.int .i64 a0_0, .int .i64 a0_1, .int .i64 a0_2, .int .i64 a0_3, .int .i64 a0_4, .int .i64 a0_5]) (t := 27) ?hr ?_; (case hd => rfl); (case hg => rfl); (case hr => first | (go_simp; done) | (go_simp; rfl)); intro gb242 hg w39 hbox hb; have n0_ := Ae_q (bT_q (bel HB.out) hb); have n1_ := Ae_q (hbox); have n2_ := Ae_q ((by rw [hg]; exact (bZ_q (bel HB.out)) : w.heap.size ≤ gb242)); have n3_ := Ae_q ((by rw [hg]; exact (bZ_q (bel HB.out)) : w.heap.size ≤ gb242)); clear HB; have HB := n0_; have BK242 := n1_; have GW242 := n2_; have GE242 := n3_; clear n0_ n1_ n2_ n3_; clear hb hbox hg) | ((with_reducible refine gD_q (N := 3) rfl ?_); refine bE_q ?hg (N := 3) ?hd (cs := #[.int .i64 a1_0, .int .i64 a1_1, .int .i64 a1_2, .int .i64 a1_3, .int .i64 a1_4, .int .i64 a1_5]) (t := 27) ?hr ?_; (case hd => rfl); (case hg => rfl); (case hr => first | (go_simp; done) | (go_simp; rfl)); intro gb243 hg w40 hbox hb; have n0_ := Ae_q (bB_q (g := gb242) (o := .cells #[.int .i64 a0_0, .int .i64 a0_1, .int .i64 a0_2, .int .i64 a0_3, .int .i64 a0_4, .int .i64 a0_5] 27 (0, 0)) (bup BK242.out) hb); have n1_ := Ae_q (bT_q (by repeat (with_reducible first | exact HB.out | apply bA_q | apply pB_q | apply bD_q | refine bS_q ?_ GE242.out)) hb); have n2_ := Ae_q (hbox); have n3_ := Ae_q ((by rw [hg]; exact (bZ_q (by repeat (with_reducible first | exact HB.out | apply bA_q | apply pB_q | apply bD_q | refine bS_q ?_ GE242.out))) : w.heap.size ≤ gb243)); have n4_ := Ae_q ((by rw [hg]; exact (bZ_q (by repeat (with_reducible first | exact HB.out | apply bA_q | apply pB_q | apply bD_q | refine bS_q ?_ GE242.out))) : w.heap.size ≤ gb243)); have n5_ := Ae_q ((by rw [hg]; exact nL_q (blk_lt (g := gb242) (o := .cells #[.int .i64 a0_0, .int .i64 a0_1, .int .i64 a0_2, .int .i64 a0_3, .int .i64 a0_4, .int .i64 a0_5] 27 (0, 0)) (bup BK242.out)) : gb242 ≠ gb243)); have n6_ := Ae_q ((by rw [hg]; exact nG_q (blk_lt (g := gb242) (o := .cells #[.int .i64 a0_0, .int .i64 a0_1, .int .i64 a0_2, .int .i64 a0_3, .int .i64 a0_4, .int .i64 a0_5] 27 (0, 0)) (bup BK242.out)) : gb243 ≠ gb242)); clear BK242; clear HB; have BK242 := n0_; have HB := n1_; have BK243 := n2_; have GW243 := n3_; have GE243 := n4_; have NB242_243 := n5_; have NB243_242 := n6_; clear n0_ n1_ n2_ n3_ n4_ n5_ n6_; clear hb hbox hg; have hnb41 := NB242_243.out; have hnc41 := NB243_242.out; have hcz42_0 : w40.cell? ⟨gb242, 0, none⟩ = some (.int .i64 a0_0) := (bC_q BK242.out 0).trans rfl; have hcz42_1 : w40.cell? ⟨gb242, 1, none⟩ = some (.int .i64 a0_1) := (bC_q BK242.out 1).trans rfl; have hcz42_2 : w40.cell? ⟨gb242, 2, none⟩ = some (.int .i64 a0_2) := (bC_q BK242.out 2).trans rfl; have hcz42_3 : w40.cell? ⟨gb242, 3, none⟩ = some (.int .i64 a0_3) := (bC_q BK242.out 3).trans rfl; have hcz42_4 : w40.cell? ⟨gb242, 4, none⟩ = some (.int .i64 a0_4) := (bC_q BK242.out 4).trans rfl; have hcz42_5 : w40.cell? ⟨gb242, 5, none⟩ = some (.int .i64 a0_5) := (bC_q BK242.out 5).trans rfl; have hfz42_0 := bF_q BK242.out 0; have hfz42_1 := bF_q BK242.out 1; have hfz42_2 := bF_q BK242.out 2; have hfz42_3 := bF_q BK242.out 3; have hfz42_4 := bF_q BK242.out 4; have hfz42_5 := bF_q BK242.out 5; have hcz43_0 : w40.cell? ⟨gb243, 0, none⟩ = some (.int .i64 a1_0) := (bC_q BK243.out 0).trans rfl; have hcz43_1 : w40.cell? ⟨gb243, 1, none⟩ = some (.int .i64 a1_1) := (bC_q BK243.out 1).trans rfl; have hcz43_2 : w40.cell? ⟨gb243, 2, none⟩ = some (.int .i64 a1_2) := (bC_q BK243.out 2).trans rfl; have hcz43_3 : w40.cell? ⟨gb243, 3, none⟩ = some (.int .i64 a1_3) := (bC_q BK243.out 3).trans rfl; have hcz43_4 : w40.cell? ⟨gb243, 4, none⟩ = some (.int .i64 a1_4) := (bC_q BK243.out 4).trans rfl; have hcz43_5 : w40.cell? ⟨gb243, 5, none⟩ = some (.int .i64 a1_5) := (bC_q BK243.out 5).trans rfl; have hfz43_0 := bF_q BK243.out 0; have hfz43_1 := bF_q BK243.out 1; have hfz43_2 := bF_q BK243.out 2; have hfz43_3 := bF_q BK243.out 3; have hfz43_4 := bF_q BK243.out 4; have hfz43_5 := bF_q BK243.out 5))
  go_ret
  exact ⟨by first | rfl | (simp [eN_q, eS_q] <;> rfl) | (simp [*, eN_q, eS_q] <;> rfl), by repeat (with_reducible first | exact HB.out | apply bA_q | apply pB_q | apply bD_q | refine bS_q ?_ GE242.out | refine bS_q ?_ GE243.out)⟩
 rw [if_pos c3] at H
 have c3b0 : (a0_0 == a1_0) = true := beq_iff_eq.mpr c3
 have c3b1 : (a0_0 != a1_0) = false := nE_q.mpr c3
 clear c3
 by_cases c4 : a0_1 = a1_1
 rotate_left
 ·rw [if_neg c4] at H
  have c4b0 : (a0_1 == a1_1) = false := fN_q.mpr c4
  have c4b1 : (a0_1 != a1_1) = true := nI_q.mpr c4
  obtain rfl := oI_q H
  go_enter Try.func48, Try.ntmps48
  go_wp2_with (first | ((with_reducible refine gD_q (N := 2) rfl ?_); refine bE_q ?hg (N := 2) ?hd (cs := #[.int .i64 a0_0, .int .i64 a0_1, .int .i64 a0_2, .int .i64 a0_3, .int .i64 a0_4, .int .i64 a0_5]) (t := 27) ?hr ?_; (case hd => rfl); (case hg => rfl); (case hr => first | (go_simp; done) | (go_simp; rfl)); intro gb242 hg w34 hbox hb; have n0_ := Ae_q (bT_q (bel HB.out) hb); have n1_ := Ae_q (hbox); have n2_ := Ae_q ((by rw [hg]; exact (bZ_q (bel HB.out)) : w.heap.size ≤ gb242)); have n3_ := Ae_q ((by rw [hg]; exact (bZ_q (bel HB.out)) : w.heap.size ≤ gb242)); clear HB; have HB := n0_; have BK242 := n1_; have GW242 := n2_; have GE242 := n3_; clear n0_ n1_ n2_ n3_; clear hb hbox hg) | ((with_reducible refine gD_q (N := 3) rfl ?_); refine bE_q ?hg (N := 3) ?hd (cs := #[.int .i64 a1_0, .int .i64 a1_1, .int .i64 a1_2, .int .i64 a1_3, .int .i64 a1_4, .int .i64 a1_5]) (t := 27) ?hr ?_; (case hd => rfl); (case hg => rfl); (case hr => first | (go_simp; done) | (go_simp; rfl)); intro gb243 hg w35 hbox hb; have n0_ := Ae_q (bB_q (g := gb242) (o := .cells #[.int .i64 a0_0, .int .i64 a0_1, .int .i64 a0_2, .int .i64 a0_3, .int .i64 a0_4, .int .i64 a0_5] 27 (0, 0)) (bup BK242.out) hb); have n1_ := Ae_q (bT_q (by repeat (with_reducible first | exact HB.out | apply bA_q | apply pB_q | apply bD_q | refine bS_q ?_ GE242.out)) hb); have n2_ := Ae_q (hbox); have n3_ := Ae_q ((by rw [hg]; exact (bZ_q (by repeat (with_reducible first | exact HB.out | apply bA_q | apply pB_q | apply bD_q | refine bS_q ?_ GE242.out))) : w.heap.size ≤ gb243)); have n4_ := Ae_q ((by rw [hg]; exact (bZ_q (by repeat (with_reducible first | exact HB.out | apply bA_q | apply pB_q | apply bD_q | refine bS_q ?_ GE242.out))) : w.heap.size ≤ gb243)); have n5_ := Ae_q ((by rw [hg]; exact nL_q (blk_lt (g := gb242) (o := .cells #[.int .i64 a0_0, .int .i64 a0_1, .int .i64 a0_2, .int .i64 a0_3, .int .i64 a0_4, .int .i64 a0_5] 27 (0, 0)) (bup BK242.out)) : gb242 ≠ gb243)); have n6_ := Ae_q ((by rw [hg]; exact nG_q (blk_lt (g := gb242) (o := .cells #[.int .i64 a0_0, .int .i64 a0_1, .int .i64 a0_2, .int .i64 a0_3, .int .i64 a0_4, .int .i64 a0_5] 27 (0, 0)) (bup BK242.out)) : gb243 ≠ gb242)); clear BK242; clear HB; have BK242 := n0_; have HB := n1_; have BK243 := n2_; have GW243 := n3_; have GE243 := n4_; have NB242_243 := n5_; have NB243_242 := n6_; clear n0_ n1_ n2_ n3_ n4_ n5_ n6_; clear hb hbox hg; have hnb36 := NB242_243.out; have hnc36 := NB243_242.out; have hcz37_0 : w35.cell? ⟨gb242, 0, none⟩ = some (.int .i64 a0_0) := (bC_q BK242.out 0).trans rfl; have hcz37_1 : w35.cell? ⟨gb242, 1, none⟩ = some (.int .i64 a0_1) := (bC_q BK242.out 1).trans rfl; have hcz37_2 : w35.cell? ⟨gb242, 2, none⟩ = some (.int .i64 a0_2) := (bC_q BK242.out 2).trans rfl; have hcz37_3 : w35.cell? ⟨gb242, 3, none⟩ = some (.int .i64 a0_3) := (bC_q BK242.out 3).trans rfl; have hcz37_4 : w35.cell? ⟨gb242, 4, none⟩ = some (.int .i64 a0_4) := (bC_q BK242.out 4).trans rfl; have hcz37_5 : w35.cell? ⟨gb242, 5, none⟩ = some (.int .i64 a0_5) := (bC_q BK242.out 5).trans rfl; have hfz37_0 := bF_q BK242.out 0; have hfz37_1 := bF_q BK242.out 1; have hfz37_2 := bF_q BK242.out 2; have hfz37_3 := bF_q BK242.out 3; have hfz37_4 := bF_q BK242.out 4; have hfz37_5 := bF_q BK242.out 5; have hcz38_0 : w35.cell? ⟨gb243, 0, none⟩ = some (.int .i64 a1_0) := (bC_q BK243.out 0).trans rfl; have hcz38_1 : w35.cell? ⟨gb243, 1, none⟩ = some (.int .i64 a1_1) := (bC_q BK243.out 1).trans rfl; have hcz38_2 : w35.cell? ⟨gb243, 2, none⟩ = some (.int .i64 a1_2) := (bC_q BK243.out 2).trans rfl; have hcz38_3 : w35.cell? ⟨gb243, 3, none⟩ = some (.int .i64 a1_3) := (bC_q BK243.out 3).trans rfl; have hcz38_4 : w35.cell? ⟨gb243, 4, none⟩ = some (.int .i64 a1_4) := (bC_q BK243.out 4).trans rfl; have hcz38_5 : w35.cell? ⟨gb243, 5, none⟩ = some (.int .i64 a1_5) := (bC_q BK243.out 5).trans rfl; have hfz38_0 := bF_q BK243.out 0; have hfz38_1 := bF_q BK243.out 1; have hfz38_2 := bF_q BK243.out 2; have hfz38_3 := bF_q BK243.out 3; have hfz38_4 := bF_q BK243.out 4; have hfz38_5 := bF_q BK243.out 5))
  go_ret
  exact ⟨by first | rfl | (simp [eN_q, eS_q] <;> rfl) | (simp [*, eN_q, eS_q] <;> rfl), by repeat (with_reducible first | exact HB.out | apply bA_q | apply pB_q | apply bD_q | refine bS_q ?_ GE242.out | refine bS_q ?_ GE243.out)⟩
 rw [if_pos c4] at H
 have c4b0 : (a0_1 == a1_1) = true := beq_iff_eq.mpr c4
 have c4b1 : (a0_1 != a1_1) = false := nE_q.mpr c4
 clear c4
 by_cases c5 : a0_2 = a1_2
 rotate_left
 ·rw [if_neg c5] at H
  have c5b0 : (a0_2 == a1_2) = false := fN_q.mpr c5
  have c5b1 : (a0_2 != a1_2) = true := nI_q.mpr c5
  obtain rfl := oI_q H
  go_enter Try.func48, Try.ntmps48
  go_wp2_with (first | ((with_reducible refine gD_q (N := 2) rfl ?_); refine bE_q ?hg (N := 2) ?hd (cs := #[.int .i64 a0_0, .int .i64 a0_1, .int .i64 a0_2, .int .i64 a0_3, .int .i64 a0_4, .int .i64 a0_5]) (t := 27) ?hr ?_; (case hd => rfl); (case hg => rfl); (case hr => first | (go_simp; done) | (go_simp; rfl)); intro gb242 hg w29 hbox hb; have n0_ := Ae_q (bT_q (bel HB.out) hb); have n1_ := Ae_q (hbox); have n2_ := Ae_q ((by rw [hg]; exact (bZ_q (bel HB.out)) : w.heap.size ≤ gb242)); have n3_ := Ae_q ((by rw [hg]; exact (bZ_q (bel HB.out)) : w.heap.size ≤ gb242)); clear HB; have HB := n0_; have BK242 := n1_; have GW242 := n2_; have GE242 := n3_; clear n0_ n1_ n2_ n3_; clear hb hbox hg) | ((with_reducible refine gD_q (N := 3) rfl ?_); refine bE_q ?hg (N := 3) ?hd (cs := #[.int .i64 a1_0, .int .i64 a1_1, .int .i64 a1_2, .int .i64 a1_3, .int .i64 a1_4, .int .i64 a1_5]) (t := 27) ?hr ?_; (case hd => rfl); (case hg => rfl); (case hr => first | (go_simp; done) | (go_simp; rfl)); intro gb243 hg w30 hbox hb; have n0_ := Ae_q (bB_q (g := gb242) (o := .cells #[.int .i64 a0_0, .int .i64 a0_1, .int .i64 a0_2, .int .i64 a0_3, .int .i64 a0_4, .int .i64 a0_5] 27 (0, 0)) (bup BK242.out) hb); have n1_ := Ae_q (bT_q (by repeat (with_reducible first | exact HB.out | apply bA_q | apply pB_q | apply bD_q | refine bS_q ?_ GE242.out)) hb); have n2_ := Ae_q (hbox); have n3_ := Ae_q ((by rw [hg]; exact (bZ_q (by repeat (with_reducible first | exact HB.out | apply bA_q | apply pB_q | apply bD_q | refine bS_q ?_ GE242.out))) : w.heap.size ≤ gb243)); have n4_ := Ae_q ((by rw [hg]; exact (bZ_q (by repeat (with_reducible first | exact HB.out | apply bA_q | apply pB_q | apply bD_q | refine bS_q ?_ GE242.out))) : w.heap.size ≤ gb243)); have n5_ := Ae_q ((by rw [hg]; exact nL_q (blk_lt (g := gb242) (o := .cells #[.int .i64 a0_0, .int .i64 a0_1, .int .i64 a0_2, .int .i64 a0_3, .int .i64 a0_4, .int .i64 a0_5] 27 (0, 0)) (bup BK242.out)) : gb242 ≠ gb243)); have n6_ := Ae_q ((by rw [hg]; exact nG_q (blk_lt (g := gb242) (o := .cells #[.int .i64 a0_0, .int .i64 a0_1, .int .i64 a0_2, .int .i64 a0_3, .int .i64 a0_4, .int .i64 a0_5] 27 (0, 0)) (bup BK242.out)) : gb243 ≠ gb242)); clear BK242; clear HB; have BK242 := n0_; have HB := n1_; have BK243 := n2_; have GW243 := n3_; have GE243 := n4_; have NB242_243 := n5_; have NB243_242 := n6_; clear n0_ n1_ n2_ n3_ n4_ n5_ n6_; clear hb hbox hg; have hnb31 := NB242_243.out; have hnc31 := NB243_242.out; have hcz32_0 : w30.cell? ⟨gb242, 0, none⟩ = some (.int .i64 a0_0) := (bC_q BK242.out 0).trans rfl; have hcz32_1 : w30.cell? ⟨gb242, 1, none⟩ = some (.int .i64 a0_1) := (bC_q BK242.out 1).trans rfl; have hcz32_2 : w30.cell? ⟨gb242, 2, none⟩ = some (.int .i64 a0_2) := (bC_q BK242.out 2).trans rfl; have hcz32_3 : w30.cell? ⟨gb242, 3, none⟩ = some (.int .i64 a0_3) := (bC_q BK242.out 3).trans rfl; have hcz32_4 : w30.cell? ⟨gb242, 4, none⟩ = some (.int .i64 a0_4) := (bC_q BK242.out 4).trans rfl; have hcz32_5 : w30.cell? ⟨gb242, 5, none⟩ = some (.int .i64 a0_5) := (bC_q BK242.out 5).trans rfl; have hfz32_0 := bF_q BK242.out 0; have hfz32_1 := bF_q BK242.out 1; have hfz32_2 := bF_q BK242.out 2; have hfz32_3 := bF_q BK242.out 3; have hfz32_4 := bF_q BK242.out 4; have hfz32_5 := bF_q BK242.out 5; have hcz33_0 : w30.cell? ⟨gb243, 0, none⟩ = some (.int .i64 a1_0) := (bC_q BK243.out 0).trans rfl; have hcz33_1 : w30.cell? ⟨gb243, 1, none⟩ = some (.int .i64 a1_1) := (bC_q BK243.out 1).trans rfl; have hcz33_2 : w30.cell? ⟨gb243, 2, none⟩ = some (.int .i64 a1_2) := (bC_q BK243.out 2).trans rfl; have hcz33_3 : w30.cell? ⟨gb243, 3, none⟩ = some (.int .i64 a1_3) := (bC_q BK243.out 3).trans rfl; have hcz33_4 : w30.cell? ⟨gb243, 4, none⟩ = some (.int .i64 a1_4) := (bC_q BK243.out 4).trans rfl; have hcz33_5 : w30.cell? ⟨gb243, 5, none⟩ = some (.int .i64 a1_5) := (bC_q BK243.out 5).trans rfl; have hfz33_0 := bF_q BK243.out 0; have hfz33_1 := bF_q BK243.out 1; have hfz33_2 := bF_q BK243.out 2; have hfz33_3 := bF_q BK243.out 3; have hfz33_4 := bF_q BK243.out 4; have hfz33_5 := bF_q BK243.out 5))
  go_ret
  exact ⟨by first | rfl | (simp [eN_q, eS_q] <;> rfl) | (simp [*, eN_q, eS_q] <;> rfl), by repeat (with_reducible first | exact HB.out | apply bA_q | apply pB_q | apply bD_q | refine bS_q ?_ GE242.out | refine bS_q ?_ GE243.out)⟩
 rw [if_pos c5] at H
 have c5b0 : (a0_2 == a1_2) = true := beq_iff_eq.mpr c5
 have c5b1 : (a0_2 != a1_2) = false := nE_q.mpr c5
 clear c5
 by_cases c6 : a0_3 = a1_3
 rotate_left
 ·rw [if_neg c6] at H
  have c6b0 : (a0_3 == a1_3) = false := fN_q.mpr c6
  have c6b1 : (a0_3 != a1_3) = true := nI_q.mpr c6
  obtain rfl := oI_q H
  go_enter Try.func48, Try.ntmps48
  go_wp2_with (first | ((with_reducible refine gD_q (N := 2) rfl ?_); refine bE_q ?hg (N := 2) ?hd (cs := #[.int .i64 a0_0, .int .i64 a0_1, .int .i64 a0_2, .int .i64 a0_3, .int .i64 a0_4, .int .i64 a0_5]) (t := 27) ?hr ?_; (case hd => rfl); (case hg => rfl); (case hr => first | (go_simp; done) | (go_simp; rfl)); intro gb242 hg w24 hbox hb; have n0_ := Ae_q (bT_q (bel HB.out) hb); have n1_ := Ae_q (hbox); have n2_ := Ae_q ((by rw [hg]; exact (bZ_q (bel HB.out)) : w.heap.size ≤ gb242)); have n3_ := Ae_q ((by rw [hg]; exact (bZ_q (bel HB.out)) : w.heap.size ≤ gb242)); clear HB; have HB := n0_; have BK242 := n1_; have GW242 := n2_; have GE242 := n3_; clear n0_ n1_ n2_ n3_; clear hb hbox hg) | ((with_reducible refine gD_q (N := 3) rfl ?_); refine bE_q ?hg (N := 3) ?hd (cs := #[.int .i64 a1_0, .int .i64 a1_1, .int .i64 a1_2, .int .i64 a1_3, .int .i64 a1_4, .int .i64 a1_5]) (t := 27) ?hr ?_; (case hd => rfl); (case hg => rfl); (case hr => first | (go_simp; done) | (go_simp; rfl)); intro gb243 hg w25 hbox hb; have n0_ := Ae_q (bB_q (g := gb242) (o := .cells #[.int .i64 a0_0, .int .i64 a0_1, .int .i64 a0_2, .int .i64 a0_3, .int .i64 a0_4, .int .i64 a0_5] 27 (0, 0)) (bup BK242.out) hb); have n1_ := Ae_q (bT_q (by repeat (with_reducible first | exact HB.out | apply bA_q | apply pB_q | apply bD_q | refine bS_q ?_ GE242.out)) hb); have n2_ := Ae_q (hbox); have n3_ := Ae_q ((by rw [hg]; exact (bZ_q (by repeat (with_reducible first | exact HB.out | apply bA_q | apply pB_q | apply bD_q | refine bS_q ?_ GE242.out))) : w.heap.size ≤ gb243)); have n4_ := Ae_q ((by rw [hg]; exact (bZ_q (by repeat (with_reducible first | exact HB.out | apply bA_q | apply pB_q | apply bD_q | refine bS_q ?_ GE242.out))) : w.heap.size ≤ gb243)); have n5_ := Ae_q ((by rw [hg]; exact nL_q (blk_lt (g := gb242) (o := .cells #[.int .i64 a0_0, .int .i64 a0_1, .int .i64 a0_2, .int .i64 a0_3, .int .i64 a0_4, .int .i64 a0_5] 27 (0, 0)) (bup BK242.out)) : gb242 ≠ gb243)); have n6_ := Ae_q ((by rw [hg]; exact nG_q (blk_lt (g := gb242) (o := .cells #[.int .i64 a0_0, .int .i64 a0_1, .int .i64 a0_2, .int .i64 a0_3, .int .i64 a0_4, .int .i64 a0_5] 27 (0, 0)) (bup BK242.out)) : gb243 ≠ gb242)); clear BK242; clear HB; have BK242 := n0_; have HB := n1_; have BK243 := n2_; have GW243 := n3_; have GE243 := n4_; have NB242_243 := n5_; have NB243_242 := n6_; clear n0_ n1_ n2_ n3_ n4_ n5_ n6_; clear hb hbox hg; have hnb26 := NB242_243.out; have hnc26 := NB243_242.out; have hcz27_0 : w25.cell? ⟨gb242, 0, none⟩ = some (.int .i64 a0_0) := (bC_q BK242.out 0).trans rfl; have hcz27_1 : w25.cell? ⟨gb242, 1, none⟩ = some (.int .i64 a0_1) := (bC_q BK242.out 1).trans rfl; have hcz27_2 : w25.cell? ⟨gb242, 2, none⟩ = some (.int .i64 a0_2) := (bC_q BK242.out 2).trans rfl; have hcz27_3 : w25.cell? ⟨gb242, 3, none⟩ = some (.int .i64 a0_3) := (bC_q BK242.out 3).trans rfl; have hcz27_4 : w25.cell? ⟨gb242, 4, none⟩ = some (.int .i64 a0_4) := (bC_q BK242.out 4).trans rfl; have hcz27_5 : w25.cell? ⟨gb242, 5, none⟩ = some (.int .i64 a0_5) := (bC_q BK242.out 5).trans rfl; have hfz27_0 := bF_q BK242.out 0; have hfz27_1 := bF_q BK242.out 1; have hfz27_2 := bF_q BK242.out 2; have hfz27_3 := bF_q BK242.out 3; have hfz27_4 := bF_q BK242.out 4; have hfz27_5 := bF_q BK242.out 5; have hcz28_0 : w25.cell? ⟨gb243, 0, none⟩ = some (.int .i64 a1_0) := (bC_q BK243.out 0).trans rfl; have hcz28_1 : w25.cell? ⟨gb243, 1, none⟩ = some (.int .i64 a1_1) := (bC_q BK243.out 1).trans rfl; have hcz28_2 : w25.cell? ⟨gb243, 2, none⟩ = some (.int .i64 a1_2) := (bC_q BK243.out 2).trans rfl; have hcz28_3 : w25.cell? ⟨gb243, 3, none⟩ = some (.int .i64 a1_3) := (bC_q BK243.out 3).trans rfl; have hcz28_4 : w25.cell? ⟨gb243, 4, none⟩ = some (.int .i64 a1_4) := (bC_q BK243.out 4).trans rfl; have hcz28_5 : w25.cell? ⟨gb243, 5, none⟩ = some (.int .i64 a1_5) := (bC_q BK243.out 5).trans rfl; have hfz28_0 := bF_q BK243.out 0; have hfz28_1 := bF_q BK243.out 1; have hfz28_2 := bF_q BK243.out 2; have hfz28_3 := bF_q BK243.out 3; have hfz28_4 := bF_q BK243.out 4; have hfz28_5 := bF_q BK243.out 5))
  go_ret
  exact ⟨by first | rfl | (simp [eN_q, eS_q] <;> rfl) | (simp [*, eN_q, eS_q] <;> rfl), by repeat (with_reducible first | exact HB.out | apply bA_q | apply pB_q | apply bD_q | refine bS_q ?_ GE242.out | refine bS_q ?_ GE243.out)⟩
 rw [if_pos c6] at H
 have c6b0 : (a0_3 == a1_3) = true := beq_iff_eq.mpr c6
 have c6b1 : (a0_3 != a1_3) = false := nE_q.mpr c6
 clear c6
 by_cases c7 : a0_4 = a1_4
 rotate_left
 ·rw [if_neg c7] at H
  have c7b0 : (a0_4 == a1_4) = false := fN_q.mpr c7
  have c7b1 : (a0_4 != a1_4) = true := nI_q.mpr c7
  obtain rfl := oI_q H
  go_enter Try.func48, Try.ntmps48
  go_wp2_with (first | ((with_reducible refine gD_q (N := 2) rfl ?_); refine bE_q ?hg (N := 2) ?hd (cs := #[.int .i64 a0_0, .int .i64 a0_1, .int .i64 a0_2, .int .i64 a0_3, .int .i64 a0_4, .int .i64 a0_5]) (t := 27) ?hr ?_; (case hd => rfl); (case hg => rfl); (case hr => first | (go_simp; done) | (go_simp; rfl)); intro gb242 hg w19 hbox hb; have n0_ := Ae_q (bT_q (bel HB.out) hb); have n1_ := Ae_q (hbox); have n2_ := Ae_q ((by rw [hg]; exact (bZ_q (bel HB.out)) : w.heap.size ≤ gb242)); have n3_ := Ae_q ((by rw [hg]; exact (bZ_q (bel HB.out)) : w.heap.size ≤ gb242)); clear HB; have HB := n0_; have BK242 := n1_; have GW242 := n2_; have GE242 := n3_; clear n0_ n1_ n2_ n3_; clear hb hbox hg) | ((with_reducible refine gD_q (N := 3) rfl ?_); refine bE_q ?hg (N := 3) ?hd (cs := #[.int .i64 a1_0, .int .i64 a1_1, .int .i64 a1_2, .int .i64 a1_3, .int .i64 a1_4, .int .i64 a1_5]) (t := 27) ?hr ?_; (case hd => rfl); (case hg => rfl); (case hr => first | (go_simp; done) | (go_simp; rfl)); intro gb243 hg w20 hbox hb; have n0_ := Ae_q (bB_q (g := gb242) (o := .cells #[.int .i64 a0_0, .int .i64 a0_1, .int .i64 a0_2, .int .i64 a0_3, .int .i64 a0_4, .int .i64 a0_5] 27 (0, 0)) (bup BK242.out) hb); have n1_ := Ae_q (bT_q (by repeat (with_reducible first | exact HB.out | apply bA_q | apply pB_q | apply bD_q | refine bS_q ?_ GE242.out)) hb); have n2_ := Ae_q (hbox); have n3_ := Ae_q ((by rw [hg]; exact (bZ_q (by repeat (with_reducible first | exact HB.out | apply bA_q | apply pB_q | apply bD_q | refine bS_q ?_ GE242.out))) : w.heap.size ≤ gb243)); have n4_ := Ae_q ((by rw [hg]; exact (bZ_q (by repeat (with_reducible first | exact HB.out | apply bA_q | apply pB_q | apply bD_q | refine bS_q ?_ GE242.out))) : w.heap.size ≤ gb243)); have n5_ := Ae_q ((by rw [hg]; exact nL_q (blk_lt (g := gb242) (o := .cells #[.int .i64 a0_0, .int .i64 a0_1, .int .i64 a0_2, .int .i64 a0_3, .int .i64 a0_4, .int .i64 a0_5] 27 (0, 0)) (bup BK242.out)) : gb242 ≠ gb243)); have n6_ := Ae_q ((by rw [hg]; exact nG_q (blk_lt (g := gb242) (o := .cells #[.int .i64 a0_0, .int .i64 a0_1, .int .i64 a0_2, .int .i64 a0_3, .int .i64 a0_4, .int .i64 a0_5] 27 (0, 0)) (bup BK242.out)) : gb243 ≠ gb242)); clear BK242; clear HB; have BK242 := n0_; have HB := n1_; have BK243 := n2_; have GW243 := n3_; have GE243 := n4_; have NB242_243 := n5_; have NB243_242 := n6_; clear n0_ n1_ n2_ n3_ n4_ n5_ n6_; clear hb hbox hg; have hnb21 := NB242_243.out; have hnc21 := NB243_242.out; have hcz22_0 : w20.cell? ⟨gb242, 0, none⟩ = some (.int .i64 a0_0) := (bC_q BK242.out 0).trans rfl; have hcz22_1 : w20.cell? ⟨gb242, 1, none⟩ = some (.int .i64 a0_1) := (bC_q BK242.out 1).trans rfl; have hcz22_2 : w20.cell? ⟨gb242, 2, none⟩ = some (.int .i64 a0_2) := (bC_q BK242.out 2).trans rfl; have hcz22_3 : w20.cell? ⟨gb242, 3, none⟩ = some (.int .i64 a0_3) := (bC_q BK242.out 3).trans rfl; have hcz22_4 : w20.cell? ⟨gb242, 4, none⟩ = some (.int .i64 a0_4) := (bC_q BK242.out 4).trans rfl; have hcz22_5 : w20.cell? ⟨gb242, 5, none⟩ = some (.int .i64 a0_5) := (bC_q BK242.out 5).trans rfl; have hfz22_0 := bF_q BK242.out 0; have hfz22_1 := bF_q BK242.out 1; have hfz22_2 := bF_q BK242.out 2; have hfz22_3 := bF_q BK242.out 3; have hfz22_4 := bF_q BK242.out 4; have hfz22_5 := bF_q BK242.out 5; have hcz23_0 : w20.cell? ⟨gb243, 0, none⟩ = some (.int .i64 a1_0) := (bC_q BK243.out 0).trans rfl; have hcz23_1 : w20.cell? ⟨gb243, 1, none⟩ = some (.int .i64 a1_1) := (bC_q BK243.out 1).trans rfl; have hcz23_2 : w20.cell? ⟨gb243, 2, none⟩ = some (.int .i64 a1_2) := (bC_q BK243.out 2).trans rfl; have hcz23_3 : w20.cell? ⟨gb243, 3, none⟩ = some (.int .i64 a1_3) := (bC_q BK243.out 3).trans rfl; have hcz23_4 : w20.cell? ⟨gb243, 4, none⟩ = some (.int .i64 a1_4) := (bC_q BK243.out 4).trans rfl; have hcz23_5 : w20.cell? ⟨gb243, 5, none⟩ = some (.int .i64 a1_5) := (bC_q BK243.out 5).trans rfl; have hfz23_0 := bF_q BK243.out 0; have hfz23_1 := bF_q BK243.out 1; have hfz23_2 := bF_q BK243.out 2; have hfz23_3 := bF_q BK243.out 3; have hfz23_4 := bF_q BK243.out 4; have hfz23_5 := bF_q BK243.out 5))
  go_ret
  exact ⟨by first | rfl | (simp [eN_q, eS_q] <;> rfl) | (simp [*, eN_q, eS_q] <;> rfl), by repeat (with_reducible first | exact HB.out | apply bA_q | apply pB_q | apply bD_q | refine bS_q ?_ GE242.out | refine bS_q ?_ GE243.out)⟩
 rw [if_pos c7] at H
 have c7b0 : (a0_4 == a1_4) = true := beq_iff_eq.mpr c7
 have c7b1 : (a0_4 != a1_4) = false := nE_q.mpr c7
 clear c7
 by_cases c8 : a0_5 = a1_5
 ·rw [if_pos c8] at H
  have c8b0 : (a0_5 == a1_5) = true := beq_iff_eq.mpr c8
  have c8b1 : (a0_5 != a1_5) = false := nE_q.mpr c8
  clear c8
  obtain rfl := oI_q H
  go_enter Try.func48, Try.ntmps48
  go_wp2_with (first | ((with_reducible refine gD_q (N := 2) rfl ?_); refine bE_q ?hg (N := 2) ?hd (cs := #[.int .i64 a0_0, .int .i64 a0_1, .int .i64 a0_2, .int .i64 a0_3, .int .i64 a0_4, .int .i64 a0_5]) (t := 27) ?hr ?_; (case hd => rfl); (case hg => rfl); (case hr => first | (go_simp; done) | (go_simp; rfl)); intro gb242 hg w9 hbox hb; have n0_ := Ae_q (bT_q (bel HB.out) hb); have n1_ := Ae_q (hbox); have n2_ := Ae_q ((by rw [hg]; exact (bZ_q (bel HB.out)) : w.heap.size ≤ gb242)); have n3_ := Ae_q ((by rw [hg]; exact (bZ_q (bel HB.out)) : w.heap.size ≤ gb242)); clear HB; have HB := n0_; have BK242 := n1_; have GW242 := n2_; have GE242 := n3_; clear n0_ n1_ n2_ n3_; clear hb hbox hg) | ((with_reducible refine gD_q (N := 3) rfl ?_); refine bE_q ?hg (N := 3) ?hd (cs := #[.int .i64 a1_0, .int .i64 a1_1, .int .i64 a1_2, .int .i64 a1_3, .int .i64 a1_4, .int .i64 a1_5]) (t := 27) ?hr ?_; (case hd => rfl); (case hg => rfl); (case hr => first | (go_simp; done) | (go_simp; rfl)); intro gb243 hg w10 hbox hb; have n0_ := Ae_q (bB_q (g := gb242) (o := .cells #[.int .i64 a0_0, .int .i64 a0_1, .int .i64 a0_2, .int .i64 a0_3, .int .i64 a0_4, .int .i64 a0_5] 27 (0, 0)) (bup BK242.out) hb); have n1_ := Ae_q (bT_q (by repeat (with_reducible first | exact HB.out | apply bA_q | apply pB_q | apply bD_q | refine bS_q ?_ GE242.out)) hb); have n2_ := Ae_q (hbox); have n3_ := Ae_q ((by rw [hg]; exact (bZ_q (by repeat (with_reducible first | exact HB.out | apply bA_q | apply pB_q | apply bD_q | refine bS_q ?_ GE242.out))) : w.heap.size ≤ gb243)); have n4_ := Ae_q ((by rw [hg]; exact (bZ_q (by repeat (with_reducible first | exact HB.out | apply bA_q | apply pB_q | apply bD_q | refine bS_q ?_ GE242.out))) : w.heap.size ≤ gb243)); have n5_ := Ae_q ((by rw [hg]; exact nL_q (blk_lt (g := gb242) (o := .cells #[.int .i64 a0_0, .int .i64 a0_1, .int .i64 a0_2, .int .i64 a0_3, .int .i64 a0_4, .int .i64 a0_5] 27 (0, 0)) (bup BK242.out)) : gb242 ≠ gb243)); have n6_ := Ae_q ((by rw [hg]; exact nG_q (blk_lt (g := gb242) (o := .cells #[.int .i64 a0_0, .int .i64 a0_1, .int .i64 a0_2, .int .i64 a0_3, .int .i64 a0_4, .int .i64 a0_5] 27 (0, 0)) (bup BK242.out)) : gb243 ≠ gb242)); clear BK242; clear HB; have BK242 := n0_; have HB := n1_; have BK243 := n2_; have GW243 := n3_; have GE243 := n4_; have NB242_243 := n5_; have NB243_242 := n6_; clear n0_ n1_ n2_ n3_ n4_ n5_ n6_; clear hb hbox hg; have hnb11 := NB242_243.out; have hnc11 := NB243_242.out; have hcz12_0 : w10.cell? ⟨gb242, 0, none⟩ = some (.int .i64 a0_0) := (bC_q BK242.out 0).trans rfl; have hcz12_1 : w10.cell? ⟨gb242, 1, none⟩ = some (.int .i64 a0_1) := (bC_q BK242.out 1).trans rfl; have hcz12_2 : w10.cell? ⟨gb242, 2, none⟩ = some (.int .i64 a0_2) := (bC_q BK242.out 2).trans rfl; have hcz12_3 : w10.cell? ⟨gb242, 3, none⟩ = some (.int .i64 a0_3) := (bC_q BK242.out 3).trans rfl; have hcz12_4 : w10.cell? ⟨gb242, 4, none⟩ = some (.int .i64 a0_4) := (bC_q BK242.out 4).trans rfl; have hcz12_5 : w10.cell? ⟨gb242, 5, none⟩ = some (.int .i64 a0_5) := (bC_q BK242.out 5).trans rfl; have hfz12_0 := bF_q BK242.out 0; have hfz12_1 := bF_q BK242.out 1; have hfz12_2 := bF_q BK242.out 2; have hfz12_3 := bF_q BK242.out 3; have hfz12_4 := bF_q BK242.out 4; have hfz12_5 := bF_q BK242.out 5; have hcz13_0 : w10.cell? ⟨gb243, 0, none⟩ = some (.int .i64 a1_0) := (bC_q BK243.out 0).trans rfl; have hcz13_1 : w10.cell? ⟨gb243, 1, none⟩ = some (.int .i64 a1_1) := (bC_q BK243.out 1).trans rfl; have hcz13_2 : w10.cell? ⟨gb243, 2, none⟩ = some (.int .i64 a1_2) := (bC_q BK243.out 2).trans rfl; have hcz13_3 : w10.cell? ⟨gb243, 3, none⟩ = some (.int .i64 a1_3) := (bC_q BK243.out 3).trans rfl; have hcz13_4 : w10.cell? ⟨gb243, 4, none⟩ = some (.int .i64 a1_4) := (bC_q BK243.out 4).trans rfl; have hcz13_5 : w10.cell? ⟨gb243, 5, none⟩ = some (.int .i64 a1_5) := (bC_q BK243.out 5).trans rfl; have hfz13_0 := bF_q BK243.out 0; have hfz13_1 := bF_q BK243.out 1; have hfz13_2 := bF_q BK243.out 2; have hfz13_3 := bF_q BK243.out 3; have hfz13_4 := bF_q BK243.out 4; have hfz13_5 := bF_q BK243.out 5))
  go_ret
  exact ⟨by first | rfl | (simp [eN_q, eS_q] <;> rfl) | (simp [*, eN_q, eS_q] <;> rfl), by repeat (with_reducible first | exact HB.out | apply bA_q | apply pB_q | apply bD_q | refine bS_q ?_ GE242.out | refine bS_q ?_ GE243.out)⟩
 rw [if_neg c8] at H
 have c8b0 : (a0_5 == a1_5) = false := fN_q.mpr c8
 have c8b1 : (a0_5 != a1_5) = true := nI_q.mpr c8
 obtain rfl := oI_q H
 go_enter Try.func48, Try.ntmps48
 go_wp2_with (first | ((with_reducible refine gD_q (N := 2) rfl ?_); refine bE_q ?hg (N := 2) ?hd (cs := #[.int .i64 a0_0, .int .i64 a0_1, .int .i64 a0_2, .int .i64 a0_3, .int .i64 a0_4, .int .i64 a0_5]) (t := 27) ?hr ?_; (case hd => rfl); (case hg => rfl); (case hr => first | (go_simp; done) | (go_simp; rfl)); intro gb242 hg w14 hbox hb; have n0_ := Ae_q (bT_q (bel HB.out) hb); have n1_ := Ae_q (hbox); have n2_ := Ae_q ((by rw [hg]; exact (bZ_q (bel HB.out)) : w.heap.size ≤ gb242)); have n3_ := Ae_q ((by rw [hg]; exact (bZ_q (bel HB.out)) : w.heap.size ≤ gb242)); clear HB; have HB := n0_; have BK242 := n1_; have GW242 := n2_; have GE242 := n3_; clear n0_ n1_ n2_ n3_; clear hb hbox hg) | ((with_reducible refine gD_q (N := 3) rfl ?_); refine bE_q ?hg (N := 3) ?hd (cs := #[.int .i64 a1_0, .int .i64 a1_1, .int .i64 a1_2, .int .i64 a1_3, .int .i64 a1_4, .int .i64 a1_5]) (t := 27) ?hr ?_; (case hd => rfl); (case hg => rfl); (case hr => first | (go_simp; done) | (go_simp; rfl)); intro gb243 hg w15 hbox hb; have n0_ := Ae_q (bB_q (g := gb242) (o := .cells #[.int .i64 a0_0, .int .i64 a0_1, .int .i64 a0_2, .int .i64 a0_3, .int .i64 a0_4, .int .i64 a0_5] 27 (0, 0)) (bup BK242.out) hb); have n1_ := Ae_q (bT_q (by repeat (with_reducible first | exact HB.out | apply bA_q | apply pB_q | apply bD_q | refine bS_q ?_ GE242.out)) hb); have n2_ := Ae_q (hbox); have n3_ := Ae_q ((by rw [hg]; exact (bZ_q (by repeat (with_reducible first | exact HB.out | apply bA_q | apply pB_q | apply bD_q | refine bS_q ?_ GE242.out))) : w.heap.size ≤ gb243)); have n4_ := Ae_q ((by rw [hg]; exact (bZ_q (by repeat (with_reducible first | exact HB.out | apply bA_q | apply pB_q | apply bD_q | refine bS_q ?_ GE242.out))) : w.heap.size ≤ gb243)); have n5_ := Ae_q ((by rw [hg]; exact nL_q (blk_lt (g := gb242) (o := .cells #[.int .i64 a0_0, .int .i64 a0_1, .int .i64 a0_2, .int .i64 a0_3, .int .i64 a0_4, .int .i64 a0_5] 27 (0, 0)) (bup BK242.out)) : gb242 ≠ gb243)); have n6_ := Ae_q ((by rw [hg]; exact nG_q (blk_lt (g := gb242) (o := .cells #[.int .i64 a0_0, .int .i64 a0_1, .int .i64 a0_2, .int .i64 a0_3, .int .i64 a0_4, .int .i64 a0_5] 27 (0, 0)) (bup BK242.out)) : gb243 ≠ gb242)); clear BK242; clear HB; have BK242 := n0_; have HB := n1_; have BK243 := n2_; have GW243 := n3_; have GE243 := n4_; have NB242_243 := n5_; have NB243_242 := n6_; clear n0_ n1_ n2_ n3_ n4_ n5_ n6_; clear hb hbox hg; have hnb16 := NB242_243.out; have hnc16 := NB243_242.out; have hcz17_0 : w15.cell? ⟨gb242, 0, none⟩ = some (.int .i64 a0_0) := (bC_q BK242.out 0).trans rfl; have hcz17_1 : w15.cell? ⟨gb242, 1, none⟩ = some (.int .i64 a0_1) := (bC_q BK242.out 1).trans rfl; have hcz17_2 : w15.cell? ⟨gb242, 2, none⟩ = some (.int .i64 a0_2) := (bC_q BK242.out 2).trans rfl; have hcz17_3 : w15.cell? ⟨gb242, 3, none⟩ = some (.int .i64 a0_3) := (bC_q BK242.out 3).trans rfl; have hcz17_4 : w15.cell? ⟨gb242, 4, none⟩ = some (.int .i64 a0_4) := (bC_q BK242.out 4).trans rfl; have hcz17_5 : w15.cell? ⟨gb242, 5, none⟩ = some (.int .i64 a0_5) := (bC_q BK242.out 5).trans rfl; have hfz17_0 := bF_q BK242.out 0; have hfz17_1 := bF_q BK242.out 1; have hfz17_2 := bF_q BK242.out 2; have hfz17_3 := bF_q BK242.out 3; have hfz17_4 := bF_q BK242.out 4; have hfz17_5 := bF_q BK242.out 5; have hcz18_0 : w15.cell? ⟨gb243, 0, none⟩ = some (.int .i64 a1_0) := (bC_q BK243.out 0).trans rfl; have hcz18_1 : w15.cell? ⟨gb243, 1, none⟩ = some (.int .i64 a1_1) := (bC_q BK243.out 1).trans rfl; have hcz18_2 : w15.cell? ⟨gb243, 2, none⟩ = some (.int .i64 a1_2) := (bC_q BK243.out 2).trans rfl; have hcz18_3 : w15.cell? ⟨gb243, 3, none⟩ = some (.int .i64 a1_3) := (bC_q BK243.out 3).trans rfl; have hcz18_4 : w15.cell? ⟨gb243, 4, none⟩ = some (.int .i64 a1_4) := (bC_q BK243.out 4).trans rfl; have hcz18_5 : w15.cell? ⟨gb243, 5, none⟩ = some (.int .i64 a1_5) := (bC_q BK243.out 5).trans rfl; have hfz18_0 := bF_q BK243.out 0; have hfz18_1 := bF_q BK243.out 1; have hfz18_2 := bF_q BK243.out 2; have hfz18_3 := bF_q BK243.out 3; have hfz18_4 := bF_q BK243.out 4; have hfz18_5 := bF_q BK243.out 5))
 go_ret
 exact ⟨by first | rfl | (simp [eN_q, eS_q] <;> rfl) | (simp [*, eN_q, eS_q] <;> rfl), by repeat (with_reducible first | exact HB.out | apply bA_q | apply pB_q | apply bD_q | refine bS_q ?_ GE242.out | refine bS_q ?_ GE243.out)⟩

def laws_eqEventS.l0 : Nat → List (S27) → List (S27) → Int → Option (Bool)
 | 0, _, _, _ => none
 | k + 1, x0, x1, x5 => if x5 < (x0.length : Int) then (if 0 ≤ x5 then (if x5 < (x1.length : Int) then ((laws_eqEvent.f ((rd_T27 x0 x5).f0) ((rd_T27 x0 x5).f1) ((rd_T27 x0 x5).f2) ((rd_T27 x0 x5).f3) ((rd_T27 x0 x5).f4) ((rd_T27 x0 x5).f5) ((rd_T27 x1 x5).f0) ((rd_T27 x1 x5).f1) ((rd_T27 x1 x5).f2) ((rd_T27 x1 x5).f3) ((rd_T27 x1 x5).f4) ((rd_T27 x1 x5).f5)).bind fun t246 => (if t246 = true then (laws_eqEventS.l0 k x0 x1 (wrap64 (x5 + 1))) else (some false))) else (none)) else (none)) else (some true)
def laws_eqEventS.f (k : Nat) (l0 : List (S27)) (l1 : List (S27)) : Option (Bool) := if (l0.length : Int) = (l1.length : Int) then (laws_eqEventS.l0 k l0 l1 0) else (some false)
def laws_eqEventS.T6 : Bool × List (List Nat × List Nat) := (true, [([], []), ([], []), ([0, 1], [0, 1]), ([2], [2]), ([], []), ([], []), ([4, 5], [4, 5]), ([6], [6]), ([3, 7], [3, 7]), ([8], [8])])
def laws_eqEventS.B6 : List Nat := [0, 0, 3, 7, 0, 0, 48, 112, 255, 511]
theorem laws_eqEventS.tab6 : rtab .any (opsOf Try.f20 6) = laws_eqEventS.T6 := by kernel_rfl
theorem laws_eqEventS.bits6 : waitsOk laws_eqEventS.T6.2 laws_eqEventS.B6 = true := by kernel_rfl
set_option maxHeartbeats 8000000 in
set_option maxRecDepth 100000 in
theorem laws_eqEventS.calls (k : Nat) (A0 : Option Addr) (c0 : Nat) (l0 : List (S27)) (A1 : Option Addr) (c1 : Nat) (l1 : List (S27)) (r : Bool) (w : World) (hr0 : Kd.C k27 w A0 l0.length l0) (hc0 : l0.length ≤ c0) (hr1 : Kd.C k27 w A1 l1.length l1) (hc1 : l1.length ≤ c1) (h : laws_eqEventS.f k l0 l1 = some r) :
    Calls Try.prog 20 #[.slice A0 l0.length c0, .slice A1 l1.length c1] w fun e w' => e = .returned (.bool r) ∧ Below w.heap.size w w' := by
 have hu27 := Try.underlying27
 have HR0 := Ae_q hr0
 have HC0 := Ae_q hc0
 clear hr0 hc0
 have HR1 := Ae_q hr1
 have HC1 := Ae_q hc1
 clear hr1 hc1
 have HB := Ae_q (bR_q w.heap.size w)
 have H : (if (l0.length : Int) = (l1.length : Int) then (laws_eqEventS.l0 k l0 l1 0) else (some false)) = some r := h
 clear h
 by_cases c3 : (l0.length : Int) = (l1.length : Int)
 rotate_left
 ·rw [if_neg c3] at H
  have c3b0 : ((l0.length : Int) == (l1.length : Int)) = false := fN_q.mpr c3
  have c3b1 : ((l0.length : Int) != (l1.length : Int)) = true := nI_q.mpr c3
  have c3b2 : (l0.length == l1.length) = false := by first | simpa using c3 | (simp at c3 ⊢; omega)
  obtain rfl := oI_q H
  go_enter Try.func20, Try.ntmps20
  go_wp2
  go_ret
  exact ⟨by first | rfl | (simp [eN_q, eS_q] <;> rfl) | (simp [*, eN_q, eS_q] <;> rfl), bel HB.out⟩
 rw [if_pos c3] at H
 have c3b0 : ((l0.length : Int) == (l1.length : Int)) = true := beq_iff_eq.mpr c3
 have c3b1 : ((l0.length : Int) != (l1.length : Int)) = false := nE_q.mpr c3
 have c3b2 : (l0.length == l1.length) = true := by first | simpa using c3 | (simp at c3 ⊢; omega)
 clear c3
 have H' := Ae_q H
 clear H
 go_enter Try.func20, Try.ntmps20
 go_wp2
 go_loopg [5] k (fun kq v5 w' => ∃ (x5_1 : Int), v5 = .int .i64 x5_1 ∧ Aside0 (laws_eqEventS.l0 kq l0 l1 x5_1 = some r) ∧ Aside0 (kq ≤ k) ∧ Aside0 (Below w.heap.size w w'))
 case atStart => exact ⟨(0), (by first | rfl | (simp; done) | (simp [*]; done)), H', ⟨nR_q _⟩, ⟨bel HB.out⟩⟩
 case round =>
  clear H'
  try clear c1
  try clear c2
  try clear p2
  try clear c3
  try clear c3b0
  try clear c3b1
  try clear c3b2
  obtain ⟨x5_1, rfl, HA, HK1, HB⟩ := hrel
  cases gk with
  | zero => exact absurd HA.out (by simp [laws_eqEventS.l0])
  | succ k1 =>
   have H := HA.out
   clear HA
   simp only [laws_eqEventS.l0] at H
   by_cases c4 : x5_1 < (l0.length : Int)
   rotate_left
   ·rw [if_neg c4] at H
    have c4b0 : decide (x5_1 < (l0.length : Int)) = false := dF_q c4
    clear c4
    obtain rfl := oI_q H
    go_wp2
    go_ret
    exact ⟨by first | rfl | (simp [eN_q, eS_q] <;> rfl) | (simp [*, eN_q, eS_q] <;> rfl), bel HB.out⟩
   rw [if_pos c4] at H
   have c4b0 : decide (x5_1 < (l0.length : Int)) = true := dT_q c4
   clear c4
   by_cases c5 : 0 ≤ x5_1
   rotate_left
   ·rw [if_neg c5] at H
    exact absurd H (by simp)
   rw [if_pos c5] at H
   have c5b0 : decide (0 ≤ x5_1) = true := dT_q c5
   clear c5
   by_cases c6 : x5_1 < (l1.length : Int)
   rotate_left
   ·rw [if_neg c6] at H
    exact absurd H (by simp)
   rw [if_pos c6] at H
   have c6b0 : decide (x5_1 < (l1.length : Int)) = true := dT_q c6
   clear c6
   replace H := oB_q.mp H
   obtain ⟨t246, A70, H⟩ := H
   replace H : (if t246 = true then (laws_eqEventS.l0 k1 l0 l1 (wrap64 (x5_1 + 1))) else (some false)) = some r := H
   have A7 := Ae_q A70
   clear A70
   by_cases c8 : t246 = true
   ·subst c8
    have H1 : (laws_eqEventS.l0 k1 l0 l1 (wrap64 (x5_1 + 1))) = some r := by rw [if_pos rfl] at H; exact H
    clear H
    have H := H1
    clear H1
    have H' := Ae_q H
    clear H
    try go_wp2
    have n0_ := Ae_q (bD_q HB.out)
    clear HB
    have HB := n0_
    clear n0_
    have p244 : 0 ≤ (x5_1 : Int) := oD_q (by assumption)
    have q244 : x5_1 < (l0.length : Int) := oD_q (by assumption)
    obtain ⟨ad244, e244, hx244_0, hx244_1, hx244_2, hx244_3, hx244_4, hx244_5⟩ := at_T27 HR0.out x5_1 p244 q244
    have hw244_5 := hx244_5
    have hw244_4 := hx244_4
    have hw244_3 := hx244_3
    have hw244_2 := hx244_2
    have hw244_1 := hx244_1
    have hw244_0 := hx244_0
    cases e244
    replace hx244_0 := cel HB.out hx244_0
    replace hx244_1 := cel HB.out hx244_1
    replace hx244_2 := cel HB.out hx244_2
    replace hx244_3 := cel HB.out hx244_3
    replace hx244_4 := cel HB.out hx244_4
    replace hx244_5 := cel HB.out hx244_5
    replace p244 := eq_true p244
    replace q244 := eq_true q244
    have p245 : 0 ≤ (x5_1 : Int) := oD_q (by assumption)
    have q245 : x5_1 < (l1.length : Int) := oD_q (by assumption)
    obtain ⟨ad245, e245, hx245_0, hx245_1, hx245_2, hx245_3, hx245_4, hx245_5⟩ := at_T27 HR1.out x5_1 p245 q245
    have hw245_5 := hx245_5
    have hw245_4 := hx245_4
    have hw245_3 := hx245_3
    have hw245_2 := hx245_2
    have hw245_1 := hx245_1
    have hw245_0 := hx245_0
    cases e245
    replace hx245_0 := cel HB.out hx245_0
    replace hx245_1 := cel HB.out hx245_1
    replace hx245_2 := cel HB.out hx245_2
    replace hx245_3 := cel HB.out hx245_3
    replace hx245_4 := cel HB.out hx245_4
    replace hx245_5 := cel HB.out hx245_5
    replace p245 := eq_true p245
    replace q245 := eq_true q245
    refine start_ (n := 10) (S := fun w' => w'.cell? (ad244.add ((x5_1).toNat * 6)) = some (.int .i64 ((rd_T27 l0 x5_1).f0)) ∧ w'.cell? ⟨(ad244.add ((x5_1).toNat * 6)).block, (ad244.add ((x5_1).toNat * 6)).off + 1, none⟩ = some (.int .i64 ((rd_T27 l0 x5_1).f1)) ∧ w'.cell? ⟨(ad244.add ((x5_1).toNat * 6)).block, (ad244.add ((x5_1).toNat * 6)).off + 2, none⟩ = some (.int .i64 ((rd_T27 l0 x5_1).f2)) ∧ w'.cell? ⟨(ad244.add ((x5_1).toNat * 6)).block, (ad244.add ((x5_1).toNat * 6)).off + 3, none⟩ = some (.int .i64 ((rd_T27 l0 x5_1).f3)) ∧ w'.cell? ⟨(ad244.add ((x5_1).toNat * 6)).block, (ad244.add ((x5_1).toNat * 6)).off + 4, none⟩ = some (.int .i64 ((rd_T27 l0 x5_1).f4)) ∧ w'.cell? ⟨(ad244.add ((x5_1).toNat * 6)).block, (ad244.add ((x5_1).toNat * 6)).off + 5, none⟩ = some (.int .i64 ((rd_T27 l0 x5_1).f5)) ∧ w'.cell? (ad245.add ((x5_1).toNat * 6)) = some (.int .i64 ((rd_T27 l1 x5_1).f0)) ∧ w'.cell? ⟨(ad245.add ((x5_1).toNat * 6)).block, (ad245.add ((x5_1).toNat * 6)).off + 1, none⟩ = some (.int .i64 ((rd_T27 l1 x5_1).f1)) ∧ w'.cell? ⟨(ad245.add ((x5_1).toNat * 6)).block, (ad245.add ((x5_1).toNat * 6)).off + 2, none⟩ = some (.int .i64 ((rd_T27 l1 x5_1).f2)) ∧ w'.cell? ⟨(ad245.add ((x5_1).toNat * 6)).block, (ad245.add ((x5_1).toNat * 6)).off + 3, none⟩ = some (.int .i64 ((rd_T27 l1 x5_1).f3)) ∧ w'.cell? ⟨(ad245.add ((x5_1).toNat * 6)).block, (ad245.add ((x5_1).toNat * 6)).off + 4, none⟩ = some (.int .i64 ((rd_T27 l1 x5_1).f4)) ∧ w'.cell? ⟨(ad245.add ((x5_1).toNat * 6)).block, (ad245.add ((x5_1).toNat * 6)).off + 5, none⟩ = some (.int .i64 ((rd_T27 l1 x5_1).f5))) (ds := []) #[false, false, false, false, false, false, false, false, false, false] (by kernel_rfl) rfl rfl ⟨(cel HB.out hw244_0), (cel HB.out hw244_1), (cel HB.out hw244_2), (cel HB.out hw244_3), (cel HB.out hw244_4), (cel HB.out hw244_5), (cel HB.out hw245_0), (cel HB.out hw245_1), (cel HB.out hw245_2), (cel HB.out hw245_3), (cel HB.out hw245_4), (cel HB.out hw245_5)⟩ (fun hHeld => ?_); refine with_tabW laws_eqEventS.tab6 laws_eqEventS.bits6 (fun HT_ HW_ => ?_)
    generalize wr.drew = w9 at HB hx244_0 hx244_1 hx244_2 hx244_3 hx244_4 hx244_5 hx245_0 hx245_1 hx245_2 hx245_3 hx245_4 hx245_5 hHeld ⊢
    refine pure_ (i := 0) (N := some 17) (v := ?_) (a' := ?_) #[true, false, false, false, false, false, false, false, false, false] rfl rfl (any_of HT_.out (by kernel_rfl)) (fun _ _ _ h => h) (Or.inl ⟨by rfl, ?_⟩) ?_ ?_
    rotate_left
    ·intro w'
     go_simp
     with_reducible rfl
    rotate_left
    ·simp only [Act.put, sA_q, sZ_q, sS_q, i64_w, i32_w]
     rfl
    refine pure_ (i := 1) (N := some 18) (v := ?_) (a' := ?_) #[true, true, false, false, false, false, false, false, false, false] rfl rfl (any_of HT_.out (by kernel_rfl)) (fun _ _ _ h => h) (Or.inl ⟨by rfl, ?_⟩) ?_ ?_
    rotate_left
    ·intro w'
     go_simp
     with_reducible rfl
    rotate_left
    ·simp only [Act.put, sA_q, sZ_q, sS_q, i64_w, i32_w]
     rfl
    refine pure_ (i := 2) (N := some 19) (v := ?_) (a' := ?_) #[true, true, true, false, false, false, false, false, false, false] rfl rfl (any_of HT_.out (by kernel_rfl)) (fun _ _ _ h => h) (Or.inl ⟨by rfl, ?_⟩) ?_ ?_
    rotate_left
    ·intro w'
     go_simp
     with_reducible rfl
    rotate_left
    ·simp only [Act.put, sA_q, sZ_q, sS_q, i64_w, i32_w]
     rfl
    refine pure_ (i := 4) (N := some 21) (v := ?_) (a' := ?_) #[true, true, true, false, true, false, false, false, false, false] rfl rfl (any_of HT_.out (by kernel_rfl)) (fun _ _ _ h => h) (Or.inl ⟨by rfl, ?_⟩) ?_ ?_
    rotate_left
    ·intro w'
     go_simp
     with_reducible rfl
    rotate_left
    ·simp only [Act.put, sA_q, sZ_q, sS_q, i64_w, i32_w]
     rfl
    refine pure_ (i := 5) (N := some 22) (v := ?_) (a' := ?_) #[true, true, true, false, true, true, false, false, false, false] rfl rfl (any_of HT_.out (by kernel_rfl)) (fun _ _ _ h => h) (Or.inl ⟨by rfl, ?_⟩) ?_ ?_
    rotate_left
    ·intro w'
     go_simp
     with_reducible rfl
    rotate_left
    ·simp only [Act.put, sA_q, sZ_q, sS_q, i64_w, i32_w]
     rfl
    refine pure_ (i := 6) (N := some 23) (v := ?_) (a' := ?_) #[true, true, true, false, true, true, true, false, false, false] rfl rfl (any_of HT_.out (by kernel_rfl)) (fun _ _ _ h => h) (Or.inl ⟨by rfl, ?_⟩) ?_ ?_
    rotate_left
    ·intro w'
     go_simp
     with_reducible rfl
    rotate_left
    ·simp only [Act.put, sA_q, sZ_q, sS_q, i64_w, i32_w]
     rfl
    refine take_ (i := 3) (N := some 20) (v := ?_) (a' := ?_) #[true, true, true, true, true, true, true, false, false, false] rfl rfl (take_ofW HT_.out HW_.out (by kernel_rfl)) (fun _ _ _ h => h) (Or.inl ⟨by rfl, ?_⟩) hHeld ?_ ?_
    rotate_left
    ·rintro w' ⟨s0, s1, s2, s3, s4, s5, s6, s7, s8, s9, s10, s11⟩
     go_simp
     with_reducible rfl
    rotate_left
    ·simp only [Act.put, sA_q, sZ_q, sS_q, i64_w, i32_w]
     rfl
    refine take_ (i := 7) (N := some 24) (v := ?_) (a' := ?_) #[true, true, true, true, true, true, true, true, false, false] rfl rfl (take_ofW HT_.out HW_.out (by kernel_rfl)) (fun _ _ _ h => h) (Or.inl ⟨by rfl, ?_⟩) hHeld ?_ ?_
    rotate_left
    ·rintro w' ⟨s0, s1, s2, s3, s4, s5, s6, s7, s8, s9, s10, s11⟩
     go_simp
     with_reducible rfl
    rotate_left
    ·simp only [Act.put, sA_q, sZ_q, sS_q, i64_w, i32_w]
     rfl
    refine one_ (i := 8) (N := some 25) #[true, true, true, true, true, true, true, true, true, false] rfl rfl (one_of HT_.out (by kernel_rfl)) (by decide) (fun K hK => ?_)
    refine goes_ Try.func48 (by kernel_rfl) rfl #[.agg #[.int .i64 ((rd_T27 l0 x5_1).f0), .int .i64 ((rd_T27 l0 x5_1).f1), .int .i64 ((rd_T27 l0 x5_1).f2), .int .i64 ((rd_T27 l0 x5_1).f3), .int .i64 ((rd_T27 l0 x5_1).f4), .int .i64 ((rd_T27 l0 x5_1).f5)], .agg #[.int .i64 ((rd_T27 l1 x5_1).f0), .int .i64 ((rd_T27 l1 x5_1).f1), .int .i64 ((rd_T27 l1 x5_1).f2), .int .i64 ((rd_T27 l1 x5_1).f3), .int .i64 ((rd_T27 l1 x5_1).f4), .int .i64 ((rd_T27 l1 x5_1).f5)]] (by rfl) rfl rfl (by (try simp only [lM_q, lC_q, lN_q]); first | done | rfl | (simp only [lD_q, lT_q]; rfl)) ?_
    with_reducible refine (laws_eqEvent.calls ((rd_T27 l0 x5_1).f0) ((rd_T27 l0 x5_1).f1) ((rd_T27 l0 x5_1).f2) ((rd_T27 l0 x5_1).f3) ((rd_T27 l0 x5_1).f4) ((rd_T27 l0 x5_1).f5) ((rd_T27 l1 x5_1).f0) ((rd_T27 l1 x5_1).f1) ((rd_T27 l1 x5_1).f2) ((rd_T27 l1 x5_1).f3) ((rd_T27 l1 x5_1).f4) ((rd_T27 l1 x5_1).f5) true _ A7.out).mono ?_
    rintro e w10 ⟨rfl, hb⟩
    refine ⟨_, rfl, ?_⟩
    have n0_ := Ae_q (bT_q (bel HB.out) hb)
    clear HB
    have HB := n0_
    clear n0_
    (try clear hb)
    (try clear hb2)
    (try clear hk)
    (try clear hi)
    refine hK.out _ _ ⟨(cel HB.out hw244_0), (cel HB.out hw244_1), (cel HB.out hw244_2), (cel HB.out hw244_3), (cel HB.out hw244_4), (cel HB.out hw244_5), (cel HB.out hw245_0), (cel HB.out hw245_1), (cel HB.out hw245_2), (cel HB.out hw245_3), (cel HB.out hw245_4), (cel HB.out hw245_5)⟩ (fun hHeld => ?_)
    clear hK K
    refine norm_ (a' := ?_) ?_ ?_
    rotate_left
    ·show Act.put _ (some 25) _ = _
     simp only [Act.put, sA_q, sZ_q, sS_q, i64_w, i32_w]
     rfl
    refine pure_ (i := 9) (N := some 26) (v := ?_) (a' := ?_) #[true, true, true, true, true, true, true, true, true, true] rfl rfl (any_of HT_.out (by kernel_rfl)) (fun _ _ _ h => h) (Or.inl ⟨by rfl, ?_⟩) ?_ ?_
    rotate_left
    ·intro w'
     go_simp
     with_reducible rfl
    rotate_left
    ·simp only [Act.put, sA_q, sZ_q, sS_q, i64_w, i32_w]
     rfl
    refine done_ (done_of HT_.out (by kernel_rfl)) ?_
    try go_wp2
    go_roundg k1
    case measure => have := HK1.out; omega
    case rel => exact ⟨(wrap64 (x5_1 + 1)), (by first | rfl | (simp; done) | (simp [*]; done)), H', ⟨by have := HK1.out; omega⟩, ⟨bel HB.out⟩⟩
   replace c8 := fM_q.mpr c8
   subst c8
   have H1 : (some false) = some r := by rw [if_neg (show ¬ (false = true) by decide)] at H; exact H
   clear H
   have H := H1
   clear H1
   obtain rfl := oI_q H
   try go_wp2
   have n0_ := Ae_q (bD_q HB.out)
   clear HB
   have HB := n0_
   clear n0_
   have p244 : 0 ≤ (x5_1 : Int) := oD_q (by assumption)
   have q244 : x5_1 < (l0.length : Int) := oD_q (by assumption)
   obtain ⟨ad244, e244, hx244_0, hx244_1, hx244_2, hx244_3, hx244_4, hx244_5⟩ := at_T27 HR0.out x5_1 p244 q244
   have hw244_5 := hx244_5
   have hw244_4 := hx244_4
   have hw244_3 := hx244_3
   have hw244_2 := hx244_2
   have hw244_1 := hx244_1
   have hw244_0 := hx244_0
   cases e244
   replace hx244_0 := cel HB.out hx244_0
   replace hx244_1 := cel HB.out hx244_1
   replace hx244_2 := cel HB.out hx244_2
   replace hx244_3 := cel HB.out hx244_3
   replace hx244_4 := cel HB.out hx244_4
   replace hx244_5 := cel HB.out hx244_5
   replace p244 := eq_true p244
   replace q244 := eq_true q244
   have p245 : 0 ≤ (x5_1 : Int) := oD_q (by assumption)
   have q245 : x5_1 < (l1.length : Int) := oD_q (by assumption)
   obtain ⟨ad245, e245, hx245_0, hx245_1, hx245_2, hx245_3, hx245_4, hx245_5⟩ := at_T27 HR1.out x5_1 p245 q245
   have hw245_5 := hx245_5
   have hw245_4 := hx245_4
   have hw245_3 := hx245_3
   have hw245_2 := hx245_2
   have hw245_1 := hx245_1
   have hw245_0 := hx245_0
   cases e245
   replace hx245_0 := cel HB.out hx245_0
   replace hx245_1 := cel HB.out hx245_1
   replace hx245_2 := cel HB.out hx245_2
   replace hx245_3 := cel HB.out hx245_3
   replace hx245_4 := cel HB.out hx245_4
   replace hx245_5 := cel HB.out hx245_5
   replace p245 := eq_true p245
   replace q245 := eq_true q245
   refine start_ (n := 10) (S := fun w' => w'.cell? (ad244.add ((x5_1).toNat * 6)) = some (.int .i64 ((rd_T27 l0 x5_1).f0)) ∧ w'.cell? ⟨(ad244.add ((x5_1).toNat * 6)).block, (ad244.add ((x5_1).toNat * 6)).off + 1, none⟩ = some (.int .i64 ((rd_T27 l0 x5_1).f1)) ∧ w'.cell? ⟨(ad244.add ((x5_1).toNat * 6)).block, (ad244.add ((x5_1).toNat * 6)).off + 2, none⟩ = some (.int .i64 ((rd_T27 l0 x5_1).f2)) ∧ w'.cell? ⟨(ad244.add ((x5_1).toNat * 6)).block, (ad244.add ((x5_1).toNat * 6)).off + 3, none⟩ = some (.int .i64 ((rd_T27 l0 x5_1).f3)) ∧ w'.cell? ⟨(ad244.add ((x5_1).toNat * 6)).block, (ad244.add ((x5_1).toNat * 6)).off + 4, none⟩ = some (.int .i64 ((rd_T27 l0 x5_1).f4)) ∧ w'.cell? ⟨(ad244.add ((x5_1).toNat * 6)).block, (ad244.add ((x5_1).toNat * 6)).off + 5, none⟩ = some (.int .i64 ((rd_T27 l0 x5_1).f5)) ∧ w'.cell? (ad245.add ((x5_1).toNat * 6)) = some (.int .i64 ((rd_T27 l1 x5_1).f0)) ∧ w'.cell? ⟨(ad245.add ((x5_1).toNat * 6)).block, (ad245.add ((x5_1).toNat * 6)).off + 1, none⟩ = some (.int .i64 ((rd_T27 l1 x5_1).f1)) ∧ w'.cell? ⟨(ad245.add ((x5_1).toNat * 6)).block, (ad245.add ((x5_1).toNat * 6)).off + 2, none⟩ = some (.int .i64 ((rd_T27 l1 x5_1).f2)) ∧ w'.cell? ⟨(ad245.add ((x5_1).toNat * 6)).block, (ad245.add ((x5_1).toNat * 6)).off + 3, none⟩ = some (.int .i64 ((rd_T27 l1 x5_1).f3)) ∧ w'.cell? ⟨(ad245.add ((x5_1).toNat * 6)).block, (ad245.add ((x5_1).toNat * 6)).off + 4, none⟩ = some (.int .i64 ((rd_T27 l1 x5_1).f4)) ∧ w'.cell? ⟨(ad245.add ((x5_1).toNat * 6)).block, (ad245.add ((x5_1).toNat * 6)).off + 5, none⟩ = some (.int .i64 ((rd_T27 l1 x5_1).f5))) (ds := []) #[false, false, false, false, false, false, false, false, false, false] (by kernel_rfl) rfl rfl ⟨(cel HB.out hw244_0), (cel HB.out hw244_1), (cel HB.out hw244_2), (cel HB.out hw244_3), (cel HB.out hw244_4), (cel HB.out hw244_5), (cel HB.out hw245_0), (cel HB.out hw245_1), (cel HB.out hw245_2), (cel HB.out hw245_3), (cel HB.out hw245_4), (cel HB.out hw245_5)⟩ (fun hHeld => ?_); refine with_tabW laws_eqEventS.tab6 laws_eqEventS.bits6 (fun HT_ HW_ => ?_)
   generalize wr.drew = w11 at HB hx244_0 hx244_1 hx244_2 hx244_3 hx244_4 hx244_5 hx245_0 hx245_1 hx245_2 hx245_3 hx245_4 hx245_5 hHeld ⊢
   refine pure_ (i := 0) (N := some 17) (v := ?_) (a' := ?_) #[true, false, false, false, false, false, false, false, false, false] rfl rfl (any_of HT_.out (by kernel_rfl)) (fun _ _ _ h => h) (Or.inl ⟨by rfl, ?_⟩) ?_ ?_
   rotate_left
   ·intro w'
    go_simp
    with_reducible rfl
   rotate_left
   ·simp only [Act.put, sA_q, sZ_q, sS_q, i64_w, i32_w]
    rfl
   refine pure_ (i := 1) (N := some 18) (v := ?_) (a' := ?_) #[true, true, false, false, false, false, false, false, false, false] rfl rfl (any_of HT_.out (by kernel_rfl)) (fun _ _ _ h => h) (Or.inl ⟨by rfl, ?_⟩) ?_ ?_
   rotate_left
   ·intro w'
    go_simp
    with_reducible rfl
   rotate_left
   ·simp only [Act.put, sA_q, sZ_q, sS_q, i64_w, i32_w]
    rfl
   refine pure_ (i := 2) (N := some 19) (v := ?_) (a' := ?_) #[true, true, true, false, false, false, false, false, false, false] rfl rfl (any_of HT_.out (by kernel_rfl)) (fun _ _ _ h => h) (Or.inl ⟨by rfl, ?_⟩) ?_ ?_
   rotate_left
   ·intro w'
    go_simp
    with_reducible rfl
   rotate_left
   ·simp only [Act.put, sA_q, sZ_q, sS_q, i64_w, i32_w]
    rfl
   refine pure_ (i := 4) (N := some 21) (v := ?_) (a' := ?_) #[true, true, true, false, true, false, false, false, false, false] rfl rfl (any_of HT_.out (by kernel_rfl)) (fun _ _ _ h => h) (Or.inl ⟨by rfl, ?_⟩) ?_ ?_
   rotate_left
   ·intro w'
    go_simp
    with_reducible rfl
   rotate_left
   ·simp only [Act.put, sA_q, sZ_q, sS_q, i64_w, i32_w]
    rfl
   refine pure_ (i := 5) (N := some 22) (v := ?_) (a' := ?_) #[true, true, true, false, true, true, false, false, false, false] rfl rfl (any_of HT_.out (by kernel_rfl)) (fun _ _ _ h => h) (Or.inl ⟨by rfl, ?_⟩) ?_ ?_
   rotate_left
   ·intro w'
    go_simp
    with_reducible rfl
   rotate_left
   ·simp only [Act.put, sA_q, sZ_q, sS_q, i64_w, i32_w]
    rfl
   refine pure_ (i := 6) (N := some 23) (v := ?_) (a' := ?_) #[true, true, true, false, true, true, true, false, false, false] rfl rfl (any_of HT_.out (by kernel_rfl)) (fun _ _ _ h => h) (Or.inl ⟨by rfl, ?_⟩) ?_ ?_
   rotate_left
   ·intro w'
    go_simp
    with_reducible rfl
   rotate_left
   ·simp only [Act.put, sA_q, sZ_q, sS_q, i64_w, i32_w]
    rfl
   refine take_ (i := 3) (N := some 20) (v := ?_) (a' := ?_) #[true, true, true, true, true, true, true, false, false, false] rfl rfl (take_ofW HT_.out HW_.out (by kernel_rfl)) (fun _ _ _ h => h) (Or.inl ⟨by rfl, ?_⟩) hHeld ?_ ?_
   rotate_left
   ·rintro w' ⟨s0, s1, s2, s3, s4, s5, s6, s7, s8, s9, s10, s11⟩
    go_simp
    with_reducible rfl
   rotate_left
   ·simp only [Act.put, sA_q, sZ_q, sS_q, i64_w, i32_w]
    rfl
   refine take_ (i := 7) (N := some 24) (v := ?_) (a' := ?_) #[true, true, true, true, true, true, true, true, false, false] rfl rfl (take_ofW HT_.out HW_.out (by kernel_rfl)) (fun _ _ _ h => h) (Or.inl ⟨by rfl, ?_⟩) hHeld ?_ ?_
   rotate_left
   ·rintro w' ⟨s0, s1, s2, s3, s4, s5, s6, s7, s8, s9, s10, s11⟩
    go_simp
    with_reducible rfl
   rotate_left
   ·simp only [Act.put, sA_q, sZ_q, sS_q, i64_w, i32_w]
    rfl
   refine one_ (i := 8) (N := some 25) #[true, true, true, true, true, true, true, true, true, false] rfl rfl (one_of HT_.out (by kernel_rfl)) (by decide) (fun K hK => ?_)
   refine goes_ Try.func48 (by kernel_rfl) rfl #[.agg #[.int .i64 ((rd_T27 l0 x5_1).f0), .int .i64 ((rd_T27 l0 x5_1).f1), .int .i64 ((rd_T27 l0 x5_1).f2), .int .i64 ((rd_T27 l0 x5_1).f3), .int .i64 ((rd_T27 l0 x5_1).f4), .int .i64 ((rd_T27 l0 x5_1).f5)], .agg #[.int .i64 ((rd_T27 l1 x5_1).f0), .int .i64 ((rd_T27 l1 x5_1).f1), .int .i64 ((rd_T27 l1 x5_1).f2), .int .i64 ((rd_T27 l1 x5_1).f3), .int .i64 ((rd_T27 l1 x5_1).f4), .int .i64 ((rd_T27 l1 x5_1).f5)]] (by rfl) rfl rfl (by (try simp only [lM_q, lC_q, lN_q]); first | done | rfl | (simp only [lD_q, lT_q]; rfl)) ?_
   with_reducible refine (laws_eqEvent.calls ((rd_T27 l0 x5_1).f0) ((rd_T27 l0 x5_1).f1) ((rd_T27 l0 x5_1).f2) ((rd_T27 l0 x5_1).f3) ((rd_T27 l0 x5_1).f4) ((rd_T27 l0 x5_1).f5) ((rd_T27 l1 x5_1).f0) ((rd_T27 l1 x5_1).f1) ((rd_T27 l1 x5_1).f2) ((rd_T27 l1 x5_1).f3) ((rd_T27 l1 x5_1).f4) ((rd_T27 l1 x5_1).f5) false _ A7.out).mono ?_
   rintro e w12 ⟨rfl, hb⟩
   refine ⟨_, rfl, ?_⟩
   have n0_ := Ae_q (bT_q (bel HB.out) hb)
   clear HB
   have HB := n0_
   clear n0_
   (try clear hb)
   (try clear hb2)
   (try clear hk)
   (try clear hi)
   refine hK.out _ _ ⟨(cel HB.out hw244_0), (cel HB.out hw244_1), (cel HB.out hw244_2), (cel HB.out hw244_3), (cel HB.out hw244_4), (cel HB.out hw244_5), (cel HB.out hw245_0), (cel HB.out hw245_1), (cel HB.out hw245_2), (cel HB.out hw245_3), (cel HB.out hw245_4), (cel HB.out hw245_5)⟩ (fun hHeld => ?_)
   clear hK K
   refine norm_ (a' := ?_) ?_ ?_
   rotate_left
   ·show Act.put _ (some 25) _ = _
    simp only [Act.put, sA_q, sZ_q, sS_q, i64_w, i32_w]
    rfl
   refine pure_ (i := 9) (N := some 26) (v := ?_) (a' := ?_) #[true, true, true, true, true, true, true, true, true, true] rfl rfl (any_of HT_.out (by kernel_rfl)) (fun _ _ _ h => h) (Or.inl ⟨by rfl, ?_⟩) ?_ ?_
   rotate_left
   ·intro w'
    go_simp
    with_reducible rfl
   rotate_left
   ·simp only [Act.put, sA_q, sZ_q, sS_q, i64_w, i32_w]
    rfl
   refine done_ (done_of HT_.out (by kernel_rfl)) ?_
   try go_wp2
   go_ret
   exact ⟨by first | rfl | (simp [eN_q, eS_q] <;> rfl) | (simp [*, eN_q, eS_q] <;> rfl), bel HB.out⟩

end Go.Proofs.Ytnhenfmegpjigaa.PEv
