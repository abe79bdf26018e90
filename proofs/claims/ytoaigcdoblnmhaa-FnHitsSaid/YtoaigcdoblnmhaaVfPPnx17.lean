import Derived.Test.YtoaigcdoblnmhaaVfPPnx0
import Derived.Test.YtoaigcdoblnmhaaVfPPnx11
import Derived.Test.YtoaigcdoblnmhaaVfPPnx16
namespace Go.Proofs.Ytoaigcdoblnmhaa.PPn
open Go.RowKit Go.Proofs.YtoaigcdoblnmhaaW.PrintWords Go.Proofs.YtoaigcdoblnmhaaW.PrintLast Go.Proofs.YtoaigcdoblnmhaaW.PrintMore
attribute [local go_sem] max2_int min2_int max_two min_two max_three min_three max_four min_four
set_option linter.unusedVariables false
set_option linter.unusedSimpArgs false

mutual
def spec_OutageHits.l0 : Nat → List (S31) → List Int → List Int → Int → Int → Int → Int → Option (List Int)
 | 0, _, _, _, _, _, _, _ => none
 | k + 1, x0, x1, x7, x8, x460000, x460001, x460002 => if x8 < (x0.length : Int) then ((spec_l32Starts.f k x0 x1).bind fun t463 => (if t463 = true then ((spec_l33Outage.f x460000 x460001 x460002).bind fun t464 => (spec_OutageHits.j1 k x0 x1 x7 x8 t464 x460000 x460001 x460002)) else (spec_OutageHits.j1 k x0 x1 x7 x8 false x460000 x460001 x460002))) else (spec_OutageHits.j1 k x0 x1 x7 x8 false x460000 x460001 x460002)
def spec_OutageHits.j1 : Nat → List (S31) → List Int → List Int → Int → Bool → Int → Int → Int → Option (List Int)
 | 0, _, _, _, _, _, _, _, _ => none
 | k + 1, x0, x1, x7, x8, x22, x460000, x460001, x460002 => if x22 = true then (if 0 ≤ x8 then (if x8 < (x0.length : Int) then (if x8 < (x1.length : Int) then ((spec_l33Hit.f ((rd_T31 x0 x8).f0) ((rd_T31 x0 x8).f1) ((rd_T31 x0 x8).f2) ((rd_T31 x0 x8).f3) (rd x1 x8) x460000 x460001 x460002).bind fun t467 => (if t467 = true then (if x7.length < 17592186044416 then (spec_OutageHits.l0 k x0 x1 (x7 ++ [x8]) (wrap64 (x8 + 1)) x460000 x460001 x460002) else (none)) else (spec_OutageHits.l0 k x0 x1 x7 (wrap64 (x8 + 1)) x460000 x460001 x460002))) else (none)) else (none)) else (none)) else (some x7)
end
def spec_OutageHits.f (k : Nat) (l0 : List (S31)) (l1 : List Int) (a2_0 : Int) (a2_1 : Int) (a2_2 : Int) : Option (List Int) := spec_OutageHits.l0 k l0 l1 (([] : List Int)) 0 a2_0 a2_1 a2_2
def spec_OutageHits.T5 : Bool × List (List Nat × List Nat) := (true, [([], []), ([], []), ([0, 1], [0, 1]), ([2], [2]), ([], []), ([], []), ([4, 5], [4, 5]), ([6], [6]), ([], []), ([3, 7, 8], [3, 7, 8])])
def spec_OutageHits.B5 : List Nat := [0, 0, 3, 7, 0, 0, 48, 112, 0, 511]
theorem spec_OutageHits.tab5 : rtab .any (opsOf Try.f30 5) = spec_OutageHits.T5 := by kernel_rfl
theorem spec_OutageHits.bits5 : waitsOk spec_OutageHits.T5.2 spec_OutageHits.B5 = true := by kernel_rfl
set_option maxHeartbeats 8000000 in
set_option maxRecDepth 100000 in
theorem spec_OutageHits.calls (k : Nat) (A0 : Option Addr) (c0 : Nat) (l0 : List (S31)) (A1 : Option Addr) (c1 : Nat) (l1 : List Int) (a2_0 : Int) (a2_1 : Int) (a2_2 : Int) (r : List Int) (w : World) (hr0 : Kd.C k31 w A0 l0.length l0) (hc0 : l0.length ≤ c0) (hr1 : Kd.C kI_q w A1 l1.length l1) (hc1 : l1.length ≤ c1) (h : spec_OutageHits.f k l0 l1 a2_0 a2_1 a2_2 = some r) :
    Calls Try.prog 30 #[.slice A0 l0.length c0, .slice A1 l1.length c1, .agg #[.int .i64 a2_0, .int .i64 a2_1, .int .i64 a2_2]] w fun e w' => ∃ v0_ : Value, e = .returned (v0_) ∧ Kd.R kI_q 3 w' w.heap.size (fun _ => True) v0_ r ∧ Below w.heap.size w w' := by
 have hu52 := Try.underlying52
 have hu31 := Try.underlying31
 have HR0 := Ae_q hr0
 have HC0 := Ae_q hc0
 clear hr0 hc0
 have HR1 := Ae_q hr1
 have HC1 := Ae_q hc1
 clear hr1 hc1
 have HB := Ae_q (bR_q w.heap.size w)
 have H : (spec_OutageHits.l0 k l0 l1 (([] : List Int)) 0 a2_0 a2_1 a2_2) = some r := h
 clear h
 obtain ⟨y460, hy460⟩ : ∃ y_ : List Int, y_ = (([] : List Int)) := ⟨_, rfl⟩
 replace H : (spec_OutageHits.l0 k l0 l1 y460 0 a2_0 a2_1 a2_2) = some r := by first | (rw [hy460]; with_reducible exact H) | (have H2_ := (oS_q _ _).symm.trans H; rw [hy460]; with_reducible exact H2_) | (have H2_ := (oS_q _ _).symm.trans H; with_reducible exact H2_) | with_reducible exact H | (rw [hy460]; exact H) | exact H
 have Ny460 := Ae_q hy460
 clear hy460
 have H' := Ae_q H
 clear H
 go_enter Try.func30, Try.ntmps30
 go_wp2_with (first | ((with_reducible refine gD_q (N := 5) rfl ?_); refine bE_q ?hg (N := 5) ?hd (cs := #[.int .i64 a2_0, .int .i64 a2_1, .int .i64 a2_2]) (t := 52) ?hr ?_; (case hd => rfl); (case hg => rfl); (case hr => first | (go_simp; done) | (go_simp; rfl)); intro gb459 hg w4 hbox hb; have n0_ := Ae_q (bT_q (bel HB.out) hb); have n1_ := Ae_q (hbox); have n2_ := Ae_q ((by rw [hg]; exact (bZ_q (bel HB.out)) : w.heap.size ≤ gb459)); have n3_ := Ae_q ((by rw [hg]; exact (bZ_q (bel HB.out)) : w.heap.size ≤ gb459)); clear HB; have HB := n0_; have BK459 := n1_; have GW459 := n2_; have GE459 := n3_; clear n0_ n1_ n2_ n3_; clear hb hbox hg) | ((with_reducible refine gD_q (N := 9) rfl ?_); refine Kd.R_lit kI_q _ 3 ?hg (N := 9) ?hd (xs := ([] : List Int)) (inner := []) (ok := fun _ => True) (okp := fun _ => True) ?hr ?hp (fun _ hk => hk) trivial (bR_q _ _) (nR_q _) (by simp) ?_; (case hd => rfl); (case hg => rfl); (case hr => first | (go_simp; done) | (go_simp; rfl)); (case hp => exact (Reps.none _ _)); intro v461 w5 ho6 hb hg_ hnew_; clear hg_ hnew_; (first | rw [← Ny460.out] at ho6 | (simp only [Int.reduceToNat] at ho6; rw [← Ny460.out] at ho6)); have n0_ := Ae_q (rL_q ho6 (bZ_q (by repeat (with_reducible first | exact HB.out | apply bA_q | apply pB_q | apply bD_q | refine bS_q ?_ GE459.out)))); have n1_ := Ae_q (bB_q (g := gb459) (o := .cells #[.int .i64 a2_0, .int .i64 a2_1, .int .i64 a2_2] 52 (0, 0)) (bup BK459.out) hb); have n2_ := Ae_q (bT_q (by repeat (with_reducible first | exact HB.out | apply bA_q | apply pB_q | apply bD_q | refine bS_q ?_ GE459.out)) hb); clear BK459; clear HB; have HO462 := n0_; have BK459 := n1_; have HB := n2_; clear n0_ n1_ n2_; clear hb ho6))
 go_loopg [7, 8] k (fun kq v7 v8 w' => ∃ (x7_1 : List Int) (x8_1 : Int), v8 = .int .i64 x8_1 ∧ Aside0 (spec_OutageHits.l0 kq l0 l1 x7_1 x8_1 a2_0 a2_1 a2_2 = some r) ∧ Aside0 (kq ≤ k) ∧ Aside0 (Kd.R kI_q 3 w' w.heap.size (fun _ => True) v7 x7_1) ∧ Aside0 (w'.heap[gb459]? = some (.cells #[.int .i64 a2_0, .int .i64 a2_1, .int .i64 a2_2] 52 (0, 0))) ∧ Aside0 (Below w.heap.size w w'))
 case atStart => exact ⟨(y460), (0), (by first | rfl | (simp; done) | (simp [*]; done)), H', ⟨nR_q _⟩, ⟨by (with_reducible repeat (first | apply rA_q | apply rN_q | apply rD_q)); exact HO462.out⟩, ⟨by (with_reducible repeat (first | refine bN_q ?_ _ | refine bW_q ?_ | refine bL_q ?_ _)); exact BK459.out⟩, ⟨by repeat (with_reducible first | exact HB.out | apply bA_q | apply pB_q | apply bD_q | refine bS_q ?_ GE459.out)⟩⟩
 case round =>
  clear H'
  try clear c1
  try clear p2
  try clear c3
  obtain ⟨x7_1, x8_1, rfl, HA, HK1, HO_7, BK459, HB⟩ := hrel
  cases gk with
  | zero => exact absurd HA.out (by simp [spec_OutageHits.l0])
  | succ k1 =>
   have H := HA.out
   clear HA
   simp only [spec_OutageHits.l0] at H
   have HC7 := Ae_q H
   clear H
   go_upto_region 3 with (fail)
   go_cut [22] (fun v22 wc => ∃ (kq : Nat) (x22_6 : Bool), v22 = .bool x22_6 ∧ Aside0 (spec_OutageHits.j1 kq l0 l1 x7_1 x8_1 x22_6 a2_0 a2_1 a2_2 = some r) ∧ Aside0 (kq ≤ k1) ∧ Aside0 (Kd.R kI_q 3 wc w.heap.size (fun _ => True) u7 x7_1) ∧ Aside0 (wc.heap[gb459]? = some (.cells #[.int .i64 a2_0, .int .i64 a2_1, .int .i64 a2_2] 52 (0, 0))) ∧ Aside0 (Below w.heap.size w wc))
   case first =>
    have H := HC7.out
    clear HC7
    by_cases c8 : x8_1 < (l0.length : Int)
    rotate_left
    ·rw [if_neg c8] at H
     have c8b0 : decide (x8_1 < (l0.length : Int)) = false := dF_q c8
     clear c8
     (first | rw [c8b0] | (simp only [i64_w, i32_w]; rw [c8b0]) | skip)
     have H' := Ae_q H
     clear H
     go_wp2
     go_meet
     case rel => exact ⟨_, (false), (by first | rfl | (simp; done) | (simp [*]; done)), H', ⟨by have := HK1.out; first | omega | exact nR_q _⟩, ⟨by (with_reducible repeat (first | apply rA_q | apply rN_q | apply rD_q)); exact HO_7.out⟩, ⟨by (with_reducible repeat (first | refine bN_q ?_ _ | refine bW_q ?_ | refine bL_q ?_ _)); exact BK459.out⟩, ⟨by repeat (with_reducible first | exact HB.out | apply bA_q | apply pB_q | apply bD_q | refine bS_q ?_ GE459.out)⟩⟩
    rw [if_pos c8] at H
    have c8b0 : decide (x8_1 < (l0.length : Int)) = true := dT_q c8
    clear c8
    (first | rw [c8b0] | (simp only [i64_w, i32_w]; rw [c8b0]) | skip)
    replace H := oB_q.mp H
    obtain ⟨t463, A90, H⟩ := H
    replace H : (if t463 = true then ((spec_l33Outage.f a2_0 a2_1 a2_2).bind fun t464 => (spec_OutageHits.j1 k1 l0 l1 x7_1 x8_1 t464 a2_0 a2_1 a2_2)) else (spec_OutageHits.j1 k1 l0 l1 x7_1 x8_1 false a2_0 a2_1 a2_2)) = some r := H
    have A9 := Ae_q A90
    clear A90
    by_cases c10 : t463 = true
    rotate_left
    ·replace c10 := fM_q.mpr c10
     subst c10
     have H1 : (spec_OutageHits.j1 k1 l0 l1 x7_1 x8_1 false a2_0 a2_1 a2_2) = some r := by rw [if_neg (show ¬ (false = true) by decide)] at H; exact H
     clear H
     have H := H1
     clear H1
     have H' := Ae_q H
     clear H
     go_wp2_with (first | (go_at_call 37; (with_reducible refine (spec_l32Starts.calls k1 _ _ l0 _ _ l1 false _ ?side1 ?side2 ?side3 ?side4 A9.out).mono ?_); (case side1 => exact cup (cB_q HR0.out HB.out)); (case side2 => exact HC0.out); (case side3 => exact cup (cB_q HR1.out HB.out)); (case side4 => exact HC1.out); rintro e w15 ⟨rfl, hb⟩; have n0_ := Ae_q (rO_q (rup HO_7.out) hb); have n1_ := Ae_q (bB_q (g := gb459) (o := .cells #[.int .i64 a2_0, .int .i64 a2_1, .int .i64 a2_2] 52 (0, 0)) (bup BK459.out) hb); have n2_ := Ae_q (bT_q (by repeat (with_reducible first | exact HB.out | apply bA_q | apply pB_q | apply bD_q | refine bS_q ?_ GE459.out)) hb); clear HO_7; clear BK459; clear HB; have HO_7 := n0_; have BK459 := n1_; have HB := n2_; clear n0_ n1_ n2_; (try clear hb); (try clear hb2); (try clear hk); (try clear hi)))
     go_meet
     case rel => exact ⟨_, (false), (by first | rfl | (simp; done) | (simp [*]; done)), H', ⟨by have := HK1.out; first | omega | exact nR_q _⟩, ⟨by (with_reducible repeat (first | apply rA_q | apply rN_q | apply rD_q)); exact HO_7.out⟩, ⟨by (with_reducible repeat (first | refine bN_q ?_ _ | refine bW_q ?_ | refine bL_q ?_ _)); exact BK459.out⟩, ⟨by repeat (with_reducible first | exact HB.out | apply bA_q | apply pB_q | apply bD_q | refine bS_q ?_ GE459.out)⟩⟩
    subst c10
    have H1 : ((spec_l33Outage.f a2_0 a2_1 a2_2).bind fun t464 => (spec_OutageHits.j1 k1 l0 l1 x7_1 x8_1 t464 a2_0 a2_1 a2_2)) = some r := by rw [if_pos rfl] at H; exact H
    clear H
    have H := H1
    clear H1
    replace H := oB_q.mp H
    obtain ⟨t464, A110, H⟩ := H
    replace H : (spec_OutageHits.j1 k1 l0 l1 x7_1 x8_1 t464 a2_0 a2_1 a2_2) = some r := H
    have A11 := Ae_q A110
    clear A110
    have H' := Ae_q H
    clear H
    go_wp2_with (first | (go_at_call 37; (with_reducible refine (spec_l32Starts.calls k1 _ _ l0 _ _ l1 true _ ?side1 ?side2 ?side3 ?side4 A9.out).mono ?_); (case side1 => exact cup (cB_q HR0.out HB.out)); (case side2 => exact HC0.out); (case side3 => exact cup (cB_q HR1.out HB.out)); (case side4 => exact HC1.out); rintro e w12 ⟨rfl, hb⟩; have n0_ := Ae_q (rO_q (rup HO_7.out) hb); have n1_ := Ae_q (bB_q (g := gb459) (o := .cells #[.int .i64 a2_0, .int .i64 a2_1, .int .i64 a2_2] 52 (0, 0)) (bup BK459.out) hb); have n2_ := Ae_q (bT_q (by repeat (with_reducible first | exact HB.out | apply bA_q | apply pB_q | apply bD_q | refine bS_q ?_ GE459.out)) hb); clear HO_7; clear BK459; clear HB; have HO_7 := n0_; have BK459 := n1_; have HB := n2_; clear n0_ n1_ n2_; (try clear hb); (try clear hb2); (try clear hk); (try clear hi); have hcz13_0 : w12.cell? ⟨gb459, 0, none⟩ = some (.int .i64 a2_0) := (bC_q BK459.out 0).trans rfl; have hcz13_1 : w12.cell? ⟨gb459, 1, none⟩ = some (.int .i64 a2_1) := (bC_q BK459.out 1).trans rfl; have hcz13_2 : w12.cell? ⟨gb459, 2, none⟩ = some (.int .i64 a2_2) := (bC_q BK459.out 2).trans rfl; have hfz13_0 := bF_q BK459.out 0; have hfz13_1 := bF_q BK459.out 1; have hfz13_2 := bF_q BK459.out 2) | (go_at_call 52; (with_reducible refine (spec_l33Outage.calls a2_0 a2_1 a2_2 t464 _ A11.out).mono ?_); rintro e w14 ⟨rfl, hb⟩; have n0_ := Ae_q (rO_q (rup HO_7.out) hb); have n1_ := Ae_q (bB_q (g := gb459) (o := .cells #[.int .i64 a2_0, .int .i64 a2_1, .int .i64 a2_2] 52 (0, 0)) (bup BK459.out) hb); have n2_ := Ae_q (bT_q (by repeat (with_reducible first | exact HB.out | apply bA_q | apply pB_q | apply bD_q | refine bS_q ?_ GE459.out)) hb); clear HO_7; clear BK459; clear HB; have HO_7 := n0_; have BK459 := n1_; have HB := n2_; clear n0_ n1_ n2_; (try clear hb); (try clear hb2); (try clear hk); (try clear hi)))
    go_meet
    case rel => exact ⟨_, (t464), (by first | rfl | (simp; done) | (simp [*]; done)), H', ⟨by have := HK1.out; first | omega | exact nR_q _⟩, ⟨by (with_reducible repeat (first | apply rA_q | apply rN_q | apply rD_q)); exact HO_7.out⟩, ⟨by (with_reducible repeat (first | refine bN_q ?_ _ | refine bW_q ?_ | refine bL_q ?_ _)); exact BK459.out⟩, ⟨by repeat (with_reducible first | exact HB.out | apply bA_q | apply pB_q | apply bD_q | refine bS_q ?_ GE459.out)⟩⟩
   case rest =>
    clear HC7
    try clear c1
    try clear p2
    try clear c3
    try clear c8
    try clear c8b0
    try clear c10
    try clear hcz13_0
    try clear hcz13_1
    try clear hcz13_2
    try clear hfz13_0
    try clear hfz13_1
    try clear hfz13_2
    try clear p2
    obtain ⟨kq, x22_6, rfl, HA, HJ6, HO_7, BK459, HB⟩ := hcut
    cases kq with
    | zero => exact absurd HA.out (by simp [spec_OutageHits.j1])
    | succ kj6 =>
     have H := HA.out
     clear HA
     simp only [spec_OutageHits.j1] at H
     by_cases c16 : x22_6 = true
     rotate_left
     ·replace c16 := fM_q.mpr c16
      subst c16
      have H1 : (some x7_1) = some r := by rw [if_neg (show ¬ (false = true) by decide)] at H; exact H
      clear H
      have H := H1
      clear H1
      obtain rfl := oI_q H
      go_wp2
      go_ret
      exact ⟨_, by first | rfl | (simp [eN_q, eS_q] <;> rfl) | (simp [*, eN_q, eS_q] <;> rfl), by (with_reducible repeat (first | apply rA_q | apply rN_q | apply rD_q)); exact HO_7.out, by repeat (with_reducible first | exact HB.out | apply bA_q | apply pB_q | apply bD_q | refine bS_q ?_ GE459.out)⟩
     subst c16
     have H1 : (if 0 ≤ x8_1 then (if x8_1 < (l0.length : Int) then (if x8_1 < (l1.length : Int) then ((spec_l33Hit.f ((rd_T31 l0 x8_1).f0) ((rd_T31 l0 x8_1).f1) ((rd_T31 l0 x8_1).f2) ((rd_T31 l0 x8_1).f3) (rd l1 x8_1) a2_0 a2_1 a2_2).bind fun t467 => (if t467 = true then (if x7_1.length < 17592186044416 then (spec_OutageHits.l0 kj6 l0 l1 (x7_1 ++ [x8_1]) (wrap64 (x8_1 + 1)) a2_0 a2_1 a2_2) else (none)) else (spec_OutageHits.l0 kj6 l0 l1 x7_1 (wrap64 (x8_1 + 1)) a2_0 a2_1 a2_2))) else (none)) else (none)) else (none)) = some r := by rw [if_pos rfl] at H; exact H
     clear H
     have H := H1
     clear H1
     by_cases c17 : 0 ≤ x8_1
     rotate_left
     ·rw [if_neg c17] at H
      exact absurd H (by simp)
     rw [if_pos c17] at H
     have c17b0 : decide (0 ≤ x8_1) = true := dT_q c17
     clear c17
     by_cases c18 : x8_1 < (l0.length : Int)
     rotate_left
     ·rw [if_neg c18] at H
      exact absurd H (by simp)
     rw [if_pos c18] at H
     have c18b0 : decide (x8_1 < (l0.length : Int)) = true := dT_q c18
     clear c18
     by_cases c19 : x8_1 < (l1.length : Int)
     rotate_left
     ·rw [if_neg c19] at H
      exact absurd H (by simp)
     rw [if_pos c19] at H
     have c19b0 : decide (x8_1 < (l1.length : Int)) = true := dT_q c19
     clear c19
     replace H := oB_q.mp H
     obtain ⟨t467, A200, H⟩ := H
     replace H : (if t467 = true then (if x7_1.length < 17592186044416 then (spec_OutageHits.l0 kj6 l0 l1 (x7_1 ++ [x8_1]) (wrap64 (x8_1 + 1)) a2_0 a2_1 a2_2) else (none)) else (spec_OutageHits.l0 kj6 l0 l1 x7_1 (wrap64 (x8_1 + 1)) a2_0 a2_1 a2_2)) = some r := H
     have A20 := Ae_q A200
     clear A200
     by_cases c21 : t467 = true
     rotate_left
     ·replace c21 := fM_q.mpr c21
      subst c21
      have H1 : (spec_OutageHits.l0 kj6 l0 l1 x7_1 (wrap64 (x8_1 + 1)) a2_0 a2_1 a2_2) = some r := by rw [if_neg (show ¬ (false = true) by decide)] at H; exact H
      clear H
      have H := H1
      clear H1
      have H' := Ae_q H
      clear H
      try go_wp2
      have n0_ := Ae_q (rD_q HO_7.out)
      have n1_ := Ae_q (bW_q BK459.out)
      have n2_ := Ae_q (bD_q HB.out)
      clear HO_7
      clear BK459
      clear HB
      have HO_7 := n0_
      have BK459 := n1_
      have HB := n2_
      clear n0_ n1_ n2_
      have p465 : 0 ≤ (x8_1 : Int) := oD_q (by assumption)
      have q465 : x8_1 < (l0.length : Int) := oD_q (by assumption)
      obtain ⟨ad465, A465_3, c465_3, e465, hx465_0, hx465_1, hx465_2, hx465_3, hl465_3, hi465_3⟩ := at_T31 HR0.out x8_1 p465 q465
      have hw465_3 := hx465_3
      have hw465_2 := hx465_2
      have hw465_1 := hx465_1
      have hw465_0 := hx465_0
      cases e465
      replace hx465_0 := cel HB.out hx465_0
      replace hx465_1 := cel HB.out hx465_1
      replace hx465_2 := cel HB.out hx465_2
      replace hx465_3 := cel HB.out hx465_3
      have HR465_3 := Ae_q hi465_3
      have HC465_3 := Ae_q hl465_3
      clear hi465_3 hl465_3
      replace p465 := eq_true p465
      replace q465 := eq_true q465
      have p466 : 0 ≤ (x8_1 : Int) := oD_q (by assumption)
      have q466 : x8_1 < (l1.length : Int) := oD_q (by assumption)
      obtain ⟨ad466, e466, hx466_0⟩ := aI_q HR1.out x8_1 p466 q466
      have hw466_0 := hx466_0
      cases e466
      replace hx466_0 := cel HB.out hx466_0
      replace p466 := eq_true p466
      replace q466 := eq_true q466
      refine start_ (n := 10) (S := fun w' => w'.cell? ⟨gb459, 0, none⟩ = some (.int .i64 a2_0) ∧ w'.cell? ⟨gb459, 1, none⟩ = some (.int .i64 a2_1) ∧ w'.cell? ⟨gb459, 2, none⟩ = some (.int .i64 a2_2) ∧ w'.cell? (ad465.add ((x8_1).toNat * 4)) = some (.int .i64 ((rd_T31 l0 x8_1).f0)) ∧ w'.cell? ⟨(ad465.add ((x8_1).toNat * 4)).block, (ad465.add ((x8_1).toNat * 4)).off + 1, none⟩ = some (.int .i64 ((rd_T31 l0 x8_1).f1)) ∧ w'.cell? ⟨(ad465.add ((x8_1).toNat * 4)).block, (ad465.add ((x8_1).toNat * 4)).off + 2, none⟩ = some (.int .i64 ((rd_T31 l0 x8_1).f2)) ∧ w'.cell? ⟨(ad465.add ((x8_1).toNat * 4)).block, (ad465.add ((x8_1).toNat * 4)).off + 3, none⟩ = some (.slice A465_3 ((rd_T31 l0 x8_1).f3).length c465_3) ∧ w'.cell? (ad466.add (x8_1).toNat) = some (.int .i64 (rd l1 x8_1))) (ds := []) #[false, false, false, false, false, false, false, false, false, false] (by kernel_rfl) rfl rfl ⟨(bC_q BK459.out 0).trans rfl, (bC_q BK459.out 1).trans rfl, (bC_q BK459.out 2).trans rfl, (cel HB.out hw465_0), (cel HB.out hw465_1), (cel HB.out hw465_2), (cel HB.out hw465_3), (cel HB.out hw466_0)⟩ (fun hHeld => ?_); refine with_tabW spec_OutageHits.tab5 spec_OutageHits.bits5 (fun HT_ HW_ => ?_)
      generalize wc.drew = w26 at HO_7 BK459 HB HR465_3 hx465_0 hx465_1 hx465_2 hx465_3 hx466_0 hHeld ⊢
      refine pure_ (i := 0) (N := some 25) (v := ?_) (a' := ?_) #[true, false, false, false, false, false, false, false, false, false] rfl rfl (any_of HT_.out (by kernel_rfl)) (fun _ _ _ h => h) (Or.inl ⟨by rfl, ?_⟩) ?_ ?_
      rotate_left
      ·intro w'
       go_simp
       with_reducible rfl
      rotate_left
      ·simp only [Act.put, sA_q, sZ_q, sS_q, i64_w, i32_w]
       rfl
      refine pure_ (i := 1) (N := some 26) (v := ?_) (a' := ?_) #[true, true, false, false, false, false, false, false, false, false] rfl rfl (any_of HT_.out (by kernel_rfl)) (fun _ _ _ h => h) (Or.inl ⟨by rfl, ?_⟩) ?_ ?_
      rotate_left
      ·intro w'
       go_simp
       with_reducible rfl
      rotate_left
      ·simp only [Act.put, sA_q, sZ_q, sS_q, i64_w, i32_w]
       rfl
      refine pure_ (i := 2) (N := some 27) (v := ?_) (a' := ?_) #[true, true, true, false, false, false, false, false, false, false] rfl rfl (any_of HT_.out (by kernel_rfl)) (fun _ _ _ h => h) (Or.inl ⟨by rfl, ?_⟩) ?_ ?_
      rotate_left
      ·intro w'
       go_simp
       with_reducible rfl
      rotate_left
      ·simp only [Act.put, sA_q, sZ_q, sS_q, i64_w, i32_w]
       rfl
      refine pure_ (i := 4) (N := some 29) (v := ?_) (a' := ?_) #[true, true, true, false, true, false, false, false, false, false] rfl rfl (any_of HT_.out (by kernel_rfl)) (fun _ _ _ h => h) (Or.inl ⟨by rfl, ?_⟩) ?_ ?_
      rotate_left
      ·intro w'
       go_simp
       with_reducible rfl
      rotate_left
      ·simp only [Act.put, sA_q, sZ_q, sS_q, i64_w, i32_w]
       rfl
      refine pure_ (i := 5) (N := some 30) (v := ?_) (a' := ?_) #[true, true, true, false, true, true, false, false, false, false] rfl rfl (any_of HT_.out (by kernel_rfl)) (fun _ _ _ h => h) (Or.inl ⟨by rfl, ?_⟩) ?_ ?_
      rotate_left
      ·intro w'
       go_simp
       with_reducible rfl
      rotate_left
      ·simp only [Act.put, sA_q, sZ_q, sS_q, i64_w, i32_w]
       rfl
      refine pure_ (i := 6) (N := some 31) (v := ?_) (a' := ?_) #[true, true, true, false, true, true, true, false, false, false] rfl rfl (any_of HT_.out (by kernel_rfl)) (fun _ _ _ h => h) (Or.inl ⟨by rfl, ?_⟩) ?_ ?_
      rotate_left
      ·intro w'
       go_simp
       with_reducible rfl
      rotate_left
      ·simp only [Act.put, sA_q, sZ_q, sS_q, i64_w, i32_w]
       rfl
      refine take_ (i := 3) (N := some 28) (v := ?_) (a' := ?_) #[true, true, true, true, true, true, true, false, false, false] rfl rfl (take_ofW HT_.out HW_.out (by kernel_rfl)) (fun _ _ _ h => h) (Or.inl ⟨by rfl, ?_⟩) hHeld ?_ ?_
      rotate_left
      ·rintro w' ⟨s0, s1, s2, s3, s4, s5, s6, s7⟩
       go_simp
       with_reducible rfl
      rotate_left
      ·simp only [Act.put, sA_q, sZ_q, sS_q, i64_w, i32_w]
       rfl
      refine take_ (i := 7) (N := some 32) (v := ?_) (a' := ?_) #[true, true, true, true, true, true, true, true, false, false] rfl rfl (take_ofW HT_.out HW_.out (by kernel_rfl)) (fun _ _ _ h => h) (Or.inl ⟨by rfl, ?_⟩) hHeld ?_ ?_
      rotate_left
      ·rintro w' ⟨s0, s1, s2, s3, s4, s5, s6, s7⟩
       go_simp
       with_reducible rfl
      rotate_left
      ·simp only [Act.put, sA_q, sZ_q, sS_q, i64_w, i32_w]
       rfl
      refine take_ (i := 8) (N := some 33) (v := ?_) (a' := ?_) #[true, true, true, true, true, true, true, true, true, false] rfl rfl (take_ofW HT_.out HW_.out (by kernel_rfl)) (fun _ _ _ h => h) (Or.inl ⟨by rfl, ?_⟩) hHeld ?_ ?_
      rotate_left
      ·rintro w' ⟨s0, s1, s2, s3, s4, s5, s6, s7⟩
       go_simp
       with_reducible rfl
      rotate_left
      ·simp only [Act.put, sA_q, sZ_q, sS_q, i64_w, i32_w]
       rfl
      refine one_ (i := 9) (N := some 34) #[true, true, true, true, true, true, true, true, true, true] rfl rfl (one_of HT_.out (by kernel_rfl)) (by decide) (fun K hK => ?_)
      refine goes_ Try.func53 (by kernel_rfl) rfl #[.agg #[.int .i64 ((rd_T31 l0 x8_1).f0), .int .i64 ((rd_T31 l0 x8_1).f1), .int .i64 ((rd_T31 l0 x8_1).f2), .slice A465_3 ((rd_T31 l0 x8_1).f3).length c465_3], .int .i64 (rd l1 x8_1), .agg #[.int .i64 a2_0, .int .i64 a2_1, .int .i64 a2_2]] (by rfl) rfl rfl (by (try simp only [lM_q, lC_q, lN_q]); first | done | rfl | (simp only [lD_q, lT_q]; rfl)) ?_
      with_reducible refine (spec_l33Hit.calls ((rd_T31 l0 x8_1).f0) ((rd_T31 l0 x8_1).f1) ((rd_T31 l0 x8_1).f2) _ _ ((rd_T31 l0 x8_1).f3) (rd l1 x8_1) a2_0 a2_1 a2_2 false _ ?side1 ?side2 A20.out).mono ?_
      (case side1 => exact cup (cB_q HR465_3.out HB.out))
      (case side2 => exact HC465_3.out)
      rintro e w27 ⟨rfl, hb⟩
      refine ⟨_, rfl, ?_⟩
      have n0_ := Ae_q (rO_q (rup HO_7.out) hb)
      have n1_ := Ae_q (bB_q (g := gb459) (o := .cells #[.int .i64 a2_0, .int .i64 a2_1, .int .i64 a2_2] 52 (0, 0)) (bup BK459.out) hb)
      have n2_ := Ae_q (bT_q (by repeat (with_reducible first | exact HB.out | apply bA_q | apply pB_q | apply bD_q | refine bS_q ?_ GE459.out)) hb)
      clear HO_7
      clear BK459
      clear HB
      have HO_7 := n0_
      have BK459 := n1_
      have HB := n2_
      clear n0_ n1_ n2_
      (try clear hb)
      (try clear hb2)
      (try clear hk)
      (try clear hi)
      refine hK.out _ _ ⟨(bC_q BK459.out 0).trans rfl, (bC_q BK459.out 1).trans rfl, (bC_q BK459.out 2).trans rfl, (cel HB.out hw465_0), (cel HB.out hw465_1), (cel HB.out hw465_2), (cel HB.out hw465_3), (cel HB.out hw466_0)⟩ (fun hHeld => ?_)
      clear hK K
      refine norm_ (a' := ?_) ?_ ?_
      rotate_left
      ·show Act.put _ (some 34) _ = _
       simp only [Act.put, sA_q, sZ_q, sS_q, i64_w, i32_w]
       rfl
      refine done_ (done_of HT_.out (by kernel_rfl)) ?_
      try go_wp2
      go_roundg kj6
      case measure => have := HK1.out; have := HJ6.out; omega
      case rel => exact ⟨(x7_1), (wrap64 (x8_1 + 1)), (by first | rfl | (simp; done) | (simp [*]; done)), H', ⟨by have := HK1.out; have := HJ6.out; omega⟩, ⟨by (with_reducible repeat (first | apply rA_q | apply rN_q | apply rD_q)); exact HO_7.out⟩, ⟨by (with_reducible repeat (first | refine bN_q ?_ _ | refine bW_q ?_ | refine bL_q ?_ _)); exact BK459.out⟩, ⟨by repeat (with_reducible first | exact HB.out | apply bA_q | apply pB_q | apply bD_q | refine bS_q ?_ GE459.out)⟩⟩
     subst c21
     have H1 : (if x7_1.length < 17592186044416 then (spec_OutageHits.l0 kj6 l0 l1 (x7_1 ++ [x8_1]) (wrap64 (x8_1 + 1)) a2_0 a2_1 a2_2) else (none)) = some r := by rw [if_pos rfl] at H; exact H
     clear H
     have H := H1
     clear H1
     by_cases c22 : x7_1.length < 17592186044416
     rotate_left
     ·rw [if_neg c22] at H
      exact absurd H (by simp)
     rw [if_pos c22] at H
     have LMc22 := Ae_q c22
     clear c22
     obtain ⟨y468, hy468⟩ : ∃ y_ : List Int, y_ = (x7_1 ++ [x8_1]) := ⟨_, rfl⟩
     replace H : (spec_OutageHits.l0 kj6 l0 l1 y468 (wrap64 (x8_1 + 1)) a2_0 a2_1 a2_2) = some r := by first | (rw [hy468]; with_reducible exact H) | (have H2_ := (oS_q _ _).symm.trans H; rw [hy468]; with_reducible exact H2_) | (have H2_ := (oS_q _ _).symm.trans H; with_reducible exact H2_) | with_reducible exact H | (rw [hy468]; exact H) | exact H
     have Ny468 := Ae_q hy468
     clear hy468
     have H' := Ae_q H
     clear H
     try go_wp2
     have n0_ := Ae_q (rD_q HO_7.out)
     have n1_ := Ae_q (bW_q BK459.out)
     have n2_ := Ae_q (bD_q HB.out)
     clear HO_7
     clear BK459
     clear HB
     have HO_7 := n0_
     have BK459 := n1_
     have HB := n2_
     clear n0_ n1_ n2_
     have p465 : 0 ≤ (x8_1 : Int) := oD_q (by assumption)
     have q465 : x8_1 < (l0.length : Int) := oD_q (by assumption)
     obtain ⟨ad465, A465_3, c465_3, e465, hx465_0, hx465_1, hx465_2, hx465_3, hl465_3, hi465_3⟩ := at_T31 HR0.out x8_1 p465 q465
     have hw465_3 := hx465_3
     have hw465_2 := hx465_2
     have hw465_1 := hx465_1
     have hw465_0 := hx465_0
     cases e465
     replace hx465_0 := cel HB.out hx465_0
     replace hx465_1 := cel HB.out hx465_1
     replace hx465_2 := cel HB.out hx465_2
     replace hx465_3 := cel HB.out hx465_3
     have HR465_3 := Ae_q hi465_3
     have HC465_3 := Ae_q hl465_3
     clear hi465_3 hl465_3
     replace p465 := eq_true p465
     replace q465 := eq_true q465
     have p466 : 0 ≤ (x8_1 : Int) := oD_q (by assumption)
     have q466 : x8_1 < (l1.length : Int) := oD_q (by assumption)
     obtain ⟨ad466, e466, hx466_0⟩ := aI_q HR1.out x8_1 p466 q466
     have hw466_0 := hx466_0
     cases e466
     replace hx466_0 := cel HB.out hx466_0
     replace p466 := eq_true p466
     replace q466 := eq_true q466
     refine start_ (n := 10) (S := fun w' => w'.cell? ⟨gb459, 0, none⟩ = some (.int .i64 a2_0) ∧ w'.cell? ⟨gb459, 1, none⟩ = some (.int .i64 a2_1) ∧ w'.cell? ⟨gb459, 2, none⟩ = some (.int .i64 a2_2) ∧ w'.cell? (ad465.add ((x8_1).toNat * 4)) = some (.int .i64 ((rd_T31 l0 x8_1).f0)) ∧ w'.cell? ⟨(ad465.add ((x8_1).toNat * 4)).block, (ad465.add ((x8_1).toNat * 4)).off + 1, none⟩ = some (.int .i64 ((rd_T31 l0 x8_1).f1)) ∧ w'.cell? ⟨(ad465.add ((x8_1).toNat * 4)).block, (ad465.add ((x8_1).toNat * 4)).off + 2, none⟩ = some (.int .i64 ((rd_T31 l0 x8_1).f2)) ∧ w'.cell? ⟨(ad465.add ((x8_1).toNat * 4)).block, (ad465.add ((x8_1).toNat * 4)).off + 3, none⟩ = some (.slice A465_3 ((rd_T31 l0 x8_1).f3).length c465_3) ∧ w'.cell? (ad466.add (x8_1).toNat) = some (.int .i64 (rd l1 x8_1))) (ds := []) #[false, false, false, false, false, false, false, false, false, false] (by kernel_rfl) rfl rfl ⟨(bC_q BK459.out 0).trans rfl, (bC_q BK459.out 1).trans rfl, (bC_q BK459.out 2).trans rfl, (cel HB.out hw465_0), (cel HB.out hw465_1), (cel HB.out hw465_2), (cel HB.out hw465_3), (cel HB.out hw466_0)⟩ (fun hHeld => ?_); refine with_tabW spec_OutageHits.tab5 spec_OutageHits.bits5 (fun HT_ HW_ => ?_)
     generalize wc.drew = w23 at HO_7 BK459 HB HR465_3 hx465_0 hx465_1 hx465_2 hx465_3 hx466_0 hHeld ⊢
     refine pure_ (i := 0) (N := some 25) (v := ?_) (a' := ?_) #[true, false, false, false, false, false, false, false, false, false] rfl rfl (any_of HT_.out (by kernel_rfl)) (fun _ _ _ h => h) (Or.inl ⟨by rfl, ?_⟩) ?_ ?_
     rotate_left
     ·intro w'
      go_simp
      with_reducible rfl
     rotate_left
     ·simp only [Act.put, sA_q, sZ_q, sS_q, i64_w, i32_w]
      rfl
     refine pure_ (i := 1) (N := some 26) (v := ?_) (a' := ?_) #[true, true, false, false, false, false, false, false, false, false] rfl rfl (any_of HT_.out (by kernel_rfl)) (fun _ _ _ h => h) (Or.inl ⟨by rfl, ?_⟩) ?_ ?_
     rotate_left
     ·intro w'
      go_simp
      with_reducible rfl
     rotate_left
     ·simp only [Act.put, sA_q, sZ_q, sS_q, i64_w, i32_w]
      rfl
     refine pure_ (i := 2) (N := some 27) (v := ?_) (a' := ?_) #[true, true, true, false, false, false, false, false, false, false] rfl rfl (any_of HT_.out (by kernel_rfl)) (fun _ _ _ h => h) (Or.inl ⟨by rfl, ?_⟩) ?_ ?_
     rotate_left
     ·intro w'
      go_simp
      with_reducible rfl
     rotate_left
     ·simp only [Act.put, sA_q, sZ_q, sS_q, i64_w, i32_w]
      rfl
     refine pure_ (i := 4) (N := some 29) (v := ?_) (a' := ?_) #[true, true, true, false, true, false, false, false, false, false] rfl rfl (any_of HT_.out (by kernel_rfl)) (fun _ _ _ h => h) (Or.inl ⟨by rfl, ?_⟩) ?_ ?_
     rotate_left
     ·intro w'
      go_simp
      with_reducible rfl
     rotate_left
     ·simp only [Act.put, sA_q, sZ_q, sS_q, i64_w, i32_w]
      rfl
     refine pure_ (i := 5) (N := some 30) (v := ?_) (a' := ?_) #[true, true, true, false, true, true, false, false, false, false] rfl rfl (any_of HT_.out (by kernel_rfl)) (fun _ _ _ h => h) (Or.inl ⟨by rfl, ?_⟩) ?_ ?_
     rotate_left
     ·intro w'
      go_simp
      with_reducible rfl
     rotate_left
     ·simp only [Act.put, sA_q, sZ_q, sS_q, i64_w, i32_w]
      rfl
     refine pure_ (i := 6) (N := some 31) (v := ?_) (a' := ?_) #[true, true, true, false, true, true, true, false, false, false] rfl rfl (any_of HT_.out (by kernel_rfl)) (fun _ _ _ h => h) (Or.inl ⟨by rfl, ?_⟩) ?_ ?_
     rotate_left
     ·intro w'
      go_simp
      with_reducible rfl
     rotate_left
     ·simp only [Act.put, sA_q, sZ_q, sS_q, i64_w, i32_w]
      rfl
     refine take_ (i := 3) (N := some 28) (v := ?_) (a' := ?_) #[true, true, true, true, true, true, true, false, false, false] rfl rfl (take_ofW HT_.out HW_.out (by kernel_rfl)) (fun _ _ _ h => h) (Or.inl ⟨by rfl, ?_⟩) hHeld ?_ ?_
     rotate_left
     ·rintro w' ⟨s0, s1, s2, s3, s4, s5, s6, s7⟩
      go_simp
      with_reducible rfl
     rotate_left
     ·simp only [Act.put, sA_q, sZ_q, sS_q, i64_w, i32_w]
      rfl
     refine take_ (i := 7) (N := some 32) (v := ?_) (a' := ?_) #[true, true, true, true, true, true, true, true, false, false] rfl rfl (take_ofW HT_.out HW_.out (by kernel_rfl)) (fun _ _ _ h => h) (Or.inl ⟨by rfl, ?_⟩) hHeld ?_ ?_
     rotate_left
     ·rintro w' ⟨s0, s1, s2, s3, s4, s5, s6, s7⟩
      go_simp
      with_reducible rfl
     rotate_left
     ·simp only [Act.put, sA_q, sZ_q, sS_q, i64_w, i32_w]
      rfl
     refine take_ (i := 8) (N := some 33) (v := ?_) (a' := ?_) #[true, true, true, true, true, true, true, true, true, false] rfl rfl (take_ofW HT_.out HW_.out (by kernel_rfl)) (fun _ _ _ h => h) (Or.inl ⟨by rfl, ?_⟩) hHeld ?_ ?_
     rotate_left
     ·rintro w' ⟨s0, s1, s2, s3, s4, s5, s6, s7⟩
      go_simp
      with_reducible rfl
     rotate_left
     ·simp only [Act.put, sA_q, sZ_q, sS_q, i64_w, i32_w]
      rfl
     refine one_ (i := 9) (N := some 34) #[true, true, true, true, true, true, true, true, true, true] rfl rfl (one_of HT_.out (by kernel_rfl)) (by decide) (fun K hK => ?_)
     refine goes_ Try.func53 (by kernel_rfl) rfl #[.agg #[.int .i64 ((rd_T31 l0 x8_1).f0), .int .i64 ((rd_T31 l0 x8_1).f1), .int .i64 ((rd_T31 l0 x8_1).f2), .slice A465_3 ((rd_T31 l0 x8_1).f3).length c465_3], .int .i64 (rd l1 x8_1), .agg #[.int .i64 a2_0, .int .i64 a2_1, .int .i64 a2_2]] (by rfl) rfl rfl (by (try simp only [lM_q, lC_q, lN_q]); first | done | rfl | (simp only [lD_q, lT_q]; rfl)) ?_
     with_reducible refine (spec_l33Hit.calls ((rd_T31 l0 x8_1).f0) ((rd_T31 l0 x8_1).f1) ((rd_T31 l0 x8_1).f2) _ _ ((rd_T31 l0 x8_1).f3) (rd l1 x8_1) a2_0 a2_1 a2_2 true _ ?side1 ?side2 A20.out).mono ?_
     (case side1 => exact cup (cB_q HR465_3.out HB.out))
     (case side2 => exact HC465_3.out)
     rintro e w24 ⟨rfl, hb⟩
     refine ⟨_, rfl, ?_⟩
     have n0_ := Ae_q (rO_q (rup HO_7.out) hb)
     have n1_ := Ae_q (bB_q (g := gb459) (o := .cells #[.int .i64 a2_0, .int .i64 a2_1, .int .i64 a2_2] 52 (0, 0)) (bup BK459.out) hb)
     have n2_ := Ae_q (bT_q (by repeat (with_reducible first | exact HB.out | apply bA_q | apply pB_q | apply bD_q | refine bS_q ?_ GE459.out)) hb)
     clear HO_7
     clear BK459
     clear HB
     have HO_7 := n0_
     have BK459 := n1_
     have HB := n2_
     clear n0_ n1_ n2_
     (try clear hb)
     (try clear hb2)
     (try clear hk)
     (try clear hi)
     refine hK.out _ _ ⟨(bC_q BK459.out 0).trans rfl, (bC_q BK459.out 1).trans rfl, (bC_q BK459.out 2).trans rfl, (cel HB.out hw465_0), (cel HB.out hw465_1), (cel HB.out hw465_2), (cel HB.out hw465_3), (cel HB.out hw466_0)⟩ (fun hHeld => ?_)
     clear hK K
     refine norm_ (a' := ?_) ?_ ?_
     rotate_left
     ·show Act.put _ (some 34) _ = _
      simp only [Act.put, sA_q, sZ_q, sS_q, i64_w, i32_w]
      rfl
     refine done_ (done_of HT_.out (by kernel_rfl)) ?_
     try go_wp2_with (first | ((with_reducible refine gate_builtin (b := .append) (xs := #[.tmp 35, .tmp 37]) rfl ?_); at_builtin; refine Kd.R_append kI_q (w0 := w) w.heap.size rfl (.tmp 35) (.tmp 37) 24 3 (.int .i64 0) 8 rfl Try.underlying24 info3 rfl (by decide) (by omega) u7 x7_1 x8_1 [.int .i64 x8_1] (fun _ => True) (fun _ => False) rfl rfl ?aP (fun _ hk => hk.elim) ?aF ?aO ?aB ?aS ?aL ?_; (case aP => exact rfl); (case aB => exact (by repeat (with_reducible first | exact HB.out | apply bA_q | apply pB_q | apply bD_q | refine bS_q ?_ GE459.out))); (case aF => exact (fun _ _ => trivial)); (case aO => exact (rup HO_7.out)); (case aS => exact (bZ_q (by repeat (with_reducible first | exact HB.out | apply bA_q | apply pB_q | apply bD_q | refine bS_q ?_ GE459.out)))); (case aL => have := LMc22.out; omega); intro v469 w25 ho hb hg hat; rw [← Ny468.out] at ho; have n0_ := Ae_q (bG_q (g := gb459) (o := .cells #[.int .i64 a2_0, .int .i64 a2_1, .int .i64 a2_2] 52 (0, 0)) (bup BK459.out) hg (Kd.R_ne HO_7.out BK459.out (by decide))); have n1_ := Ae_q (hb); have n2_ := Ae_q (ho); clear BK459; clear HB; clear HO_7; have BK459 := n0_; have HB := n1_; have HO470 := n2_; clear n0_ n1_ n2_; clear ho hb hg hat))
     go_roundg kj6
     case measure => have := HK1.out; have := HJ6.out; omega
     case rel => exact ⟨(y468), (wrap64 (x8_1 + 1)), (by first | rfl | (simp; done) | (simp [*]; done)), H', ⟨by have := HK1.out; have := HJ6.out; omega⟩, ⟨by (with_reducible repeat (first | apply rA_q | apply rN_q | apply rD_q)); exact HO470.out⟩, ⟨by (with_reducible repeat (first | refine bN_q ?_ _ | refine bW_q ?_ | refine bL_q ?_ _)); exact BK459.out⟩, ⟨by repeat (with_reducible first | exact HB.out | apply bA_q | apply pB_q | apply bD_q | refine bS_q ?_ GE459.out)⟩⟩

def laws_hasInt.l0 : Nat → List Int → Int → Int → Option (Bool)
 | 0, _, _, _ => none
 | k + 1, x0, x1, x5 => if x5 < (x0.length : Int) then (if 0 ≤ x5 then (if (rd x0 x5) = x1 then (some true) else (laws_hasInt.l0 k x0 x1 (wrap64 (x5 + 1)))) else (none)) else (some false)
def laws_hasInt.f (k : Nat) (l0 : List Int) (a1 : Int) : Option (Bool) := laws_hasInt.l0 k l0 a1 0
set_option maxHeartbeats 8000000 in
set_option maxRecDepth 100000 in
theorem laws_hasInt.calls (k : Nat) (A0 : Option Addr) (c0 : Nat) (l0 : List Int) (a1 : Int) (r : Bool) (w : World) (hr0 : Kd.C kI_q w A0 l0.length l0) (hc0 : l0.length ≤ c0) (h : laws_hasInt.f k l0 a1 = some r) :
    Calls Try.prog 31 #[.slice A0 l0.length c0, .int .i64 a1] w fun e w' => e = .returned (.bool r) ∧ Drawn0 w w' := by
 have HR0 := Ae_q hr0
 have HC0 := Ae_q hc0
 clear hr0 hc0
 have H : (laws_hasInt.l0 k l0 a1 0) = some r := h
 clear h
 have H' := Ae_q H
 clear H
 go_enter Try.func31, Try.ntmps31
 go_wp2
 go_loopg [5] k (fun kq v5 w' => ∃ (x5_1 : Int), v5 = .int .i64 x5_1 ∧ Aside0 (laws_hasInt.l0 kq l0 a1 x5_1 = some r) ∧ Aside0 (kq ≤ k) ∧ Drawn0 w w')
 case atStart => exact ⟨(0), (by first | rfl | (simp; done) | (simp [*]; done)), H', ⟨nR_q _⟩, by repeat (first | exact Drawn0.refl _ | apply Drawn0.step)⟩
 case round =>
  clear H'
  try clear p2
  obtain ⟨x5_1, rfl, HA, HK1, ⟨m1, rfl⟩⟩ := hrel
  cases gk with
  | zero => exact absurd HA.out (by simp [laws_hasInt.l0])
  | succ k1 =>
   have H := HA.out
   clear HA
   simp only [laws_hasInt.l0] at H
   by_cases c3 : x5_1 < (l0.length : Int)
   rotate_left
   ·rw [if_neg c3] at H
    have c3b0 : decide (x5_1 < (l0.length : Int)) = false := dF_q c3
    clear c3
    obtain rfl := oI_q H
    go_wp2
    go_ret
    exact ⟨by first | rfl | (simp; done) | (simp [*]; done), by repeat (first | exact Drawn0.refl _ | apply Drawn0.step)⟩
   rw [if_pos c3] at H
   have c3b0 : decide (x5_1 < (l0.length : Int)) = true := dT_q c3
   clear c3
   by_cases c4 : 0 ≤ x5_1
   rotate_left
   ·rw [if_neg c4] at H
    exact absurd H (by simp)
   rw [if_pos c4] at H
   have c4b0 : decide (0 ≤ x5_1) = true := dT_q c4
   clear c4
   by_cases c5 : (rd l0 x5_1) = a1
   ·rw [if_pos c5] at H
    have c5b0 : ((rd l0 x5_1) == a1) = true := beq_iff_eq.mpr c5
    have c5b1 : ((rd l0 x5_1) != a1) = false := nE_q.mpr c5
    clear c5
    obtain rfl := oI_q H
    have p471 : 0 ≤ (x5_1 : Int) := oD_q (by assumption)
    have q471 : x5_1 < (l0.length : Int) := oD_q (by assumption)
    obtain ⟨ad471, e471, hx471_0⟩ := aI_q HR0.out x5_1 p471 q471
    cases e471
    replace p471 := eq_true p471
    replace q471 := eq_true q471
    go_wp2
    go_ret
    exact ⟨by first | rfl | (simp; done) | (simp [*]; done), by repeat (first | exact Drawn0.refl _ | apply Drawn0.step)⟩
   rw [if_neg c5] at H
   have c5b0 : ((rd l0 x5_1) == a1) = false := fN_q.mpr c5
   have c5b1 : ((rd l0 x5_1) != a1) = true := nI_q.mpr c5
   have H' := Ae_q H
   clear H
   have p471 : 0 ≤ (x5_1 : Int) := oD_q (by assumption)
   have q471 : x5_1 < (l0.length : Int) := oD_q (by assumption)
   obtain ⟨ad471, e471, hx471_0⟩ := aI_q HR0.out x5_1 p471 q471
   cases e471
   replace p471 := eq_true p471
   replace q471 := eq_true q471
   go_wp2
   go_roundg k1
   case measure => have := HK1.out; omega
   case rel => exact ⟨(wrap64 (x5_1 + 1)), (by first | rfl | (simp; done) | (simp [*]; done)), H', ⟨by have := HK1.out; omega⟩, by repeat (first | exact Drawn0.refl _ | apply Drawn0.step)⟩

end Go.Proofs.Ytoaigcdoblnmhaa.PPn
