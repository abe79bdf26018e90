import Derived.Test.YtoaigcdoblnmhaaVePPnx0
import Derived.Test.YtoaigcdoblnmhaaVePPnx2
namespace Go.Proofs.Ytoaigcdoblnmhaa.PPn
open Go.RowKit Go.Proofs.YtoaigcdoblnmhaaW.PrintWords Go.Proofs.YtoaigcdoblnmhaaW.PrintLast Go.Proofs.YtoaigcdoblnmhaaW.PrintMore
attribute [local go_sem] max2_int min2_int max_two min_two max_three min_three max_four min_four
set_option linter.unusedVariables false
set_option linter.unusedSimpArgs false

def spec_KitchenValid.l0 : Nat → Int → Int → List Int → Option (Bool)
 | 0, _, _, _ => none
 | k + 1, x3, x197000, x197001 => if x3 < (x197001.length : Int) then (if 0 ≤ x3 then ((spec_l6In.f (rd x197001 x3) 0 3).bind fun t198 => (if t198 = true then (spec_KitchenValid.l0 k (wrap64 (x3 + 1)) x197000 x197001) else (some false))) else (none)) else ((spec_l6In.f x197000 0 9).bind fun t199 => (if t199 = true then (some ((x197001.length : Int) == 4)) else (some false)))
def spec_KitchenValid.f (k : Nat) (a0_0 : Int) (l0_1 : List Int) : Option (Bool) := spec_KitchenValid.l0 k 0 a0_0 l0_1
theorem spec_KitchenValid.mono_l : ∀ k, (∀ y0 y1 y2, LeO (spec_KitchenValid.l0 k y0 y1 y2) (spec_KitchenValid.l0 (k + 1) y0 y1 y2))
 | 0 => fun _ _ _ r h => by simp [spec_KitchenValid.l0] at h
 | k + 1 => by
  have ih0 := spec_KitchenValid.mono_l k
  intro y0 y1 y2
  unfold spec_KitchenValid.l0
  repeat' first
  | (with_reducible exact ih0 _ _ _)
  | (with_reducible exact lR_q _)
  | (with_reducible exact lO_q _)
  | (with_reducible refine lI_q ?_ ?_)
  | (with_reducible refine lB_q ?_ (fun _ => ?_))
  | exact ih0 _ _ _
  | exact lO_q _
  | refine lI_q ?_ ?_
  | refine lB_q ?_ (fun _ => ?_)
theorem spec_KitchenValid.mono : ∀ a0 a1 k, LeO (spec_KitchenValid.f k a0 a1) (spec_KitchenValid.f (k + 1) a0 a1) := by
 intro a0 a1 k
 have ih0 := spec_KitchenValid.mono_l k
 unfold spec_KitchenValid.f
 repeat' first
  | (with_reducible exact ih0 _ _ _)
  | (with_reducible exact lR_q _)
  | (with_reducible exact lO_q _)
  | (with_reducible refine lI_q ?_ ?_)
  | (with_reducible refine lB_q ?_ (fun _ => ?_))
  | exact ih0 _ _ _
  | exact lO_q _
  | refine lI_q ?_ ?_
  | refine lB_q ?_ (fun _ => ?_)
set_option maxHeartbeats 8000000 in
set_option maxRecDepth 100000 in
theorem spec_KitchenValid.calls (k : Nat) (a0_0 : Int) (A0_1 : Option Addr) (c0_1 : Nat) (l0_1 : List Int) (r : Bool) (w : World) (hr0_1 : Kd.C kI_q w A0_1 l0_1.length l0_1) (hc0_1 : l0_1.length ≤ c0_1) (h : spec_KitchenValid.f k a0_0 l0_1 = some r) :
    Calls Try.prog 25 #[.agg #[.int .i64 a0_0, .slice A0_1 l0_1.length c0_1]] w fun e w' => e = .returned (.bool r) ∧ Below w.heap.size w w' := by
 have hu41 := Try.underlying41
 have HR0_1 := Ae_q hr0_1
 have HC0_1 := Ae_q hc0_1
 clear hr0_1 hc0_1
 have HB := Ae_q (bR_q w.heap.size w)
 have H : (spec_KitchenValid.l0 k 0 a0_0 l0_1) = some r := h
 clear h
 have H' := Ae_q H
 clear H
 go_enter Try.func25, Try.ntmps25
 go_wp2_with (first | ((with_reducible refine gD_q (N := 1) rfl ?_); (try (refine gate_guard (by rfl) ?_; dsimp only)); refine bE_q ?hg (N := 1) ?hd (cs := #[.int .i64 a0_0, .slice A0_1 l0_1.length c0_1]) (t := 41) ?hr ?_; (case hd => rfl); (case hg => rfl); (case hr => first | (go_simp; done) | (go_simp; rfl)); intro gb196 hg w2 hbox hb; have n0_ := Ae_q (bT_q (bel HB.out) hb); have n1_ := Ae_q (hbox); have n2_ := Ae_q ((by rw [hg]; exact (bZ_q (bel HB.out)) : w.heap.size ≤ gb196)); have n3_ := Ae_q ((by rw [hg]; exact (bZ_q (bel HB.out)) : w.heap.size ≤ gb196)); clear HB; have HB := n0_; have BK196 := n1_; have GW196 := n2_; have GE196 := n3_; clear n0_ n1_ n2_ n3_; clear hb hbox hg))
 go_loopg [3] k (fun kq v3 w' => ∃ (x3_1 : Int), v3 = .int .i64 x3_1 ∧ Aside0 (spec_KitchenValid.l0 kq x3_1 a0_0 l0_1 = some r) ∧ Aside0 (kq ≤ k) ∧ Aside0 (w'.heap[gb196]? = some (.cells #[.int .i64 a0_0, (.slice A0_1 l0_1.length c0_1)] 41 (0, 0))) ∧ Aside0 (Below w.heap.size w w'))
 case atStart => exact ⟨(0), (by first | rfl | (simp; done) | (simp [*]; done)), H', ⟨nR_q _⟩, ⟨by (with_reducible repeat (first | refine bN_q ?_ _ | refine bW_q ?_ | refine bL_q ?_ _)); exact BK196.out⟩, ⟨by repeat (first | (with_reducible first | exact HB.out | apply bA_q | apply pB_q | apply bD_q | refine bS_q ?_ GE196.out) | exact HB.out)⟩⟩
 case round =>
  clear H'
  try clear c2
  try clear p2
  obtain ⟨x3_1, rfl, HA, HK1, BK196, HB⟩ := hrel
  cases gk with
  | zero => exact absurd HA.out (by simp [spec_KitchenValid.l0])
  | succ k1 =>
   have H := HA.out
   clear HA
   simp only [spec_KitchenValid.l0] at H
   by_cases c3 : x3_1 < (l0_1.length : Int)
   ·rw [if_pos c3] at H
    have c3b0 : decide (x3_1 < (l0_1.length : Int)) = true := dT_q c3
    clear c3
    by_cases c4 : 0 ≤ x3_1
    ·rw [if_pos c4] at H
     have c4b0 : decide (0 ≤ x3_1) = true := dT_q c4
     clear c4
     replace H := oB_q.mp H
     obtain ⟨t198, A50, H⟩ := H
     replace H : (if t198 = true then (spec_KitchenValid.l0 k1 (wrap64 (x3_1 + 1)) a0_0 l0_1) else (some false)) = some r := H
     have A5 := Ae_q A50
     clear A50
     by_cases c6 : t198 = true
     ·subst c6
      have H1 : (spec_KitchenValid.l0 k1 (wrap64 (x3_1 + 1)) a0_0 l0_1) = some r := by rw [if_pos rfl] at H; exact H
      clear H
      have H := H1
      clear H1
      have H' := Ae_q H
      clear H
      have hcz7_0 : wr.cell? ⟨gb196, 0, none⟩ = some (.int .i64 a0_0) := (bC_q BK196.out 0).trans rfl
      have hcz7_1 : wr.cell? ⟨gb196, 1, none⟩ = some (.slice A0_1 l0_1.length c0_1) := (bC_q BK196.out 1).trans rfl
      have hfz7_0 := bF_q BK196.out 0
      have hfz7_1 := bF_q BK196.out 1
      have p197 : 0 ≤ (x3_1 : Int) := oD_q (by assumption)
      have q197 : x3_1 < (l0_1.length : Int) := oD_q (by assumption)
      obtain ⟨ad197, e197, hx197_0⟩ := aI_q HR0_1.out x3_1 p197 q197
      cases e197
      replace hx197_0 := (HB.out.cell (wL_q w _ hx197_0)).trans hx197_0
      replace p197 := eq_true p197
      replace q197 := eq_true q197
      go_wp2_with (first | ((with_reducible refine gC_q (f := 47) rfl ?_); refine gL_q (some 16) rfl rfl Try.func47 (by kernel_rfl) rfl #[.int .i64 (rd l0_1 x3_1), .int .i64 0, .int .i64 3] rfl (by (try simp only [lM_q, lC_q, lN_q]); first | done | rfl | (simp only [lD_q, lT_q]; rfl)) ?_; (with_reducible refine (spec_l6In.calls (rd l0_1 x3_1) 0 3 true _ A5.out).mono ?_); rintro e w' ⟨rfl, ⟨nd, rfl⟩⟩; refine ⟨_, rfl, ?_⟩))
      go_roundg k1
      case measure => have := HK1.out; omega
      case rel => exact ⟨(wrap64 (x3_1 + 1)), (by first | rfl | (simp; done) | (simp [*]; done)), H', ⟨by have := HK1.out; omega⟩, ⟨by (with_reducible repeat (first | refine bN_q ?_ _ | refine bW_q ?_ | refine bL_q ?_ _)); exact BK196.out⟩, ⟨by repeat (first | (with_reducible first | exact HB.out | apply bA_q | apply pB_q | apply bD_q | refine bS_q ?_ GE196.out) | exact HB.out)⟩⟩
     replace c6 := fM_q.mpr c6
     subst c6
     have H1 : (some false) = some r := by rw [if_neg (show ¬ (false = true) by decide)] at H; exact H
     clear H
     have H := H1
     clear H1
     obtain rfl := oI_q H
     have hcz8_0 : wr.cell? ⟨gb196, 0, none⟩ = some (.int .i64 a0_0) := (bC_q BK196.out 0).trans rfl
     have hcz8_1 : wr.cell? ⟨gb196, 1, none⟩ = some (.slice A0_1 l0_1.length c0_1) := (bC_q BK196.out 1).trans rfl
     have hfz8_0 := bF_q BK196.out 0
     have hfz8_1 := bF_q BK196.out 1
     have p197 : 0 ≤ (x3_1 : Int) := oD_q (by assumption)
     have q197 : x3_1 < (l0_1.length : Int) := oD_q (by assumption)
     obtain ⟨ad197, e197, hx197_0⟩ := aI_q HR0_1.out x3_1 p197 q197
     cases e197
     replace hx197_0 := (HB.out.cell (wL_q w _ hx197_0)).trans hx197_0
     replace p197 := eq_true p197
     replace q197 := eq_true q197
     go_wp2_with (first | ((with_reducible refine gC_q (f := 47) rfl ?_); refine gL_q (some 16) rfl rfl Try.func47 (by kernel_rfl) rfl #[.int .i64 (rd l0_1 x3_1), .int .i64 0, .int .i64 3] rfl (by (try simp only [lM_q, lC_q, lN_q]); first | done | rfl | (simp only [lD_q, lT_q]; rfl)) ?_; (with_reducible refine (spec_l6In.calls (rd l0_1 x3_1) 0 3 false _ A5.out).mono ?_); rintro e w' ⟨rfl, ⟨nd, rfl⟩⟩; refine ⟨_, rfl, ?_⟩))
     go_ret
     exact ⟨by first | rfl | (simp [eN_q, eS_q] <;> rfl) | (simp [*, eN_q, eS_q] <;> rfl), by repeat (first | (with_reducible first | exact HB.out | apply bA_q | apply pB_q | apply bD_q | refine bS_q ?_ GE196.out) | exact HB.out)⟩
    rw [if_neg c4] at H
    exact absurd H (by simp)
   rw [if_neg c3] at H
   have c3b0 : decide (x3_1 < (l0_1.length : Int)) = false := dF_q c3
   clear c3
   replace H := oB_q.mp H
   obtain ⟨t199, A90, H⟩ := H
   replace H : (if t199 = true then (some ((l0_1.length : Int) == 4)) else (some false)) = some r := H
   have A9 := Ae_q A90
   clear A90
   by_cases c10 : t199 = true
   ·subst c10
    have H1 : (some ((l0_1.length : Int) == 4)) = some r := by rw [if_pos rfl] at H; exact H
    clear H
    have H := H1
    clear H1
    obtain rfl := oI_q H
    have hcz11_0 : wr.cell? ⟨gb196, 0, none⟩ = some (.int .i64 a0_0) := (bC_q BK196.out 0).trans rfl
    have hcz11_1 : wr.cell? ⟨gb196, 1, none⟩ = some (.slice A0_1 l0_1.length c0_1) := (bC_q BK196.out 1).trans rfl
    have hfz11_0 := bF_q BK196.out 0
    have hfz11_1 := bF_q BK196.out 1
    go_wp2_with (first | ((with_reducible refine gC_q (f := 47) rfl ?_); refine gL_q (some 20) rfl rfl Try.func47 (by kernel_rfl) rfl #[.int .i64 a0_0, .int .i64 0, .int .i64 9] rfl (by (try simp only [lM_q, lC_q, lN_q]); first | done | rfl | (simp only [lD_q, lT_q]; rfl)) ?_; (with_reducible refine (spec_l6In.calls a0_0 0 9 true _ A9.out).mono ?_); rintro e w' ⟨rfl, ⟨nd, rfl⟩⟩; refine ⟨_, rfl, ?_⟩))
    go_ret
    exact ⟨by first | rfl | (simp [eN_q, eS_q] <;> rfl) | (simp [*, eN_q, eS_q] <;> rfl), by repeat (first | (with_reducible first | exact HB.out | apply bA_q | apply pB_q | apply bD_q | refine bS_q ?_ GE196.out) | exact HB.out)⟩
   replace c10 := fM_q.mpr c10
   subst c10
   have H1 : (some false) = some r := by rw [if_neg (show ¬ (false = true) by decide)] at H; exact H
   clear H
   have H := H1
   clear H1
   obtain rfl := oI_q H
   have hcz12_0 : wr.cell? ⟨gb196, 0, none⟩ = some (.int .i64 a0_0) := (bC_q BK196.out 0).trans rfl
   have hcz12_1 : wr.cell? ⟨gb196, 1, none⟩ = some (.slice A0_1 l0_1.length c0_1) := (bC_q BK196.out 1).trans rfl
   have hfz12_0 := bF_q BK196.out 0
   have hfz12_1 := bF_q BK196.out 1
   go_wp2_with (first | ((with_reducible refine gC_q (f := 47) rfl ?_); refine gL_q (some 20) rfl rfl Try.func47 (by kernel_rfl) rfl #[.int .i64 a0_0, .int .i64 0, .int .i64 9] rfl (by (try simp only [lM_q, lC_q, lN_q]); first | done | rfl | (simp only [lD_q, lT_q]; rfl)) ?_; (with_reducible refine (spec_l6In.calls a0_0 0 9 false _ A9.out).mono ?_); rintro e w' ⟨rfl, ⟨nd, rfl⟩⟩; refine ⟨_, rfl, ?_⟩))
   go_ret
   exact ⟨by first | rfl | (simp [eN_q, eS_q] <;> rfl) | (simp [*, eN_q, eS_q] <;> rfl), by repeat (first | (with_reducible first | exact HB.out | apply bA_q | apply pB_q | apply bD_q | refine bS_q ?_ GE196.out) | exact HB.out)⟩

def spec_l32After.l0 : Nat → List (S31) → List Int → Int → Int → Int → Option (Int)
 | 0, _, _, _, _, _ => none
 | k + 1, x0, x1, x2, x7, x8 => if 0 ≤ x2 then (if x2 < (x0.length : Int) then (if x8 < (((rd_T31 x0 x2).f3).length : Int) then (if 0 ≤ x8 then (if 0 ≤ (rd ((rd_T31 x0 x2).f3) x8) then (if (rd ((rd_T31 x0 x2).f3) x8) < (x1.length : Int) then (if (rd ((rd_T31 x0 x2).f3) x8) < (x0.length : Int) then (spec_l32After.l0 k x0 x1 x2 (mx x7 (wrap64 ((rd x1 (rd ((rd_T31 x0 x2).f3) x8)) + ((rd_T31 x0 (rd ((rd_T31 x0 x2).f3) x8)).f0)))) (wrap64 (x8 + 1))) else (none)) else (none)) else (none)) else (none)) else (some x7)) else (none)) else (none)
def spec_l32After.f (k : Nat) (l0 : List (S31)) (l1 : List Int) (a2 : Int) : Option (Int) := spec_l32After.l0 k l0 l1 a2 0 0
theorem spec_l32After.mono_l : ∀ k, (∀ y0 y1 y2 y3 y4, LeO (spec_l32After.l0 k y0 y1 y2 y3 y4) (spec_l32After.l0 (k + 1) y0 y1 y2 y3 y4))
 | 0 => fun _ _ _ _ _ r h => by simp [spec_l32After.l0] at h
 | k + 1 => by
  have ih0 := spec_l32After.mono_l k
  intro y0 y1 y2 y3 y4
  unfold spec_l32After.l0
  repeat' first
  | (with_reducible exact ih0 _ _ _ _ _)
  | (with_reducible exact lR_q _)
  | (with_reducible exact lO_q _)
  | (with_reducible refine lI_q ?_ ?_)
  | (with_reducible refine lB_q ?_ (fun _ => ?_))
  | exact ih0 _ _ _ _ _
  | exact lO_q _
  | refine lI_q ?_ ?_
  | refine lB_q ?_ (fun _ => ?_)
theorem spec_l32After.mono : ∀ a0 a1 a2 k, LeO (spec_l32After.f k a0 a1 a2) (spec_l32After.f (k + 1) a0 a1 a2) := by
 intro a0 a1 a2 k
 have ih0 := spec_l32After.mono_l k
 unfold spec_l32After.f
 repeat' first
  | (with_reducible exact ih0 _ _ _ _ _)
  | (with_reducible exact lR_q _)
  | (with_reducible exact lO_q _)
  | (with_reducible refine lI_q ?_ ?_)
  | (with_reducible refine lB_q ?_ (fun _ => ?_))
  | exact ih0 _ _ _ _ _
  | exact lO_q _
  | refine lI_q ?_ ?_
  | refine lB_q ?_ (fun _ => ?_)
set_option maxHeartbeats 8000000 in
set_option maxRecDepth 100000 in
theorem spec_l32After.calls (k : Nat) (A0 : Option Addr) (c0 : Nat) (l0 : List (S31)) (A1 : Option Addr) (c1 : Nat) (l1 : List Int) (a2 : Int) (r : Int) (w : World) (hr0 : Kd.C k31 w A0 l0.length l0) (hc0 : l0.length ≤ c0) (hr1 : Kd.C kI_q w A1 l1.length l1) (hc1 : l1.length ≤ c1) (h : spec_l32After.f k l0 l1 a2 = some r) :
    Calls Try.prog 41 #[.slice A0 l0.length c0, .slice A1 l1.length c1, .int .i64 a2] w fun e w' => e = .returned (.int .i64 r) ∧ Below w.heap.size w w' := by
 have HR0 := Ae_q hr0
 have HC0 := Ae_q hc0
 clear hr0 hc0
 have HR1 := Ae_q hr1
 have HC1 := Ae_q hc1
 clear hr1 hc1
 have HB := Ae_q (bR_q w.heap.size w)
 have H : (spec_l32After.l0 k l0 l1 a2 0 0) = some r := h
 clear h
 have H' := Ae_q H
 clear H
 go_enter Try.func41, Try.ntmps41
 go_wp2
 repeat (go_quiet (fail); try go_wp2)
 go_loopg [7, 8] k (fun kq v7 v8 w' => ∃ (x7_1 : Int) (x8_1 : Int), v7 = .int .i64 x7_1 ∧ v8 = .int .i64 x8_1 ∧ Aside0 (spec_l32After.l0 kq l0 l1 a2 x7_1 x8_1 = some r) ∧ Aside0 (kq ≤ k) ∧ Aside0 (Below w.heap.size w w'))
 case atStart => exact ⟨(0), (0), (by first | rfl | (simp; done) | (simp [*]; done)), (by first | rfl | (simp; done) | (simp [*]; done)), H', ⟨nR_q _⟩, ⟨bel HB.out⟩⟩
 case round =>
  clear H'
  try clear c1
  try clear p2
  obtain ⟨x7_1, x8_1, rfl, rfl, HA, HK1, HB⟩ := hrel
  cases gk with
  | zero => exact absurd HA.out (by simp [spec_l32After.l0])
  | succ k1 =>
   have H := HA.out
   clear HA
   simp only [spec_l32After.l0] at H
   by_cases c4 : 0 ≤ a2
   ·rw [if_pos c4] at H
    have c4b0 : decide (0 ≤ a2) = true := dT_q c4
    clear c4
    by_cases c5 : a2 < (l0.length : Int)
    ·rw [if_pos c5] at H
     have c5b0 : decide (a2 < (l0.length : Int)) = true := dT_q c5
     clear c5
     by_cases c6 : x8_1 < (((rd_T31 l0 a2).f3).length : Int)
     ·rw [if_pos c6] at H
      have c6b0 : decide (x8_1 < (((rd_T31 l0 a2).f3).length : Int)) = true := dT_q c6
      clear c6
      by_cases c7 : 0 ≤ x8_1
      ·rw [if_pos c7] at H
       have c7b0 : decide (0 ≤ x8_1) = true := dT_q c7
       clear c7
       by_cases c8 : 0 ≤ (rd ((rd_T31 l0 a2).f3) x8_1)
       ·rw [if_pos c8] at H
        have c8b0 : decide (0 ≤ (rd ((rd_T31 l0 a2).f3) x8_1)) = true := dT_q c8
        clear c8
        by_cases c9 : (rd ((rd_T31 l0 a2).f3) x8_1) < (l1.length : Int)
        ·rw [if_pos c9] at H
         have c9b0 : decide ((rd ((rd_T31 l0 a2).f3) x8_1) < (l1.length : Int)) = true := dT_q c9
         clear c9
         by_cases c10 : (rd ((rd_T31 l0 a2).f3) x8_1) < (l0.length : Int)
         ·rw [if_pos c10] at H
          have c10b0 : decide ((rd ((rd_T31 l0 a2).f3) x8_1) < (l0.length : Int)) = true := dT_q c10
          clear c10
          obtain ⟨ji11, hji11⟩ : ∃ j_ : Int, (mx x7_1 (wrap64 ((rd l1 (rd ((rd_T31 l0 a2).f3) x8_1)) + ((rd_T31 l0 (rd ((rd_T31 l0 a2).f3) x8_1)).f0)))) = j_ := ⟨_, rfl⟩
          replace H : (spec_l32After.l0 k1 l0 l1 a2 ji11 (wrap64 (x8_1 + 1))) = some r := by first | (rw [hji11] at H; exact H) | (simp only [hji11] at H ⊢; exact H)
          have hji11_ : (if x7_1 < (wrap64 ((rd l1 (rd ((rd_T31 l0 a2).f3) x8_1)) + ((rd_T31 l0 (rd ((rd_T31 l0 a2).f3) x8_1)).f0))) then (wrap64 ((rd l1 (rd ((rd_T31 l0 a2).f3) x8_1)) + ((rd_T31 l0 (rd ((rd_T31 l0 a2).f3) x8_1)).f0))) else x7_1) = ji11 := hji11
          have H' := Ae_q H
          clear H
          have p200 : 0 ≤ (a2 : Int) := oD_q (by assumption)
          have q200 : a2 < (l0.length : Int) := oD_q (by assumption)
          obtain ⟨ad200, A200_3, c200_3, e200, hx200_0, hx200_1, hx200_2, hx200_3, hl200_3, hi200_3⟩ := at_T31 HR0.out a2 p200 q200
          cases e200
          replace hx200_0 := (HB.out.cell (wL_q w _ hx200_0)).trans hx200_0
          replace hx200_1 := (HB.out.cell (wL_q w _ hx200_1)).trans hx200_1
          replace hx200_2 := (HB.out.cell (wL_q w _ hx200_2)).trans hx200_2
          replace hx200_3 := (HB.out.cell (wL_q w _ hx200_3)).trans hx200_3
          have HR200_3 := Ae_q hi200_3
          have HC200_3 := Ae_q hl200_3
          clear hi200_3 hl200_3
          replace p200 := eq_true p200
          replace q200 := eq_true q200
          have p201 : 0 ≤ (a2 : Int) := oD_q (by assumption)
          have q201 : a2 < (l0.length : Int) := oD_q (by assumption)
          obtain ⟨ad201, A201_3, c201_3, e201, hx201_0, hx201_1, hx201_2, hx201_3, hl201_3, hi201_3⟩ := at_T31 HR0.out a2 p201 q201
          obtain rfl : ad200 = ad201 := (by injection e201)
          replace hx201_0 := (HB.out.cell (wL_q w _ hx201_0)).trans hx201_0
          replace hx201_1 := (HB.out.cell (wL_q w _ hx201_1)).trans hx201_1
          replace hx201_2 := (HB.out.cell (wL_q w _ hx201_2)).trans hx201_2
          replace hx201_3 := (HB.out.cell (wL_q w _ hx201_3)).trans hx201_3
          have HR201_3 := Ae_q hi201_3
          have HC201_3 := Ae_q hl201_3
          clear hi201_3 hl201_3
          replace p201 := eq_true p201
          replace q201 := eq_true q201
          have ea_ := oI_q (hx200_3.symm.trans hx201_3)
          injection ea_ with ea_ en_ ec_
          subst ea_
          subst ec_
          clear en_
          have p202 : 0 ≤ (x8_1 : Int) := oD_q (by assumption)
          have q202 : x8_1 < (((rd_T31 l0 a2).f3).length : Int) := oD_q (by assumption)
          obtain ⟨ad202, e202, hx202_0⟩ := aI_q HR201_3.out x8_1 p202 q202
          cases e202
          replace hx202_0 := (HB.out.cell (wL_q w _ hx202_0)).trans hx202_0
          replace p202 := eq_true p202
          replace q202 := eq_true q202
          have p203 : 0 ≤ ((rd ((rd_T31 l0 a2).f3) x8_1) : Int) := oD_q (by assumption)
          have q203 : (rd ((rd_T31 l0 a2).f3) x8_1) < (l1.length : Int) := oD_q (by assumption)
          obtain ⟨ad203, e203, hx203_0⟩ := aI_q HR1.out (rd ((rd_T31 l0 a2).f3) x8_1) p203 q203
          cases e203
          replace hx203_0 := (HB.out.cell (wL_q w _ hx203_0)).trans hx203_0
          replace p203 := eq_true p203
          replace q203 := eq_true q203
          have p204 : 0 ≤ ((rd ((rd_T31 l0 a2).f3) x8_1) : Int) := oD_q (by assumption)
          have q204 : (rd ((rd_T31 l0 a2).f3) x8_1) < (l0.length : Int) := oD_q (by assumption)
          obtain ⟨ad204, A204_3, c204_3, e204, hx204_0, hx204_1, hx204_2, hx204_3, hl204_3, hi204_3⟩ := at_T31 HR0.out (rd ((rd_T31 l0 a2).f3) x8_1) p204 q204
          obtain rfl : ad200 = ad204 := (by injection e204)
          replace hx204_0 := (HB.out.cell (wL_q w _ hx204_0)).trans hx204_0
          replace hx204_1 := (HB.out.cell (wL_q w _ hx204_1)).trans hx204_1
          replace hx204_2 := (HB.out.cell (wL_q w _ hx204_2)).trans hx204_2
          replace hx204_3 := (HB.out.cell (wL_q w _ hx204_3)).trans hx204_3
          have HR204_3 := Ae_q hi204_3
          have HC204_3 := Ae_q hl204_3
          clear hi204_3 hl204_3
          replace p204 := eq_true p204
          replace q204 := eq_true q204
          go_wp2
          repeat (go_quiet (fail); try go_wp2)
          go_roundg k1
          case measure => have := HK1.out; omega
          case rel => exact ⟨(ji11), (wrap64 (x8_1 + 1)), (by first | rfl | (simp; done) | (simp only [← hji11] <;> (first | rfl | simp)) | (simp [*]; done)), (by first | rfl | (simp; done) | (simp [*]; done)), H', ⟨by have := HK1.out; omega⟩, ⟨bel HB.out⟩⟩
         rw [if_neg c10] at H
         exact absurd H (by simp)
        rw [if_neg c9] at H
        exact absurd H (by simp)
       rw [if_neg c8] at H
       exact absurd H (by simp)
      rw [if_neg c7] at H
      exact absurd H (by simp)
     rw [if_neg c6] at H
     have c6b0 : decide (x8_1 < (((rd_T31 l0 a2).f3).length : Int)) = false := dF_q c6
     clear c6
     obtain rfl := oI_q H
     have p200 : 0 ≤ (a2 : Int) := oD_q (by assumption)
     have q200 : a2 < (l0.length : Int) := oD_q (by assumption)
     obtain ⟨ad200, A200_3, c200_3, e200, hx200_0, hx200_1, hx200_2, hx200_3, hl200_3, hi200_3⟩ := at_T31 HR0.out a2 p200 q200
     cases e200
     replace hx200_0 := (HB.out.cell (wL_q w _ hx200_0)).trans hx200_0
     replace hx200_1 := (HB.out.cell (wL_q w _ hx200_1)).trans hx200_1
     replace hx200_2 := (HB.out.cell (wL_q w _ hx200_2)).trans hx200_2
     replace hx200_3 := (HB.out.cell (wL_q w _ hx200_3)).trans hx200_3
     have HR200_3 := Ae_q hi200_3
     have HC200_3 := Ae_q hl200_3
     clear hi200_3 hl200_3
     replace p200 := eq_true p200
     replace q200 := eq_true q200
     go_wp2
     repeat (go_quiet (fail); try go_wp2)
     go_ret
     exact ⟨by first | rfl | (simp [eN_q, eS_q] <;> rfl) | (simp [*, eN_q, eS_q] <;> rfl), bel HB.out⟩
    rw [if_neg c5] at H
    exact absurd H (by simp)
   rw [if_neg c4] at H
   exact absurd H (by simp)

def spec_l32On.f (a0_0 : Int) (a0_1 : Int) (a0_2 : Int) (l0_3 : List Int) (a1 : Int) (a2 : Int) : Option (Bool) := if a1 ≤ a2 then (some (decide (a2 < (wrap64 (a1 + a0_0))))) else (some false)
set_option maxHeartbeats 8000000 in
set_option maxRecDepth 100000 in
theorem spec_l32On.calls (a0_0 : Int) (a0_1 : Int) (a0_2 : Int) (A0_3 : Option Addr) (c0_3 : Nat) (l0_3 : List Int) (a1 : Int) (a2 : Int) (r : Bool) (w : World) (hr0_3 : Kd.C kI_q w A0_3 l0_3.length l0_3) (hc0_3 : l0_3.length ≤ c0_3) (h : spec_l32On.f a0_0 a0_1 a0_2 l0_3 a1 a2 = some r) :
    Calls Try.prog 63 #[.agg #[.int .i64 a0_0, .int .i64 a0_1, .int .i64 a0_2, .slice A0_3 l0_3.length c0_3], .int .i64 a1, .int .i64 a2] w fun e w' => e = .returned (.bool r) ∧ Below w.heap.size w w' := by
 have hu31 := Try.underlying31
 have HR0_3 := Ae_q hr0_3
 have HC0_3 := Ae_q hc0_3
 clear hr0_3 hc0_3
 have HB := Ae_q (bR_q w.heap.size w)
 have H : (if a1 ≤ a2 then (some (decide (a2 < (wrap64 (a1 + a0_0))))) else (some false)) = some r := h
 clear h
 by_cases c4 : a1 ≤ a2
 ·rw [if_pos c4] at H
  have c4b0 : decide (a1 ≤ a2) = true := dT_q c4
  clear c4
  obtain rfl := oI_q H
  go_enter Try.func63, Try.ntmps63
  go_wp2_with (first | ((with_reducible refine gD_q (N := 3) rfl ?_); refine bE_q ?hg (N := 3) ?hd (cs := #[.int .i64 a0_0, .int .i64 a0_1, .int .i64 a0_2, .slice A0_3 l0_3.length c0_3]) (t := 31) ?hr ?_; (case hd => rfl); (case hg => rfl); (case hr => first | (go_simp; done) | (go_simp; rfl)); intro gb205 hg w5 hbox hb; have n0_ := Ae_q (bT_q (bel HB.out) hb); have n1_ := Ae_q (hbox); have n2_ := Ae_q ((by rw [hg]; exact (bZ_q (bel HB.out)) : w.heap.size ≤ gb205)); have n3_ := Ae_q ((by rw [hg]; exact (bZ_q (bel HB.out)) : w.heap.size ≤ gb205)); clear HB; have HB := n0_; have BK205 := n1_; have GW205 := n2_; have GE205 := n3_; clear n0_ n1_ n2_ n3_; clear hb hbox hg; have hcz6_0 : w5.cell? ⟨gb205, 0, none⟩ = some (.int .i64 a0_0) := (bC_q BK205.out 0).trans rfl; have hcz6_1 : w5.cell? ⟨gb205, 1, none⟩ = some (.int .i64 a0_1) := (bC_q BK205.out 1).trans rfl; have hcz6_2 : w5.cell? ⟨gb205, 2, none⟩ = some (.int .i64 a0_2) := (bC_q BK205.out 2).trans rfl; have hcz6_3 : w5.cell? ⟨gb205, 3, none⟩ = some (.slice A0_3 l0_3.length c0_3) := (bC_q BK205.out 3).trans rfl; have hfz6_0 := bF_q BK205.out 0; have hfz6_1 := bF_q BK205.out 1; have hfz6_2 := bF_q BK205.out 2; have hfz6_3 := bF_q BK205.out 3))
  go_ret
  exact ⟨by first | rfl | (simp [eN_q, eS_q] <;> rfl) | (simp [*, eN_q, eS_q] <;> rfl), by repeat (first | (with_reducible first | exact HB.out | apply bA_q | apply pB_q | apply bD_q | refine bS_q ?_ GE205.out) | exact HB.out)⟩
 rw [if_neg c4] at H
 have c4b0 : decide (a1 ≤ a2) = false := dF_q c4
 clear c4
 obtain rfl := oI_q H
 go_enter Try.func63, Try.ntmps63
 go_wp2_with (first | ((with_reducible refine gD_q (N := 3) rfl ?_); refine bE_q ?hg (N := 3) ?hd (cs := #[.int .i64 a0_0, .int .i64 a0_1, .int .i64 a0_2, .slice A0_3 l0_3.length c0_3]) (t := 31) ?hr ?_; (case hd => rfl); (case hg => rfl); (case hr => first | (go_simp; done) | (go_simp; rfl)); intro gb205 hg w7 hbox hb; have n0_ := Ae_q (bT_q (bel HB.out) hb); have n1_ := Ae_q (hbox); have n2_ := Ae_q ((by rw [hg]; exact (bZ_q (bel HB.out)) : w.heap.size ≤ gb205)); have n3_ := Ae_q ((by rw [hg]; exact (bZ_q (bel HB.out)) : w.heap.size ≤ gb205)); clear HB; have HB := n0_; have BK205 := n1_; have GW205 := n2_; have GE205 := n3_; clear n0_ n1_ n2_ n3_; clear hb hbox hg))
 go_ret
 exact ⟨by first | rfl | (simp [eN_q, eS_q] <;> rfl) | (simp [*, eN_q, eS_q] <;> rfl), by repeat (first | (with_reducible first | exact HB.out | apply bA_q | apply pB_q | apply bD_q | refine bS_q ?_ GE205.out) | exact HB.out)⟩

end Go.Proofs.Ytoaigcdoblnmhaa.PPn
