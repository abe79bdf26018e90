import Derived.Test.YtjnagefogjkbbaaVbPPlx0
namespace Go.Proofs.Ytjnagefogjkbbaa.PPl
open Go.RowKit Go.Proofs.YtjnagefogjkbbaaW.PrintWords Go.Proofs.YtjnagefogjkbbaaW.PrintLast Go.Proofs.YtjnagefogjkbbaaW.PrintMore
attribute [local go_sem] max2_int min2_int max_two min_two max_three min_three max_four min_four
set_option linter.unusedVariables false
set_option linter.unusedSimpArgs false

mutual
def spec_PlanMoved.l0 : Nat → List Int → List Int → List Int → Int → Option (List Int)
 | 0, _, _, _, _ => none
 | k + 1, x0, x1, x5, x6 => if x6 < (x0.length : Int) then (spec_PlanMoved.j1 k x0 x1 x5 x6 ((x0.length : Int) == (x1.length : Int))) else (spec_PlanMoved.j1 k x0 x1 x5 x6 false)
def spec_PlanMoved.j1 : Nat → List Int → List Int → List Int → Int → Bool → Option (List Int)
 | 0, _, _, _, _, _ => none
 | k + 1, x0, x1, x5, x6, x18 => if x18 = true then (if 0 ≤ x6 then (if x6 < (x0.length : Int) then (if x6 < (x1.length : Int) then (if (rd x0 x6) = (rd x1 x6) then (spec_PlanMoved.l0 k x0 x1 x5 (wrap64 (x6 + 1))) else (if x5.length < 17592186044416 then (spec_PlanMoved.l0 k x0 x1 (x5 ++ [x6]) (wrap64 (x6 + 1))) else (none))) else (none)) else (none)) else (none)) else (some x5)
end
def spec_PlanMoved.f (k : Nat) (l0 : List Int) (l1 : List Int) : Option (List Int) := spec_PlanMoved.l0 k l0 l1 (([] : List Int)) 0
theorem spec_PlanMoved.mono_l : ∀ k, (∀ y0 y1 y2 y3, LeO (spec_PlanMoved.l0 k y0 y1 y2 y3) (spec_PlanMoved.l0 (k + 1) y0 y1 y2 y3)) ∧ (∀ y0 y1 y2 y3 y4, LeO (spec_PlanMoved.j1 k y0 y1 y2 y3 y4) (spec_PlanMoved.j1 (k + 1) y0 y1 y2 y3 y4))
 | 0 => ⟨fun _ _ _ _ r h => by simp [spec_PlanMoved.l0] at h, fun _ _ _ _ _ r h => by simp [spec_PlanMoved.j1] at h⟩
 | k + 1 => by
  obtain ⟨ih0, ih1⟩ := spec_PlanMoved.mono_l k
  refine ⟨?_, ?_⟩
  ·intro y0 y1 y2 y3
   unfold spec_PlanMoved.l0
   repeat' first
   | (with_reducible exact ih0 _ _ _ _)
   | (with_reducible exact ih1 _ _ _ _ _)
   | (with_reducible exact lR_q _)
   | (with_reducible exact lO_q _)
   | (with_reducible refine lI_q ?_ ?_)
   | (with_reducible refine lB_q ?_ (fun _ => ?_))
   | exact ih0 _ _ _ _
   | exact ih1 _ _ _ _ _
   | exact lO_q _
   | refine lI_q ?_ ?_
   | refine lB_q ?_ (fun _ => ?_)
  intro y0 y1 y2 y3 y4
  unfold spec_PlanMoved.j1
  repeat' first
  | (with_reducible exact ih0 _ _ _ _)
  | (with_reducible exact ih1 _ _ _ _ _)
  | (with_reducible exact lR_q _)
  | (with_reducible exact lO_q _)
  | (with_reducible refine lI_q ?_ ?_)
  | (with_reducible refine lB_q ?_ (fun _ => ?_))
  | exact ih0 _ _ _ _
  | exact ih1 _ _ _ _ _
  | exact lO_q _
  | refine lI_q ?_ ?_
  | refine lB_q ?_ (fun _ => ?_)
theorem spec_PlanMoved.mono : ∀ a0 a1 k, LeO (spec_PlanMoved.f k a0 a1) (spec_PlanMoved.f (k + 1) a0 a1) := by
 intro a0 a1 k
 obtain ⟨ih0, ih1⟩ := spec_PlanMoved.mono_l k
 unfold spec_PlanMoved.f
 repeat' first
  | (with_reducible exact ih0 _ _ _ _)
  | (with_reducible exact ih1 _ _ _ _ _)
  | (with_reducible exact lR_q _)
  | (with_reducible exact lO_q _)
  | (with_reducible refine lI_q ?_ ?_)
  | (with_reducible refine lB_q ?_ (fun _ => ?_))
  | exact ih0 _ _ _ _
  | exact ih1 _ _ _ _ _
  | exact lO_q _
  | refine lI_q ?_ ?_
  | refine lB_q ?_ (fun _ => ?_)
set_option maxHeartbeats 8000000 in
set_option maxRecDepth 100000 in
theorem spec_PlanMoved.calls (k : Nat) (A0 : Option Addr) (c0 : Nat) (l0 : List Int) (A1 : Option Addr) (c1 : Nat) (l1 : List Int) (r : List Int) (w : World) (hr0 : Kd.C kI_q w A0 l0.length l0) (hc0 : l0.length ≤ c0) (hr1 : Kd.C kI_q w A1 l1.length l1) (hc1 : l1.length ≤ c1) (h : spec_PlanMoved.f k l0 l1 = some r) :
    Calls Try.prog 11 #[.slice A0 l0.length c0, .slice A1 l1.length c1] w fun e w' => ∃ v0_ : Value, e = .returned (v0_) ∧ Kd.R kI_q 3 w' w.heap.size (fun _ => True) v0_ r ∧ Below w.heap.size w w' := by
 have HR0 := Ae_q hr0
 have HC0 := Ae_q hc0
 clear hr0 hc0
 have HR1 := Ae_q hr1
 have HC1 := Ae_q hc1
 clear hr1 hc1
 have HB := Ae_q (bR_q w.heap.size w)
 have H : (spec_PlanMoved.l0 k l0 l1 (([] : List Int)) 0) = some r := h
 clear h
 obtain ⟨y144, hy144⟩ : ∃ y_ : List Int, y_ = (([] : List Int)) := ⟨_, rfl⟩
 replace H : (spec_PlanMoved.l0 k l0 l1 y144 0) = some r := by first | (rw [hy144]; with_reducible exact H) | (have H2_ := (oS_q _ _).symm.trans H; rw [hy144]; with_reducible exact H2_) | (have H2_ := (oS_q _ _).symm.trans H; with_reducible exact H2_) | with_reducible exact H | (rw [hy144]; exact H) | exact H
 have Ny144 := Ae_q hy144
 clear hy144
 have H' := Ae_q H
 clear H
 go_enter Try.func11, Try.ntmps11
 go_wp2_with (first | ((with_reducible refine gD_q (N := 7) rfl ?_); (try (refine gate_guard (by rfl) ?_; dsimp only)); refine Kd.R_lit kI_q _ 3 ?hg (N := 7) ?hd (xs := ([] : List Int)) (inner := []) (ok := fun _ => True) (okp := fun _ => True) ?hr ?hp (fun _ hk => hk) trivial (bR_q _ _) (nR_q _) (by simp) ?_; (case hd => rfl); (case hg => rfl); (case hr => first | (go_simp; done) | (go_simp; rfl)); (case hp => exact (Reps.none _ _)); intro v145 w3 ho4 hb hg_ hnew_; clear hg_ hnew_; (first | rw [← Ny144.out] at ho4 | (simp only [Int.reduceToNat] at ho4; rw [← Ny144.out] at ho4)); have n0_ := Ae_q (rL_q ho4 (bZ_q (bel HB.out))); have n1_ := Ae_q (bT_q (bel HB.out) hb); clear HB; have HO146 := n0_; have HB := n1_; clear n0_ n1_; clear hb ho4))
 repeat (go_quiet (first | ((with_reducible refine gD_q (N := 7) rfl ?_); (try (refine gate_guard (by rfl) ?_; dsimp only)); refine Kd.R_lit kI_q _ 3 ?hg (N := 7) ?hd (xs := ([] : List Int)) (inner := []) (ok := fun _ => True) (okp := fun _ => True) ?hr ?hp (fun _ hk => hk) trivial (bR_q _ _) (nR_q _) (by simp) ?_; (case hd => rfl); (case hg => rfl); (case hr => first | (go_simp; done) | (go_simp; rfl)); (case hp => exact (Reps.none _ _)); intro v145 w3 ho4 hb hg_ hnew_; clear hg_ hnew_; (first | rw [← Ny144.out] at ho4 | (simp only [Int.reduceToNat] at ho4; rw [← Ny144.out] at ho4)); have n0_ := Ae_q (rL_q ho4 (bZ_q (bel HB.out))); have n1_ := Ae_q (bT_q (bel HB.out) hb); clear HB; have HO146 := n0_; have HB := n1_; clear n0_ n1_; clear hb ho4)); try go_wp2_with (first | ((with_reducible refine gD_q (N := 7) rfl ?_); (try (refine gate_guard (by rfl) ?_; dsimp only)); refine Kd.R_lit kI_q _ 3 ?hg (N := 7) ?hd (xs := ([] : List Int)) (inner := []) (ok := fun _ => True) (okp := fun _ => True) ?hr ?hp (fun _ hk => hk) trivial (bR_q _ _) (nR_q _) (by simp) ?_; (case hd => rfl); (case hg => rfl); (case hr => first | (go_simp; done) | (go_simp; rfl)); (case hp => exact (Reps.none _ _)); intro v145 w3 ho4 hb hg_ hnew_; clear hg_ hnew_; (first | rw [← Ny144.out] at ho4 | (simp only [Int.reduceToNat] at ho4; rw [← Ny144.out] at ho4)); have n0_ := Ae_q (rL_q ho4 (bZ_q (bel HB.out))); have n1_ := Ae_q (bT_q (bel HB.out) hb); clear HB; have HO146 := n0_; have HB := n1_; clear n0_ n1_; clear hb ho4)))
 go_loopg [5, 6] k (fun kq v5 v6 w' => ∃ (x5_1 : List Int) (x6_1 : Int), v6 = .int .i64 x6_1 ∧ Aside0 (spec_PlanMoved.l0 kq l0 l1 x5_1 x6_1 = some r) ∧ Aside0 (kq ≤ k) ∧ Aside0 (Kd.R kI_q 3 w' w.heap.size (fun _ => True) v5 x5_1) ∧ Aside0 (Below w.heap.size w w'))
 case atStart => exact ⟨(y144), (0), (by first | rfl | (simp; done) | (simp [*]; done)), H', ⟨nR_q _⟩, ⟨by (with_reducible repeat (first | apply rA_q | apply rN_q | apply rD_q)); exact HO146.out⟩, ⟨bel HB.out⟩⟩
 case round =>
  clear H'
  try clear c1
  try clear p2
  obtain ⟨x5_1, x6_1, rfl, HA, HK1, HO_5, HB⟩ := hrel
  cases gk with
  | zero => exact absurd HA.out (by simp [spec_PlanMoved.l0])
  | succ k1 =>
   have H := HA.out
   clear HA
   simp only [spec_PlanMoved.l0] at H
   have HC5 := Ae_q H
   clear H
   go_upto_region 3 with (fail)
   repeat (go_quiet (fail); go_upto_region 3 with (fail))
   go_cut [18] (fun v18 wc => ∃ (kq : Nat) (x18_4 : Bool), v18 = .bool x18_4 ∧ Aside0 (spec_PlanMoved.j1 kq l0 l1 x5_1 x6_1 x18_4 = some r) ∧ Aside0 (kq ≤ k1) ∧ Aside0 (Kd.R kI_q 3 wc w.heap.size (fun _ => True) u5 x5_1) ∧ Aside0 (Below w.heap.size w wc))
   case first =>
    have H := HC5.out
    clear HC5
    by_cases c6 : x6_1 < (l0.length : Int)
    ·rw [if_pos c6] at H
     have c6b0 : decide (x6_1 < (l0.length : Int)) = true := dT_q c6
     clear c6
     (first | rw [c6b0] | (simp only [i64_w, i32_w]; rw [c6b0]) | skip)
     have H' := Ae_q H
     clear H
     go_wp2
     repeat (go_quiet (fail); try go_wp2)
     go_meet
     case rel => exact ⟨_, (((l0.length : Int) == (l1.length : Int))), (by first | rfl | (simp; done) | (simp [*]; done)), H', ⟨by have := HK1.out; first | omega | exact nR_q _⟩, ⟨by (with_reducible repeat (first | apply rA_q | apply rN_q | apply rD_q)); exact HO_5.out⟩, ⟨bel HB.out⟩⟩
    rw [if_neg c6] at H
    have c6b0 : decide (x6_1 < (l0.length : Int)) = false := dF_q c6
    clear c6
    (first | rw [c6b0] | (simp only [i64_w, i32_w]; rw [c6b0]) | skip)
    have H' := Ae_q H
    clear H
    go_wp2
    repeat (go_quiet (fail); try go_wp2)
    go_meet
    case rel => exact ⟨_, (false), (by first | rfl | (simp; done) | (simp [*]; done)), H', ⟨by have := HK1.out; first | omega | exact nR_q _⟩, ⟨by (with_reducible repeat (first | apply rA_q | apply rN_q | apply rD_q)); exact HO_5.out⟩, ⟨bel HB.out⟩⟩
   case rest =>
    clear HC5
    try clear c1
    try clear p2
    try clear c6
    try clear c6b0
    try clear p2
    obtain ⟨kq, x18_4, rfl, HA, HJ4, HO_5, HB⟩ := hcut
    cases kq with
    | zero => exact absurd HA.out (by simp [spec_PlanMoved.j1])
    | succ kj4 =>
     have H := HA.out
     clear HA
     simp only [spec_PlanMoved.j1] at H
     by_cases c7 : x18_4 = true
     ·subst c7
      have H1 : (if 0 ≤ x6_1 then (if x6_1 < (l0.length : Int) then (if x6_1 < (l1.length : Int) then (if (rd l0 x6_1) = (rd l1 x6_1) then (spec_PlanMoved.l0 kj4 l0 l1 x5_1 (wrap64 (x6_1 + 1))) else (if x5_1.length < 17592186044416 then (spec_PlanMoved.l0 kj4 l0 l1 (x5_1 ++ [x6_1]) (wrap64 (x6_1 + 1))) else (none))) else (none)) else (none)) else (none)) = some r := by rw [if_pos rfl] at H; exact H
      clear H
      have H := H1
      clear H1
      by_cases c8 : 0 ≤ x6_1
      ·rw [if_pos c8] at H
       have c8b0 : decide (0 ≤ x6_1) = true := dT_q c8
       clear c8
       by_cases c9 : x6_1 < (l0.length : Int)
       ·rw [if_pos c9] at H
        have c9b0 : decide (x6_1 < (l0.length : Int)) = true := dT_q c9
        clear c9
        by_cases c10 : x6_1 < (l1.length : Int)
        ·rw [if_pos c10] at H
         have c10b0 : decide (x6_1 < (l1.length : Int)) = true := dT_q c10
         clear c10
         by_cases c11 : (rd l0 x6_1) = (rd l1 x6_1)
         ·rw [if_pos c11] at H
          have c11b0 : ((rd l0 x6_1) == (rd l1 x6_1)) = true := beq_iff_eq.mpr c11
          have c11b1 : ((rd l0 x6_1) != (rd l1 x6_1)) = false := nE_q.mpr c11
          clear c11
          have H' := Ae_q H
          clear H
          have p147 : 0 ≤ (x6_1 : Int) := oD_q (by assumption)
          have q147 : x6_1 < (l0.length : Int) := oD_q (by assumption)
          obtain ⟨ad147, e147, hx147_0⟩ := aI_q HR0.out x6_1 p147 q147
          cases e147
          replace hx147_0 := cel HB.out hx147_0
          replace p147 := eq_true p147
          replace q147 := eq_true q147
          have p148 : 0 ≤ (x6_1 : Int) := oD_q (by assumption)
          have q148 : x6_1 < (l1.length : Int) := oD_q (by assumption)
          obtain ⟨ad148, e148, hx148_0⟩ := aI_q HR1.out x6_1 p148 q148
          cases e148
          replace hx148_0 := cel HB.out hx148_0
          replace p148 := eq_true p148
          replace q148 := eq_true q148
          go_wp2
          repeat (go_quiet (fail); try go_wp2)
          go_roundg kj4
          case measure => have := HK1.out; have := HJ4.out; omega
          case rel => exact ⟨(x5_1), (wrap64 (x6_1 + 1)), (by first | rfl | (simp; done) | (simp [*]; done)), H', ⟨by have := HK1.out; have := HJ4.out; omega⟩, ⟨by (with_reducible repeat (first | apply rA_q | apply rN_q | apply rD_q)); exact HO_5.out⟩, ⟨bel HB.out⟩⟩
         rw [if_neg c11] at H
         have c11b0 : ((rd l0 x6_1) == (rd l1 x6_1)) = false := fN_q.mpr c11
         have c11b1 : ((rd l0 x6_1) != (rd l1 x6_1)) = true := nI_q.mpr c11
         by_cases c12 : x5_1.length < 17592186044416
         ·rw [if_pos c12] at H
          have LMc12 := Ae_q c12
          clear c12
          obtain ⟨y149, hy149⟩ : ∃ y_ : List Int, y_ = (x5_1 ++ [x6_1]) := ⟨_, rfl⟩
          replace H : (spec_PlanMoved.l0 kj4 l0 l1 y149 (wrap64 (x6_1 + 1))) = some r := by first | (rw [hy149]; with_reducible exact H) | (have H2_ := (oS_q _ _).symm.trans H; rw [hy149]; with_reducible exact H2_) | (have H2_ := (oS_q _ _).symm.trans H; with_reducible exact H2_) | with_reducible exact H | (rw [hy149]; exact H) | exact H
          have Ny149 := Ae_q hy149
          clear hy149
          have H' := Ae_q H
          clear H
          have p147 : 0 ≤ (x6_1 : Int) := oD_q (by assumption)
          have q147 : x6_1 < (l0.length : Int) := oD_q (by assumption)
          obtain ⟨ad147, e147, hx147_0⟩ := aI_q HR0.out x6_1 p147 q147
          cases e147
          replace hx147_0 := cel HB.out hx147_0
          replace p147 := eq_true p147
          replace q147 := eq_true q147
          have p148 : 0 ≤ (x6_1 : Int) := oD_q (by assumption)
          have q148 : x6_1 < (l1.length : Int) := oD_q (by assumption)
          obtain ⟨ad148, e148, hx148_0⟩ := aI_q HR1.out x6_1 p148 q148
          cases e148
          replace hx148_0 := cel HB.out hx148_0
          replace p148 := eq_true p148
          replace q148 := eq_true q148
          go_wp2_with (first | ((with_reducible refine gate_builtin (b := .append) (xs := #[.tmp 30, .tmp 32]) rfl ?_); (try (refine gate_guard (by rfl) ?_; dsimp only)); at_builtin; refine Kd.R_append kI_q (w0 := w) w.heap.size rfl (.tmp 30) (.tmp 32) 22 3 (.int .i64 0) 8 rfl Try.underlying22 info3 rfl (by decide) (by omega) u5 x5_1 x6_1 [.int .i64 x6_1] (fun _ => True) (fun _ => False) rfl rfl ?aP (fun _ hk => hk.elim) ?aF ?aO ?aB ?aS ?aL ?_; (case aP => exact rfl); (case aB => exact (bel HB.out)); (case aF => exact (fun _ _ => trivial)); (case aO => exact (rup HO_5.out)); (case aS => exact (bZ_q (bel HB.out))); (case aL => have := LMc12.out; omega); intro v150 w13 ho hb hg hat; rw [← Ny149.out] at ho; have n0_ := Ae_q (hb); have n1_ := Ae_q (ho); clear HB; clear HO_5; have HB := n0_; have HO151 := n1_; clear n0_ n1_; clear ho hb hg hat))
          repeat (go_quiet (first | ((with_reducible refine gate_builtin (b := .append) (xs := #[.tmp 30, .tmp 32]) rfl ?_); (try (refine gate_guard (by rfl) ?_; dsimp only)); at_builtin; refine Kd.R_append kI_q (w0 := w) w.heap.size rfl (.tmp 30) (.tmp 32) 22 3 (.int .i64 0) 8 rfl Try.underlying22 info3 rfl (by decide) (by omega) u5 x5_1 x6_1 [.int .i64 x6_1] (fun _ => True) (fun _ => False) rfl rfl ?aP (fun _ hk => hk.elim) ?aF ?aO ?aB ?aS ?aL ?_; (case aP => exact rfl); (case aB => exact (bel HB.out)); (case aF => exact (fun _ _ => trivial)); (case aO => exact (rup HO_5.out)); (case aS => exact (bZ_q (bel HB.out))); (case aL => have := LMc12.out; omega); intro v150 w13 ho hb hg hat; rw [← Ny149.out] at ho; have n0_ := Ae_q (hb); have n1_ := Ae_q (ho); clear HB; clear HO_5; have HB := n0_; have HO151 := n1_; clear n0_ n1_; clear ho hb hg hat)); try go_wp2_with (first | ((with_reducible refine gate_builtin (b := .append) (xs := #[.tmp 30, .tmp 32]) rfl ?_); (try (refine gate_guard (by rfl) ?_; dsimp only)); at_builtin; refine Kd.R_append kI_q (w0 := w) w.heap.size rfl (.tmp 30) (.tmp 32) 22 3 (.int .i64 0) 8 rfl Try.underlying22 info3 rfl (by decide) (by omega) u5 x5_1 x6_1 [.int .i64 x6_1] (fun _ => True) (fun _ => False) rfl rfl ?aP (fun _ hk => hk.elim) ?aF ?aO ?aB ?aS ?aL ?_; (case aP => exact rfl); (case aB => exact (bel HB.out)); (case aF => exact (fun _ _ => trivial)); (case aO => exact (rup HO_5.out)); (case aS => exact (bZ_q (bel HB.out))); (case aL => have := LMc12.out; omega); intro v150 w13 ho hb hg hat; rw [← Ny149.out] at ho; have n0_ := Ae_q (hb); have n1_ := Ae_q (ho); clear HB; clear HO_5; have HB := n0_; have HO151 := n1_; clear n0_ n1_; clear ho hb hg hat)))
          go_roundg kj4
          case measure => have := HK1.out; have := HJ4.out; omega
          case rel => exact ⟨(y149), (wrap64 (x6_1 + 1)), (by first | rfl | (simp; done) | (simp [*]; done)), H', ⟨by have := HK1.out; have := HJ4.out; omega⟩, ⟨by (with_reducible repeat (first | apply rA_q | apply rN_q | apply rD_q)); exact HO151.out⟩, ⟨bel HB.out⟩⟩
         rw [if_neg c12] at H
         exact absurd H (by simp)
        rw [if_neg c10] at H
        exact absurd H (by simp)
       rw [if_neg c9] at H
       exact absurd H (by simp)
      rw [if_neg c8] at H
      exact absurd H (by simp)
     replace c7 := fM_q.mpr c7
     subst c7
     have H1 : (some x5_1) = some r := by rw [if_neg (show ¬ (false = true) by decide)] at H; exact H
     clear H
     have H := H1
     clear H1
     obtain rfl := oI_q H
     go_wp2
     repeat (go_quiet (fail); try go_wp2)
     go_ret
     exact ⟨_, by first | rfl | (simp [eN_q, eS_q] <;> rfl) | (simp [*, eN_q, eS_q] <;> rfl), by (with_reducible repeat (first | apply rA_q | apply rN_q | apply rD_q)); exact HO_5.out, bel HB.out⟩

def impl_PlanMoved.l0 : Nat → List Int → List Int → List Int → Int → Int → Option (List Int)
 | 0, _, _, _, _, _ => none
 | k + 1, x0, x5, x15, x16, x17 => if x17 < x16 then (if 0 ≤ x17 then (if x17 < (x15.length : Int) then (if x17 < (x0.length : Int) then (if (rd x15 x17) = (rd x0 x17) then (impl_PlanMoved.l0 k x0 x5 x15 x16 (wrap64 (x17 + 1))) else (if x5.length < 17592186044416 then (impl_PlanMoved.l0 k x0 (x5 ++ [x17]) x15 x16 (wrap64 (x17 + 1))) else (none))) else (none)) else (none)) else (none)) else (some x5)
def impl_PlanMoved.f (k : Nat) (l0 : List Int) (l1 : List Int) : Option (List Int) := (some (([] : List Int) : List Int)).bind fun y152 => (if (l0.length : Int) = (l1.length : Int) then (impl_PlanMoved.l0 k l0 y152 l1 (l1.length : Int) 0) else (some y152))
theorem impl_PlanMoved.mono_l : ∀ k, (∀ y0 y1 y2 y3 y4, LeO (impl_PlanMoved.l0 k y0 y1 y2 y3 y4) (impl_PlanMoved.l0 (k + 1) y0 y1 y2 y3 y4))
 | 0 => fun _ _ _ _ _ r h => by simp [impl_PlanMoved.l0] at h
 | k + 1 => by
  have ih0 := impl_PlanMoved.mono_l k
  intro y0 y1 y2 y3 y4
  unfold impl_PlanMoved.l0
  repeat' first
  | (with_reducible exact ih0 _ _ _ _ _)
  | (with_reducible exact lR_q _)
  | (with_reducible exact lO_q _)
  | (with_reducible refine lI_q ?_ ?_)
  | (with_reducible refine lB_q ?_ (fun _ => ?_))
  | exact ih0 _ _ _ _ _
  | exact lO_q _
  | refine lI_q ?_ ?_
  | refine lB_q ?_ (fun _ => ?_)
theorem impl_PlanMoved.mono : ∀ a0 a1 k, LeO (impl_PlanMoved.f k a0 a1) (impl_PlanMoved.f (k + 1) a0 a1) := by
 intro a0 a1 k
 have ih0 := impl_PlanMoved.mono_l k
 unfold impl_PlanMoved.f
 repeat' first
  | (with_reducible exact ih0 _ _ _ _ _)
  | (with_reducible exact lR_q _)
  | (with_reducible exact lO_q _)
  | (with_reducible refine lI_q ?_ ?_)
  | (with_reducible refine lB_q ?_ (fun _ => ?_))
  | exact ih0 _ _ _ _ _
  | exact lO_q _
  | refine lI_q ?_ ?_
  | refine lB_q ?_ (fun _ => ?_)
set_option maxHeartbeats 8000000 in
set_option maxRecDepth 100000 in
theorem impl_PlanMoved.calls (k : Nat) (A0 : Option Addr) (c0 : Nat) (l0 : List Int) (A1 : Option Addr) (c1 : Nat) (l1 : List Int) (r : List Int) (w : World) (hr0 : Kd.C kI_q w A0 l0.length l0) (hc0 : l0.length ≤ c0) (hr1 : Kd.C kI_q w A1 l1.length l1) (hc1 : l1.length ≤ c1) (h : impl_PlanMoved.f k l0 l1 = some r) :
    Calls Try.prog 12 #[.slice A0 l0.length c0, .slice A1 l1.length c1] w fun e w' => ∃ v0_ : Value, e = .returned (v0_) ∧ Kd.R kI_q 3 w' w.heap.size (fun _ => True) v0_ r ∧ Below w.heap.size w w' := by
 have HR0 := Ae_q hr0
 have HC0 := Ae_q hc0
 clear hr0 hc0
 have HR1 := Ae_q hr1
 have HC1 := Ae_q hc1
 clear hr1 hc1
 have HB := Ae_q (bR_q w.heap.size w)
 have H : ((some (([] : List Int) : List Int)).bind fun y152 => (if (l0.length : Int) = (l1.length : Int) then (impl_PlanMoved.l0 k l0 y152 l1 (l1.length : Int) 0) else (some y152))) = some r := h
 clear h
 obtain ⟨y152, hy152⟩ : ∃ y_ : List Int, y_ = (([] : List Int)) := ⟨_, rfl⟩
 replace H : (if (l0.length : Int) = (l1.length : Int) then (impl_PlanMoved.l0 k l0 y152 l1 (l1.length : Int) 0) else (some y152)) = some r := by first | (rw [hy152]; with_reducible exact H) | (have H2_ := (oS_q _ _).symm.trans H; rw [hy152]; with_reducible exact H2_) | (have H2_ := (oS_q _ _).symm.trans H; with_reducible exact H2_) | with_reducible exact H | (rw [hy152]; exact H) | exact H
 have Ny152 := Ae_q hy152
 clear hy152
 by_cases c3 : (l0.length : Int) = (l1.length : Int)
 ·rw [if_pos c3] at H
  have c3b0 : ((l0.length : Int) == (l1.length : Int)) = true := beq_iff_eq.mpr c3
  have c3b1 : ((l0.length : Int) != (l1.length : Int)) = false := nE_q.mpr c3
  have c3b2 : (l0.length == l1.length) = true := by first | simpa using c3 | (simp at c3 ⊢; omega)
  clear c3
  have H' := Ae_q H
  clear H
  go_enter Try.func12, Try.ntmps12
  go_wp2_with (first | ((with_reducible refine gD_q (N := 8) rfl ?_); refine Kd.R_lit kI_q _ 3 ?hg (N := 8) ?hd (xs := ([] : List Int)) (inner := []) (ok := fun _ => True) (okp := fun _ => True) ?hr ?hp (fun _ hk => hk) trivial (bR_q _ _) (nR_q _) (by simp) ?_; (case hd => rfl); (case hg => rfl); (case hr => first | (go_simp; done) | (go_simp; rfl)); (case hp => exact (Reps.none _ _)); intro v153 w4 ho5 hb hg_ hnew_; clear hg_ hnew_; (first | rw [← Ny152.out] at ho5 | (simp only [Int.reduceToNat] at ho5; rw [← Ny152.out] at ho5)); have n0_ := Ae_q (rL_q ho5 (bZ_q (bel HB.out))); have n1_ := Ae_q (bT_q (bel HB.out) hb); clear HB; have HO154 := n0_; have HB := n1_; clear n0_ n1_; clear hb ho5))
  go_loopg [5, 17] k (fun kq v5 v17 w' => ∃ (x5_1 : List Int) (x17_1 : Int), v17 = .int .i64 x17_1 ∧ Aside0 (impl_PlanMoved.l0 kq l0 x5_1 l1 (l1.length : Int) x17_1 = some r) ∧ Aside0 (kq ≤ k) ∧ Aside0 (Kd.R kI_q 3 w' w.heap.size (fun _ => True) v5 x5_1) ∧ Aside0 (Below w.heap.size w w'))
  case atStart => exact ⟨(y152), (0), (by first | rfl | (simp; done) | (simp [*]; done)), H', ⟨nR_q _⟩, ⟨by (with_reducible repeat (first | apply rA_q | apply rN_q | apply rD_q)); exact HO154.out⟩, ⟨bel HB.out⟩⟩
  case round =>
   clear H'
   try clear c1
   try clear p2
   try clear c3
   try clear c3b0
   try clear c3b1
   try clear c3b2
   obtain ⟨x5_1, x17_1, rfl, HA, HK1, HO_5, HB⟩ := hrel
   cases gk with
   | zero => exact absurd HA.out (by simp [impl_PlanMoved.l0])
   | succ k1 =>
    have H := HA.out
    clear HA
    simp only [impl_PlanMoved.l0] at H
    by_cases c6 : x17_1 < (l1.length : Int)
    ·rw [if_pos c6] at H
     have c6b0 : decide (x17_1 < (l1.length : Int)) = true := dT_q c6
     clear c6
     by_cases c7 : 0 ≤ x17_1
     ·rw [if_pos c7] at H
      have c7b0 : decide (0 ≤ x17_1) = true := dT_q c7
      clear c7
      by_cases c8 : x17_1 < (l1.length : Int)
      ·rw [if_pos c8] at H
       have c8b0 : decide (x17_1 < (l1.length : Int)) = true := dT_q c8
       clear c8
       by_cases c9 : x17_1 < (l0.length : Int)
       ·rw [if_pos c9] at H
        have c9b0 : decide (x17_1 < (l0.length : Int)) = true := dT_q c9
        clear c9
        by_cases c10 : (rd l1 x17_1) = (rd l0 x17_1)
        ·rw [if_pos c10] at H
         have c10b0 : ((rd l1 x17_1) == (rd l0 x17_1)) = true := beq_iff_eq.mpr c10
         have c10b1 : ((rd l1 x17_1) != (rd l0 x17_1)) = false := nE_q.mpr c10
         clear c10
         have H' := Ae_q H
         clear H
         have p155 : 0 ≤ (x17_1 : Int) := oD_q (by assumption)
         have q155 : x17_1 < (l1.length : Int) := oD_q (by assumption)
         obtain ⟨ad155, e155, hx155_0⟩ := aI_q HR1.out x17_1 p155 q155
         cases e155
         replace hx155_0 := cel HB.out hx155_0
         replace p155 := eq_true p155
         replace q155 := eq_true q155
         have p156 : 0 ≤ (x17_1 : Int) := oD_q (by assumption)
         have q156 : x17_1 < (l0.length : Int) := oD_q (by assumption)
         obtain ⟨ad156, e156, hx156_0⟩ := aI_q HR0.out x17_1 p156 q156
         cases e156
         replace hx156_0 := cel HB.out hx156_0
         replace p156 := eq_true p156
         replace q156 := eq_true q156
         go_wp2
         go_roundg k1
         case measure => have := HK1.out; omega
         case rel => exact ⟨(x5_1), (wrap64 (x17_1 + 1)), (by first | rfl | (simp; done) | (simp [*]; done)), H', ⟨by have := HK1.out; omega⟩, ⟨by (with_reducible repeat (first | apply rA_q | apply rN_q | apply rD_q)); exact HO_5.out⟩, ⟨bel HB.out⟩⟩
        rw [if_neg c10] at H
        have c10b0 : ((rd l1 x17_1) == (rd l0 x17_1)) = false := fN_q.mpr c10
        have c10b1 : ((rd l1 x17_1) != (rd l0 x17_1)) = true := nI_q.mpr c10
        by_cases c11 : x5_1.length < 17592186044416
        ·rw [if_pos c11] at H
         have LMc11 := Ae_q c11
         clear c11
         obtain ⟨y157, hy157⟩ : ∃ y_ : List Int, y_ = (x5_1 ++ [x17_1]) := ⟨_, rfl⟩
         replace H : (impl_PlanMoved.l0 k1 l0 y157 l1 (l1.length : Int) (wrap64 (x17_1 + 1))) = some r := by first | (rw [hy157]; with_reducible exact H) | (have H2_ := (oS_q _ _).symm.trans H; rw [hy157]; with_reducible exact H2_) | (have H2_ := (oS_q _ _).symm.trans H; with_reducible exact H2_) | with_reducible exact H | (rw [hy157]; exact H) | exact H
         have Ny157 := Ae_q hy157
         clear hy157
         have H' := Ae_q H
         clear H
         have p155 : 0 ≤ (x17_1 : Int) := oD_q (by assumption)
         have q155 : x17_1 < (l1.length : Int) := oD_q (by assumption)
         obtain ⟨ad155, e155, hx155_0⟩ := aI_q HR1.out x17_1 p155 q155
         cases e155
         replace hx155_0 := cel HB.out hx155_0
         replace p155 := eq_true p155
         replace q155 := eq_true q155
         have p156 : 0 ≤ (x17_1 : Int) := oD_q (by assumption)
         have q156 : x17_1 < (l0.length : Int) := oD_q (by assumption)
         obtain ⟨ad156, e156, hx156_0⟩ := aI_q HR0.out x17_1 p156 q156
         cases e156
         replace hx156_0 := cel HB.out hx156_0
         replace p156 := eq_true p156
         replace q156 := eq_true q156
         go_wp2_with (first | ((with_reducible refine gate_builtin (b := .append) (xs := #[.tmp 28, .tmp 30]) rfl ?_); at_builtin; refine Kd.R_append kI_q (w0 := w) w.heap.size rfl (.tmp 28) (.tmp 30) 22 3 (.int .i64 0) 8 rfl Try.underlying22 info3 rfl (by decide) (by omega) u5 x5_1 x17_1 [.int .i64 x17_1] (fun _ => True) (fun _ => False) rfl rfl ?aP (fun _ hk => hk.elim) ?aF ?aO ?aB ?aS ?aL ?_; (case aP => exact rfl); (case aB => exact (bel HB.out)); (case aF => exact (fun _ _ => trivial)); (case aO => exact (rup HO_5.out)); (case aS => exact (bZ_q (bel HB.out))); (case aL => have := LMc11.out; omega); intro v158 w12 ho hb hg hat; rw [← Ny157.out] at ho; have n0_ := Ae_q (hb); have n1_ := Ae_q (ho); clear HB; clear HO_5; have HB := n0_; have HO159 := n1_; clear n0_ n1_; clear ho hb hg hat))
         go_roundg k1
         case measure => have := HK1.out; omega
         case rel => exact ⟨(y157), (wrap64 (x17_1 + 1)), (by first | rfl | (simp; done) | (simp [*]; done)), H', ⟨by have := HK1.out; omega⟩, ⟨by (with_reducible repeat (first | apply rA_q | apply rN_q | apply rD_q)); exact HO159.out⟩, ⟨bel HB.out⟩⟩
        rw [if_neg c11] at H
        exact absurd H (by simp)
       rw [if_neg c9] at H
       exact absurd H (by simp)
      rw [if_neg c8] at H
      exact absurd H (by simp)
     rw [if_neg c7] at H
     exact absurd H (by simp)
    rw [if_neg c6] at H
    have c6b0 : decide (x17_1 < (l1.length : Int)) = false := dF_q c6
    clear c6
    obtain rfl := oI_q H
    go_wp2
    go_ret
    exact ⟨_, by first | rfl | (simp [eN_q, eS_q] <;> rfl) | (simp [*, eN_q, eS_q] <;> rfl), by (with_reducible repeat (first | apply rA_q | apply rN_q | apply rD_q)); exact HO_5.out, bel HB.out⟩
 rw [if_neg c3] at H
 have c3b0 : ((l0.length : Int) == (l1.length : Int)) = false := fN_q.mpr c3
 have c3b1 : ((l0.length : Int) != (l1.length : Int)) = true := nI_q.mpr c3
 have c3b2 : (l0.length == l1.length) = false := by first | simpa using c3 | (simp at c3 ⊢; omega)
 obtain rfl := oI_q H
 go_enter Try.func12, Try.ntmps12
 go_wp2_with (first | ((with_reducible refine gD_q (N := 8) rfl ?_); refine Kd.R_lit kI_q _ 3 ?hg (N := 8) ?hd (xs := ([] : List Int)) (inner := []) (ok := fun _ => True) (okp := fun _ => True) ?hr ?hp (fun _ hk => hk) trivial (bR_q _ _) (nR_q _) (by simp) ?_; (case hd => rfl); (case hg => rfl); (case hr => first | (go_simp; done) | (go_simp; rfl)); (case hp => exact (Reps.none _ _)); intro v153 w13 ho14 hb hg_ hnew_; clear hg_ hnew_; (first | rw [← Ny152.out] at ho14 | (simp only [Int.reduceToNat] at ho14; rw [← Ny152.out] at ho14)); have n0_ := Ae_q (rL_q ho14 (bZ_q (bel HB.out))); have n1_ := Ae_q (bT_q (bel HB.out) hb); clear HB; have HO154 := n0_; have HB := n1_; clear n0_ n1_; clear hb ho14))
 go_ret
 exact ⟨_, by first | rfl | (simp [eN_q, eS_q] <;> rfl) | (simp [*, eN_q, eS_q] <;> rfl), by (with_reducible repeat (first | apply rA_q | apply rN_q | apply rD_q)); exact HO154.out, bel HB.out⟩

end Go.Proofs.Ytjnagefogjkbbaa.PPl
