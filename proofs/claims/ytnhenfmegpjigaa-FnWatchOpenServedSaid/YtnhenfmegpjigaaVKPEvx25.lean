import Derived.Test.YtnhenfmegpjigaaVKPEvx0
import Derived.Test.YtnhenfmegpjigaaVKPEvx5
import Derived.Test.YtnhenfmegpjigaaVKPEvx6
import Derived.Test.YtnhenfmegpjigaaVKPEvx21
import Derived.Test.YtnhenfmegpjigaaVKPEvx24
namespace Go.Proofs.Ytnhenfmegpjigaa.PEv
open Go.RowKit Go.Proofs.YtnhenfmegpjigaaW.PrintWords Go.Proofs.YtnhenfmegpjigaaW.PrintLast Go.Proofs.YtnhenfmegpjigaaW.PrintMore
attribute [local go_sem] max2_int min2_int max_two min_two max_three min_three max_four min_four
set_option linter.unusedVariables false
set_option linter.unusedSimpArgs false

mutual
def impl_WatchWrong.j0 : Nat → List (S50) → List (S27) → List Int → Bool → Option (List Int)
 | 0, _, _, _, _ => none
 | k + 1, x0, x1, x5, x16 => if x16 = true then (some x5) else (impl_WatchWrong.l0 k x0 x1 x5 x1 (x1.length : Int) 0)
def impl_WatchWrong.l0 : Nat → List (S50) → List (S27) → List Int → List (S27) → Int → Int → Option (List Int)
 | 0, _, _, _, _, _, _ => none
 | k + 1, x0, x1, x5, x18, x19, x20 => if x20 < x19 then (if 0 ≤ x20 then (if x20 < (x18.length : Int) then (if x20 ≤ (x1.length : Int) then ((impl_isWrong.f x0 (x1.take (x20 : Int).toNat) ((rd_T27 x18 x20).f0) ((rd_T27 x18 x20).f1) ((rd_T27 x18 x20).f2) ((rd_T27 x18 x20).f3) ((rd_T27 x18 x20).f4) ((rd_T27 x18 x20).f5)).bind fun t536 => (if t536 = true then (if x5.length < 17592186044416 then (impl_WatchWrong.l0 k x0 x1 (x5 ++ [x20]) x18 x19 (wrap64 (x20 + 1))) else (none)) else (impl_WatchWrong.l0 k x0 x1 x5 x18 x19 (wrap64 (x20 + 1))))) else (none)) else (none)) else (none)) else (some x5)
end
def impl_WatchWrong.f (k : Nat) (l0 : List (S50)) (l1 : List (S27)) : Option (List Int) := (some (([] : List Int) : List Int)).bind fun y525 => ((impl_GuestsValid.f k l0).bind fun t528 => (if t528 = true then ((impl_EventsValid.f k l1).bind fun t529 => (impl_WatchWrong.j0 k l0 l1 y525 (!t529))) else (impl_WatchWrong.j0 k l0 l1 y525 true)))
set_option maxHeartbeats 8000000 in
set_option maxRecDepth 100000 in
theorem impl_WatchWrong.calls (k : Nat) (A0 : Option Addr) (c0 : Nat) (l0 : List (S50)) (A1 : Option Addr) (c1 : Nat) (l1 : List (S27)) (r : List Int) (w : World) (hr0 : Kd.C k50 w A0 l0.length l0) (hc0 : l0.length ≤ c0) (hr1 : Kd.C k27 w A1 l1.length l1) (hc1 : l1.length ≤ c1) (h : impl_WatchWrong.f k l0 l1 = some r) :
    Calls Try.prog 34 #[.slice A0 l0.length c0, .slice A1 l1.length c1] w fun e w' => ∃ v0_ : Value, e = .returned (v0_) ∧ Kd.R kI_q 3 w' w.heap.size (fun _ => True) v0_ r ∧ Below w.heap.size w w' := by
 have hu27 := Try.underlying27
 have HR0 := Ae_q hr0
 have HC0 := Ae_q hc0
 clear hr0 hc0
 have HR1 := Ae_q hr1
 have HC1 := Ae_q hc1
 clear hr1 hc1
 have HB := Ae_q (bR_q w.heap.size w)
 have H : ((some (([] : List Int) : List Int)).bind fun y525 => ((impl_GuestsValid.f k l0).bind fun t528 => (if t528 = true then ((impl_EventsValid.f k l1).bind fun t529 => (impl_WatchWrong.j0 k l0 l1 y525 (!t529))) else (impl_WatchWrong.j0 k l0 l1 y525 true)))) = some r := h
 clear h
 obtain ⟨y525, hy525⟩ : ∃ y_ : List Int, y_ = (([] : List Int)) := ⟨_, rfl⟩
 replace H : ((impl_GuestsValid.f k l0).bind fun t528 => (if t528 = true then ((impl_EventsValid.f k l1).bind fun t529 => (impl_WatchWrong.j0 k l0 l1 y525 (!t529))) else (impl_WatchWrong.j0 k l0 l1 y525 true))) = some r := by first | (rw [hy525]; with_reducible exact H) | (have H2_ := (oS_q _ _).symm.trans H; rw [hy525]; with_reducible exact H2_) | (have H2_ := (oS_q _ _).symm.trans H; with_reducible exact H2_) | with_reducible exact H | (rw [hy525]; exact H) | exact H
 have Ny525 := Ae_q hy525
 clear hy525
 have HC3 := Ae_q H
 clear H
 go_enter Try.func34, Try.ntmps34
 go_upto_region 2 with (first | ((with_reducible refine gD_q (N := 8) rfl ?_); refine Kd.R_lit kI_q _ 3 ?hg (N := 8) ?hd (xs := ([] : List Int)) (inner := []) (ok := fun _ => True) (okp := fun _ => True) ?hr ?hp (fun _ hk => hk) trivial (bR_q _ _) (nR_q _) (by simp) ?_; (case hd => rfl); (case hg => rfl); (case hr => first | (go_simp; done) | (go_simp; rfl)); (case hp => exact (Reps.none _ _)); intro v526 w4 ho5 hb hg_ hnew_; clear hg_ hnew_; (first | rw [← Ny525.out] at ho5 | (simp only [Int.reduceToNat] at ho5; rw [← Ny525.out] at ho5)); have n0_ := Ae_q (rL_q ho5 (bZ_q (bel HB.out))); have n1_ := Ae_q (bT_q (bel HB.out) hb); clear HB; have HO527 := n0_; have HB := n1_; clear n0_ n1_; clear hb ho5))
 (try simp only [Act.put, sA_q, sZ_q, sS_q])
 go_cut [16] (fun v16 wc => ∃ (kq : Nat) (x16_2 : Bool), v16 = .bool x16_2 ∧ Aside0 (impl_WatchWrong.j0 kq l0 l1 y525 x16_2 = some r) ∧ Aside0 (kq ≤ k) ∧ Aside0 (Kd.R kI_q 3 wc w.heap.size (fun _ => True) v526 y525) ∧ Aside0 (Below w.heap.size w wc))
 case first =>
  have H := HC3.out
  clear HC3
  replace H := oB_q.mp H
  obtain ⟨t528, A60, H⟩ := H
  replace H : (if t528 = true then ((impl_EventsValid.f k l1).bind fun t529 => (impl_WatchWrong.j0 k l0 l1 y525 (!t529))) else (impl_WatchWrong.j0 k l0 l1 y525 true)) = some r := H
  have A6 := Ae_q A60
  clear A60
  by_cases c7 : t528 = true
  rotate_left
  ·replace c7 := fM_q.mpr c7
   subst c7
   have H1 : (impl_WatchWrong.j0 k l0 l1 y525 true) = some r := by rw [if_neg (show ¬ (false = true) by decide)] at H; exact H
   clear H
   have H := H1
   clear H1
   have H' := Ae_q H
   clear H
   go_wp2_with (first | ((with_reducible refine gC_q (f := 54) rfl ?_); refine gL_q (some 10) rfl rfl Try.func54 (by kernel_rfl) rfl #[.slice A0 l0.length c0] rfl (by (try simp only [lM_q, lC_q, lN_q]); first | done | rfl | (simp only [lD_q, lT_q]; rfl)) ?_; (with_reducible refine (impl_GuestsValid.calls k _ _ l0 false _ ?side1 ?side2 A6.out).mono ?_); (case side1 => exact cup (cB_q HR0.out HB.out)); (case side2 => exact HC0.out); rintro e w11 ⟨rfl, hb⟩; refine ⟨_, rfl, ?_⟩; have n0_ := Ae_q (rO_q (rup HO527.out) hb); have n1_ := Ae_q (bT_q (bel HB.out) hb); clear HO527; clear HB; have HO527 := n0_; have HB := n1_; clear n0_ n1_; (try clear hb); (try clear hb2); (try clear hk); (try clear hi)))
   go_meet
   case rel => exact ⟨_, (true), (by first | rfl | (simp; done) | (simp [*]; done)), H', ⟨by first | omega | exact nR_q _⟩, ⟨rup HO527.out⟩, ⟨bel HB.out⟩⟩
  subst c7
  have H1 : ((impl_EventsValid.f k l1).bind fun t529 => (impl_WatchWrong.j0 k l0 l1 y525 (!t529))) = some r := by rw [if_pos rfl] at H; exact H
  clear H
  have H := H1
  clear H1
  replace H := oB_q.mp H
  obtain ⟨t529, A80, H⟩ := H
  replace H : (impl_WatchWrong.j0 k l0 l1 y525 (!t529)) = some r := H
  have A8 := Ae_q A80
  clear A80
  have H' := Ae_q H
  clear H
  go_wp2_with (first | ((with_reducible refine gC_q (f := 54) rfl ?_); refine gL_q (some 10) rfl rfl Try.func54 (by kernel_rfl) rfl #[.slice A0 l0.length c0] rfl (by (try simp only [lM_q, lC_q, lN_q]); first | done | rfl | (simp only [lD_q, lT_q]; rfl)) ?_; (with_reducible refine (impl_GuestsValid.calls k _ _ l0 true _ ?side1 ?side2 A6.out).mono ?_); (case side1 => exact cup (cB_q HR0.out HB.out)); (case side2 => exact HC0.out); rintro e w9 ⟨rfl, hb⟩; refine ⟨_, rfl, ?_⟩; have n0_ := Ae_q (rO_q (rup HO527.out) hb); have n1_ := Ae_q (bT_q (bel HB.out) hb); clear HO527; clear HB; have HO527 := n0_; have HB := n1_; clear n0_ n1_; (try clear hb); (try clear hb2); (try clear hk); (try clear hi)) | (go_at_call 16; (with_reducible refine (impl_EventsValid.calls k _ _ l1 t529 _ ?side1 ?side2 A8.out).mono ?_); (case side1 => exact cup (cB_q HR1.out HB.out)); (case side2 => exact HC1.out); rintro e w10 ⟨rfl, hb⟩; have n0_ := Ae_q (rO_q (rup HO527.out) hb); have n1_ := Ae_q (bT_q (bel HB.out) hb); clear HO527; clear HB; have HO527 := n0_; have HB := n1_; clear n0_ n1_; (try clear hb); (try clear hb2); (try clear hk); (try clear hi)))
  go_meet
  case rel => exact ⟨_, (!t529), (by first | rfl | (simp; done) | (simp [*]; done)), H', ⟨by first | omega | exact nR_q _⟩, ⟨rup HO527.out⟩, ⟨bel HB.out⟩⟩
 case rest =>
  clear HC3
  try clear c1
  try clear p2
  try clear c3
  try clear c5
  try clear c7
  obtain ⟨kq, x16_2, rfl, HA, HJ2, HO_5, HB⟩ := hcut
  cases kq with
  | zero => exact absurd HA.out (by simp [impl_WatchWrong.j0])
  | succ kj2 =>
   have H := HA.out
   clear HA
   simp only [impl_WatchWrong.j0] at H
   by_cases c12 : x16_2 = true
   ·subst c12
    have H1 : (some y525) = some r := by rw [if_pos rfl] at H; exact H
    clear H
    have H := H1
    clear H1
    obtain rfl := oI_q H
    go_wp2
    go_ret
    exact ⟨_, by first | rfl | (simp [eN_q, eS_q] <;> rfl) | (simp [*, eN_q, eS_q] <;> rfl), rup HO_5.out, bel HB.out⟩
   replace c12 := fM_q.mpr c12
   subst c12
   have H1 : (impl_WatchWrong.l0 kj2 l0 l1 y525 l1 (l1.length : Int) 0) = some r := by rw [if_neg (show ¬ (false = true) by decide)] at H; exact H
   clear H
   have H := H1
   clear H1
   have H' := Ae_q H
   clear H
   go_wp2
   go_loopg [5, 20] kj2 (fun kq v5 v20 w' => ∃ (x5_2 : List Int) (x20_2 : Int), v20 = .int .i64 x20_2 ∧ Aside0 (impl_WatchWrong.l0 kq l0 l1 x5_2 l1 (l1.length : Int) x20_2 = some r) ∧ Aside0 (kq ≤ kj2) ∧ Aside0 (Kd.R kI_q 3 w' w.heap.size (fun _ => True) v5 x5_2) ∧ Aside0 (Below w.heap.size w w'))
   case atStart => exact ⟨(y525), (0), (by first | rfl | (simp; done) | (simp [*]; done)), H', ⟨nR_q _⟩, ⟨rup HO_5.out⟩, ⟨bel HB.out⟩⟩
   case round =>
    clear H'
    try clear c1
    try clear p2
    try clear c3
    try clear c5
    try clear c7
    try clear c12
    try clear p2
    obtain ⟨x5_2, x20_2, rfl, HA, HK2, HO_5, HB⟩ := hrel
    cases gk with
    | zero => exact absurd HA.out (by simp [impl_WatchWrong.l0])
    | succ k2 =>
     have H := HA.out
     clear HA
     simp only [impl_WatchWrong.l0] at H
     by_cases c13 : x20_2 < (l1.length : Int)
     rotate_left
     ·rw [if_neg c13] at H
      have c13b0 : decide (x20_2 < (l1.length : Int)) = false := dF_q c13
      clear c13
      obtain rfl := oI_q H
      go_wp2
      go_ret
      exact ⟨_, by first | rfl | (simp [eN_q, eS_q] <;> rfl) | (simp [*, eN_q, eS_q] <;> rfl), rup HO_5.out, bel HB.out⟩
     rw [if_pos c13] at H
     have c13b0 : decide (x20_2 < (l1.length : Int)) = true := dT_q c13
     clear c13
     by_cases c14 : 0 ≤ x20_2
     rotate_left
     ·rw [if_neg c14] at H
      exact absurd H (by simp)
     rw [if_pos c14] at H
     have c14b0 : decide (0 ≤ x20_2) = true := dT_q c14
     clear c14
     by_cases c15 : x20_2 < (l1.length : Int)
     rotate_left
     ·rw [if_neg c15] at H
      exact absurd H (by simp)
     rw [if_pos c15] at H
     have c15b0 : decide (x20_2 < (l1.length : Int)) = true := dT_q c15
     clear c15
     have c16b0 := eq_true (oD_q (by assumption) : 0 ≤ x20_2)
     by_cases c17 : x20_2 ≤ (l1.length : Int)
     rotate_left
     ·rw [if_neg c17] at H
      exact absurd H (by simp)
     rw [if_pos c17] at H
     have c17b0 := eq_true c17
     have c17b1 : decide (x20_2 ≤ (l1.length : Int)) = true := dT_q c17
     clear c17
     obtain ⟨y532, hy532⟩ : ∃ y_ : List (S27), y_ = (l1.take (x20_2 : Int).toNat) := ⟨_, rfl⟩
     replace H : ((impl_isWrong.f l0 y532 ((rd_T27 l1 x20_2).f0) ((rd_T27 l1 x20_2).f1) ((rd_T27 l1 x20_2).f2) ((rd_T27 l1 x20_2).f3) ((rd_T27 l1 x20_2).f4) ((rd_T27 l1 x20_2).f5)).bind fun t536 => (if t536 = true then (if x5_2.length < 17592186044416 then (impl_WatchWrong.l0 k2 l0 l1 (x5_2 ++ [x20_2]) l1 (l1.length : Int) (wrap64 (x20_2 + 1))) else (none)) else (impl_WatchWrong.l0 k2 l0 l1 x5_2 l1 (l1.length : Int) (wrap64 (x20_2 + 1))))) = some r := by first | (rw [hy532]; with_reducible exact H) | (have H2_ := (oS_q _ _).symm.trans H; rw [hy532]; with_reducible exact H2_) | (have H2_ := (oS_q _ _).symm.trans H; with_reducible exact H2_) | with_reducible exact H | (rw [hy532]; exact H) | exact H
     have Ny532 := Ae_q hy532
     clear hy532
     replace H := oB_q.mp H
     obtain ⟨t536, A180, H⟩ := H
     replace H : (if t536 = true then (if x5_2.length < 17592186044416 then (impl_WatchWrong.l0 k2 l0 l1 (x5_2 ++ [x20_2]) l1 (l1.length : Int) (wrap64 (x20_2 + 1))) else (none)) else (impl_WatchWrong.l0 k2 l0 l1 x5_2 l1 (l1.length : Int) (wrap64 (x20_2 + 1)))) = some r := H
     have A18 := Ae_q A180
     clear A180
     by_cases c19 : t536 = true
     rotate_left
     ·replace c19 := fM_q.mpr c19
      subst c19
      have H1 : (impl_WatchWrong.l0 k2 l0 l1 x5_2 l1 (l1.length : Int) (wrap64 (x20_2 + 1))) = some r := by rw [if_neg (show ¬ (false = true) by decide)] at H; exact H
      clear H
      have H := H1
      clear H1
      have H' := Ae_q H
      clear H
      have p530 : 0 ≤ (x20_2 : Int) := oD_q (by assumption)
      have q530 : x20_2 < (l1.length : Int) := oD_q (by assumption)
      obtain ⟨ad530, e530, hx530_0, hx530_1, hx530_2, hx530_3, hx530_4, hx530_5⟩ := at_T27 HR1.out x20_2 p530 q530
      cases e530
      replace hx530_0 := cel HB.out hx530_0
      replace hx530_1 := cel HB.out hx530_1
      replace hx530_2 := cel HB.out hx530_2
      replace hx530_3 := cel HB.out hx530_3
      replace hx530_4 := cel HB.out hx530_4
      replace hx530_5 := cel HB.out hx530_5
      replace p530 := eq_true p530
      replace q530 := eq_true q530
      try go_wp2_with (first | ((with_reducible refine gD_q (N := 7) rfl ?_); refine bE_q ?hg (N := 7) ?hd (cs := #[.int .i64 0, .int .i64 0, .int .i64 0, .int .i64 0, .int .i64 0, .int .i64 0]) (t := 27) ?hr ?_; (case hd => rfl); (case hg => rfl); (case hr => first | (go_simp; done) | (go_simp; rfl)); intro gb531 hg w28 hbox hb; have n0_ := Ae_q (rO_q (rup HO_5.out) hb); have n1_ := Ae_q (bT_q (bel HB.out) hb); have n2_ := Ae_q (hbox); have n3_ := Ae_q ((by rw [hg]; exact (bZ_q (bel HB.out)) : w.heap.size ≤ gb531)); have n4_ := Ae_q ((by rw [hg]; exact (bZ_q (bel HB.out)) : w.heap.size ≤ gb531)); clear HO_5; clear HB; have HO_5 := n0_; have HB := n1_; have BK531 := n2_; have GW531 := n3_; have GE531 := n4_; clear n0_ n1_ n2_ n3_ n4_; clear hb hbox hg; have hcz29_0 : cI w28 gb531 0 0 := cZ BK531 0 rfl; have hcz29_1 : cI w28 gb531 1 0 := cZ BK531 1 rfl; have hcz29_2 : cI w28 gb531 2 0 := cZ BK531 2 rfl; have hcz29_3 : cI w28 gb531 3 0 := cZ BK531 3 rfl; have hcz29_4 : cI w28 gb531 4 0 := cZ BK531 4 rfl; have hcz29_5 : cI w28 gb531 5 0 := cZ BK531 5 rfl; have hfz29_0 := bF_q BK531.out 0; have hfz29_1 := bF_q BK531.out 1; have hfz29_2 := bF_q BK531.out 2; have hfz29_3 := bF_q BK531.out 3; have hfz29_4 := bF_q BK531.out 4; have hfz29_5 := bF_q BK531.out 5))
      have n0_ : Aside0 (Kd.R kI_q 3 ((((((w28.setCell ⟨gb531, 0, none⟩ (.int .i64 ((rd_T27 l1 x20_2).f0))).setCell ⟨gb531, 1, none⟩ (.int .i64 ((rd_T27 l1 x20_2).f1))).setCell ⟨gb531, 2, none⟩ (.int .i64 ((rd_T27 l1 x20_2).f2))).setCell ⟨gb531, 3, none⟩ (.int .i64 ((rd_T27 l1 x20_2).f3))).setCell ⟨gb531, 4, none⟩ (.int .i64 ((rd_T27 l1 x20_2).f4))).setCell ⟨gb531, 5, none⟩ (.int .i64 ((rd_T27 l1 x20_2).f5))) w.heap.size (fun _ => True) u5 x5_2) := ⟨by (with_reducible repeat (first | apply rA_q | apply rN_q | apply rD_q)); exact rM_q (Kd.R_far (p := ⟨gb531, 5, none⟩) (Kd.R_far (p := ⟨gb531, 4, none⟩) (Kd.R_far (p := ⟨gb531, 3, none⟩) (Kd.R_far (p := ⟨gb531, 2, none⟩) (Kd.R_far (p := ⟨gb531, 1, none⟩) (Kd.R_far (p := ⟨gb531, 0, none⟩) (Kd.R_types HO_5.out BK531.out (by decide)) (fun _ hk => hk.2) (.int .i64 ((rd_T27 l1 x20_2).f0))) (fun _ hk => hk.2) (.int .i64 ((rd_T27 l1 x20_2).f1))) (fun _ hk => hk.2) (.int .i64 ((rd_T27 l1 x20_2).f2))) (fun _ hk => hk.2) (.int .i64 ((rd_T27 l1 x20_2).f3))) (fun _ hk => hk.2) (.int .i64 ((rd_T27 l1 x20_2).f4))) (fun _ hk => hk.2) (.int .i64 ((rd_T27 l1 x20_2).f5))) (fun _ hk => trivial)⟩
      have n1_ : Aside0 (((((((w28.setCell ⟨gb531, 0, none⟩ (.int .i64 ((rd_T27 l1 x20_2).f0))).setCell ⟨gb531, 1, none⟩ (.int .i64 ((rd_T27 l1 x20_2).f1))).setCell ⟨gb531, 2, none⟩ (.int .i64 ((rd_T27 l1 x20_2).f2))).setCell ⟨gb531, 3, none⟩ (.int .i64 ((rd_T27 l1 x20_2).f3))).setCell ⟨gb531, 4, none⟩ (.int .i64 ((rd_T27 l1 x20_2).f4))).setCell ⟨gb531, 5, none⟩ (.int .i64 ((rd_T27 l1 x20_2).f5))).heap[gb531]? = some (.cells #[.int .i64 ((rd_T27 l1 x20_2).f0), .int .i64 ((rd_T27 l1 x20_2).f1), .int .i64 ((rd_T27 l1 x20_2).f2), .int .i64 ((rd_T27 l1 x20_2).f3), .int .i64 ((rd_T27 l1 x20_2).f4), .int .i64 ((rd_T27 l1 x20_2).f5)] 27 (0, 0))) := ⟨by (with_reducible repeat (first | refine bN_q ?_ _ | refine bW_q ?_ | refine bL_q ?_ _)); refine blk_put (cs := #[.int .i64 ((rd_T27 l1 x20_2).f0), .int .i64 ((rd_T27 l1 x20_2).f1), .int .i64 ((rd_T27 l1 x20_2).f2), .int .i64 ((rd_T27 l1 x20_2).f3), .int .i64 ((rd_T27 l1 x20_2).f4), .int .i64 0]) ?_ 5 _ rfl; (with_reducible repeat (first | refine bN_q ?_ _ | refine bW_q ?_ | refine bL_q ?_ _)); refine blk_put (cs := #[.int .i64 ((rd_T27 l1 x20_2).f0), .int .i64 ((rd_T27 l1 x20_2).f1), .int .i64 ((rd_T27 l1 x20_2).f2), .int .i64 ((rd_T27 l1 x20_2).f3), .int .i64 0, .int .i64 0]) ?_ 4 _ rfl; (with_reducible repeat (first | refine bN_q ?_ _ | refine bW_q ?_ | refine bL_q ?_ _)); refine blk_put (cs := #[.int .i64 ((rd_T27 l1 x20_2).f0), .int .i64 ((rd_T27 l1 x20_2).f1), .int .i64 ((rd_T27 l1 x20_2).f2), .int .i64 0, .int .i64 0, .int .i64 0]) ?_ 3 _ rfl; (with_reducible repeat (first | refine bN_q ?_ _ | refine bW_q ?_ | refine bL_q ?_ _)); refine blk_put (cs := #[.int .i64 ((rd_T27 l1 x20_2).f0), .int .i64 ((rd_T27 l1 x20_2).f1), .int .i64 0, .int .i64 0, .int .i64 0, .int .i64 0]) ?_ 2 _ rfl; (with_reducible repeat (first | refine bN_q ?_ _ | refine bW_q ?_ | refine bL_q ?_ _)); refine blk_put (cs := #[.int .i64 ((rd_T27 l1 x20_2).f0), .int .i64 0, .int .i64 0, .int .i64 0, .int .i64 0, .int .i64 0]) ?_ 1 _ rfl; (with_reducible repeat (first | refine bN_q ?_ _ | refine bW_q ?_ | refine bL_q ?_ _)); refine blk_put (cs := #[.int .i64 0, .int .i64 0, .int .i64 0, .int .i64 0, .int .i64 0, .int .i64 0]) ?_ 0 _ rfl; (with_reducible repeat (first | refine bN_q ?_ _ | refine bW_q ?_ | refine bL_q ?_ _)); exact BK531.out⟩
      have n2_ : Aside0 (Below w.heap.size w ((((((w28.setCell ⟨gb531, 0, none⟩ (.int .i64 ((rd_T27 l1 x20_2).f0))).setCell ⟨gb531, 1, none⟩ (.int .i64 ((rd_T27 l1 x20_2).f1))).setCell ⟨gb531, 2, none⟩ (.int .i64 ((rd_T27 l1 x20_2).f2))).setCell ⟨gb531, 3, none⟩ (.int .i64 ((rd_T27 l1 x20_2).f3))).setCell ⟨gb531, 4, none⟩ (.int .i64 ((rd_T27 l1 x20_2).f4))).setCell ⟨gb531, 5, none⟩ (.int .i64 ((rd_T27 l1 x20_2).f5)))) := ⟨by repeat (with_reducible first | exact HB.out | apply bA_q | apply pB_q | apply bD_q | refine bS_q ?_ GE531.out)⟩
      (try clear HO_5)
      (try clear BK531)
      (try clear HB)
      generalize ((((((w28.setCell ⟨gb531, 0, none⟩ (.int .i64 ((rd_T27 l1 x20_2).f0))).setCell ⟨gb531, 1, none⟩ (.int .i64 ((rd_T27 l1 x20_2).f1))).setCell ⟨gb531, 2, none⟩ (.int .i64 ((rd_T27 l1 x20_2).f2))).setCell ⟨gb531, 3, none⟩ (.int .i64 ((rd_T27 l1 x20_2).f3))).setCell ⟨gb531, 4, none⟩ (.int .i64 ((rd_T27 l1 x20_2).f4))).setCell ⟨gb531, 5, none⟩ (.int .i64 ((rd_T27 l1 x20_2).f5))) = w30 at n0_ n1_ n2_ ⊢
      have HO_5 := n0_
      have BK531 := n1_
      have HB := n2_
      clear n0_ n1_ n2_
      have n0_ := Ae_q (rD_q HO_5.out)
      have n1_ := Ae_q (bW_q BK531.out)
      have n2_ := Ae_q (bD_q HB.out)
      clear HO_5
      clear BK531
      clear HB
      have HO_5 := n0_
      have BK531 := n1_
      have HB := n2_
      clear n0_ n1_ n2_
      have q32 : (x20_2 : Int) ≤ ((l1.length : Int) : Int) := oD_q (by assumption)
      obtain ⟨i032, hi032, _, hsz32, _⟩ := info_parts info27
      have hroom32 : l1.length ≤ c1 := HC1.out
      have hC32 : Kd.C k27 _ (some ad530) l1.length l1 := HR1.out
      have hcut32 := cut_to (P := Try.prog) 23 27 .i64 Try.underlying23 hi032 (some ad530) l1.length c1 x20_2 (oD_q (by assumption)) q32 hroom32
      have hr32 := Kd.C_take (m := (x20_2 : Int).toNat) hC32 (by omega)
      have hy32 : y532.length = (x20_2 : Int).toNat := (by rw [Ny532.out, lT_q]; omega)
      rw [← Ny532.out] at hr32
      rw [← hy32] at hcut32
      have HR535 := Ae_q hr32
      have HC535 := Ae_q (show y532.length ≤ c1 from by omega)
      clear hr32 hC32 hroom32 hi032 hsz32
      have KY32 := Ae_q hy32
      clear hy32
      replace q32 := eq_true q32
      refine start_ (n := 6) (S := fun w' => w'.cell? ⟨gb531, 0, none⟩ = some (.int .i64 ((rd_T27 l1 x20_2).f0)) ∧ w'.cell? ⟨gb531, 1, none⟩ = some (.int .i64 ((rd_T27 l1 x20_2).f1)) ∧ w'.cell? ⟨gb531, 2, none⟩ = some (.int .i64 ((rd_T27 l1 x20_2).f2)) ∧ w'.cell? ⟨gb531, 3, none⟩ = some (.int .i64 ((rd_T27 l1 x20_2).f3)) ∧ w'.cell? ⟨gb531, 4, none⟩ = some (.int .i64 ((rd_T27 l1 x20_2).f4)) ∧ w'.cell? ⟨gb531, 5, none⟩ = some (.int .i64 ((rd_T27 l1 x20_2).f5))) (ds := []) #[false, false, false, false, false, false] (by kernel_rfl) rfl rfl ⟨(bC_q BK531.out 0).trans rfl, (bC_q BK531.out 1).trans rfl, (bC_q BK531.out 2).trans rfl, (bC_q BK531.out 3).trans rfl, (bC_q BK531.out 4).trans rfl, (bC_q BK531.out 5).trans rfl⟩ (fun hHeld => ?_)
      generalize w30.drew = w31 at HO_5 BK531 HB HR535 hHeld ⊢
      refine pure_ (i := 0) (N := some 25) (v := ?_) (a' := ?_) #[true, false, false, false, false, false] rfl rfl (by kernel_rfl) (fun _ _ _ h => h) (Or.inl ⟨by rfl, ?_⟩) ?_ ?_
      rotate_left
      ·intro w'
       go_simp
       with_reducible rfl
      rotate_left
      ·simp only [pS_q]
       rfl
      refine pure_ (i := 1) (N := some 26) (v := ?_) (a' := ?_) #[true, true, false, false, false, false] rfl rfl (by kernel_rfl) (fun _ _ _ h => h) (Or.inl ⟨by rfl, ?_⟩) ?_ ?_
      rotate_left
      ·intro w'
       go_simp
       with_reducible rfl
      rotate_left
      ·simp only [pS_q]
       rfl
      refine pure_ (i := 2) (N := some 27) (v := ?_) (a' := ?_) #[true, true, true, false, false, false] rfl rfl (by kernel_rfl) (fun _ _ _ h => h) (Or.inl ⟨by rfl, ?_⟩) ?_ ?_
      rotate_left
      ·intro w'
       go_simp
       with_reducible rfl
      rotate_left
      ·simp only [pS_q]
       rfl
      refine pure_ (i := 3) (N := some 28) (v := ?_) (a' := ?_) #[true, true, true, true, false, false] rfl rfl (by kernel_rfl) (fun _ _ _ h => h) (Or.inl ⟨by rfl, ?_⟩) ?_ ?_
      rotate_left
      ·intro w'
       go_simp
       with_reducible rfl
      rotate_left
      ·simp only [pS_q]
       rfl
      refine take_ (i := 4) (N := some 29) (v := ?_) (a' := ?_) #[true, true, true, true, true, false] rfl rfl (by kernel_rfl) (fun _ _ _ h => h) (Or.inl ⟨by rfl, ?_⟩) hHeld ?_ ?_
      rotate_left
      ·rintro w' ⟨s0, s1, s2, s3, s4, s5⟩
       go_simp
       with_reducible rfl
      rotate_left
      ·simp only [pS_q]
       rfl
      refine one_ (i := 5) (N := some 30) #[true, true, true, true, true, true] rfl rfl (by kernel_rfl) (by decide) (fun K hK => ?_)
      refine goes_ Try.func55 (by kernel_rfl) rfl #[.slice A0 l0.length c0, .slice (some ad530) y532.length c1, .agg #[.int .i64 ((rd_T27 l1 x20_2).f0), .int .i64 ((rd_T27 l1 x20_2).f1), .int .i64 ((rd_T27 l1 x20_2).f2), .int .i64 ((rd_T27 l1 x20_2).f3), .int .i64 ((rd_T27 l1 x20_2).f4), .int .i64 ((rd_T27 l1 x20_2).f5)]] (by rfl) rfl rfl (by (try simp only [lM_q, lC_q, lN_q]); first | done | rfl | (simp only [lD_q, lT_q]; rfl)) ?_
      with_reducible refine (impl_isWrong.calls _ _ l0 _ _ y532 ((rd_T27 l1 x20_2).f0) ((rd_T27 l1 x20_2).f1) ((rd_T27 l1 x20_2).f2) ((rd_T27 l1 x20_2).f3) ((rd_T27 l1 x20_2).f4) ((rd_T27 l1 x20_2).f5) false _ ?side1 ?side2 ?side3 ?side4 A18.out).mono ?_
      (case side1 => exact cup (cB_q HR0.out HB.out))
      (case side2 => exact HC0.out)
      (case side3 => exact cup (cB_q HR535.out HB.out))
      (case side4 => exact HC535.out)
      rintro e w33 ⟨rfl, hb⟩
      refine ⟨_, rfl, ?_⟩
      have n0_ := Ae_q (rO_q (rup HO_5.out) hb)
      have n1_ := Ae_q (bB_q (g := gb531) (o := .cells #[.int .i64 ((rd_T27 l1 x20_2).f0), .int .i64 ((rd_T27 l1 x20_2).f1), .int .i64 ((rd_T27 l1 x20_2).f2), .int .i64 ((rd_T27 l1 x20_2).f3), .int .i64 ((rd_T27 l1 x20_2).f4), .int .i64 ((rd_T27 l1 x20_2).f5)] 27 (0, 0)) (bup BK531.out) hb)
      have n2_ := Ae_q (bT_q (by repeat (with_reducible first | exact HB.out | apply bA_q | apply pB_q | apply bD_q | refine bS_q ?_ GE531.out)) hb)
      clear HO_5
      clear BK531
      clear HB
      have HO_5 := n0_
      have BK531 := n1_
      have HB := n2_
      clear n0_ n1_ n2_
      (try clear hb)
      (try clear hb2)
      (try clear hk)
      (try clear hi)
      refine hK.out _ _ ⟨(bC_q BK531.out 0).trans rfl, (bC_q BK531.out 1).trans rfl, (bC_q BK531.out 2).trans rfl, (bC_q BK531.out 3).trans rfl, (bC_q BK531.out 4).trans rfl, (bC_q BK531.out 5).trans rfl⟩ (fun hHeld => ?_)
      clear hK K
      refine norm_ (a' := ?_) ?_ ?_
      rotate_left
      ·show Act.put _ (some 30) _ = _
       simp only [pS_q]
       rfl
      refine done_ (by kernel_rfl) ?_
      try go_wp2
      go_roundg k2
      case measure => have := HJ2.out; have := HK2.out; omega
      case rel => exact ⟨(x5_2), (wrap64 (x20_2 + 1)), (by first | rfl | (simp; done) | (simp [*]; done)), H', ⟨by have := HJ2.out; have := HK2.out; omega⟩, ⟨rup HO_5.out⟩, ⟨by repeat (with_reducible first | exact HB.out | apply bA_q | apply pB_q | apply bD_q | refine bS_q ?_ GE531.out)⟩⟩
     subst c19
     have H1 : (if x5_2.length < 17592186044416 then (impl_WatchWrong.l0 k2 l0 l1 (x5_2 ++ [x20_2]) l1 (l1.length : Int) (wrap64 (x20_2 + 1))) else (none)) = some r := by rw [if_pos rfl] at H; exact H
     clear H
     have H := H1
     clear H1
     by_cases c20 : x5_2.length < 17592186044416
     rotate_left
     ·rw [if_neg c20] at H
      exact absurd H (by simp)
     rw [if_pos c20] at H
     have LMc20 := Ae_q c20
     clear c20
     obtain ⟨y537, hy537⟩ : ∃ y_ : List Int, y_ = (x5_2 ++ [x20_2]) := ⟨_, rfl⟩
     replace H : (impl_WatchWrong.l0 k2 l0 l1 y537 l1 (l1.length : Int) (wrap64 (x20_2 + 1))) = some r := by first | (rw [hy537]; with_reducible exact H) | (have H2_ := (oS_q _ _).symm.trans H; rw [hy537]; with_reducible exact H2_) | (have H2_ := (oS_q _ _).symm.trans H; with_reducible exact H2_) | with_reducible exact H | (rw [hy537]; exact H) | exact H
     have Ny537 := Ae_q hy537
     clear hy537
     have H' := Ae_q H
     clear H
     have p530 : 0 ≤ (x20_2 : Int) := oD_q (by assumption)
     have q530 : x20_2 < (l1.length : Int) := oD_q (by assumption)
     obtain ⟨ad530, e530, hx530_0, hx530_1, hx530_2, hx530_3, hx530_4, hx530_5⟩ := at_T27 HR1.out x20_2 p530 q530
     cases e530
     replace hx530_0 := cel HB.out hx530_0
     replace hx530_1 := cel HB.out hx530_1
     replace hx530_2 := cel HB.out hx530_2
     replace hx530_3 := cel HB.out hx530_3
     replace hx530_4 := cel HB.out hx530_4
     replace hx530_5 := cel HB.out hx530_5
     replace p530 := eq_true p530
     replace q530 := eq_true q530
     try go_wp2_with (first | ((with_reducible refine gD_q (N := 7) rfl ?_); refine bE_q ?hg (N := 7) ?hd (cs := #[.int .i64 0, .int .i64 0, .int .i64 0, .int .i64 0, .int .i64 0, .int .i64 0]) (t := 27) ?hr ?_; (case hd => rfl); (case hg => rfl); (case hr => first | (go_simp; done) | (go_simp; rfl)); intro gb531 hg w21 hbox hb; have n0_ := Ae_q (rO_q (rup HO_5.out) hb); have n1_ := Ae_q (bT_q (bel HB.out) hb); have n2_ := Ae_q (hbox); have n3_ := Ae_q ((by rw [hg]; exact (bZ_q (bel HB.out)) : w.heap.size ≤ gb531)); have n4_ := Ae_q ((by rw [hg]; exact (bZ_q (bel HB.out)) : w.heap.size ≤ gb531)); clear HO_5; clear HB; have HO_5 := n0_; have HB := n1_; have BK531 := n2_; have GW531 := n3_; have GE531 := n4_; clear n0_ n1_ n2_ n3_ n4_; clear hb hbox hg; have hcz22_0 : cI w21 gb531 0 0 := cZ BK531 0 rfl; have hcz22_1 : cI w21 gb531 1 0 := cZ BK531 1 rfl; have hcz22_2 : cI w21 gb531 2 0 := cZ BK531 2 rfl; have hcz22_3 : cI w21 gb531 3 0 := cZ BK531 3 rfl; have hcz22_4 : cI w21 gb531 4 0 := cZ BK531 4 rfl; have hcz22_5 : cI w21 gb531 5 0 := cZ BK531 5 rfl; have hfz22_0 := bF_q BK531.out 0; have hfz22_1 := bF_q BK531.out 1; have hfz22_2 := bF_q BK531.out 2; have hfz22_3 := bF_q BK531.out 3; have hfz22_4 := bF_q BK531.out 4; have hfz22_5 := bF_q BK531.out 5))
     have n0_ : Aside0 (Kd.R kI_q 3 ((((((w21.setCell ⟨gb531, 0, none⟩ (.int .i64 ((rd_T27 l1 x20_2).f0))).setCell ⟨gb531, 1, none⟩ (.int .i64 ((rd_T27 l1 x20_2).f1))).setCell ⟨gb531, 2, none⟩ (.int .i64 ((rd_T27 l1 x20_2).f2))).setCell ⟨gb531, 3, none⟩ (.int .i64 ((rd_T27 l1 x20_2).f3))).setCell ⟨gb531, 4, none⟩ (.int .i64 ((rd_T27 l1 x20_2).f4))).setCell ⟨gb531, 5, none⟩ (.int .i64 ((rd_T27 l1 x20_2).f5))) w.heap.size (fun _ => True) u5 x5_2) := ⟨by (with_reducible repeat (first | apply rA_q | apply rN_q | apply rD_q)); exact rM_q (Kd.R_far (p := ⟨gb531, 5, none⟩) (Kd.R_far (p := ⟨gb531, 4, none⟩) (Kd.R_far (p := ⟨gb531, 3, none⟩) (Kd.R_far (p := ⟨gb531, 2, none⟩) (Kd.R_far (p := ⟨gb531, 1, none⟩) (Kd.R_far (p := ⟨gb531, 0, none⟩) (Kd.R_types HO_5.out BK531.out (by decide)) (fun _ hk => hk.2) (.int .i64 ((rd_T27 l1 x20_2).f0))) (fun _ hk => hk.2) (.int .i64 ((rd_T27 l1 x20_2).f1))) (fun _ hk => hk.2) (.int .i64 ((rd_T27 l1 x20_2).f2))) (fun _ hk => hk.2) (.int .i64 ((rd_T27 l1 x20_2).f3))) (fun _ hk => hk.2) (.int .i64 ((rd_T27 l1 x20_2).f4))) (fun _ hk => hk.2) (.int .i64 ((rd_T27 l1 x20_2).f5))) (fun _ hk => trivial)⟩
     have n1_ : Aside0 (((((((w21.setCell ⟨gb531, 0, none⟩ (.int .i64 ((rd_T27 l1 x20_2).f0))).setCell ⟨gb531, 1, none⟩ (.int .i64 ((rd_T27 l1 x20_2).f1))).setCell ⟨gb531, 2, none⟩ (.int .i64 ((rd_T27 l1 x20_2).f2))).setCell ⟨gb531, 3, none⟩ (.int .i64 ((rd_T27 l1 x20_2).f3))).setCell ⟨gb531, 4, none⟩ (.int .i64 ((rd_T27 l1 x20_2).f4))).setCell ⟨gb531, 5, none⟩ (.int .i64 ((rd_T27 l1 x20_2).f5))).heap[gb531]? = some (.cells #[.int .i64 ((rd_T27 l1 x20_2).f0), .int .i64 ((rd_T27 l1 x20_2).f1), .int .i64 ((rd_T27 l1 x20_2).f2), .int .i64 ((rd_T27 l1 x20_2).f3), .int .i64 ((rd_T27 l1 x20_2).f4), .int .i64 ((rd_T27 l1 x20_2).f5)] 27 (0, 0))) := ⟨by (with_reducible repeat (first | refine bN_q ?_ _ | refine bW_q ?_ | refine bL_q ?_ _)); refine blk_put (cs := #[.int .i64 ((rd_T27 l1 x20_2).f0), .int .i64 ((rd_T27 l1 x20_2).f1), .int .i64 ((rd_T27 l1 x20_2).f2), .int .i64 ((rd_T27 l1 x20_2).f3), .int .i64 ((rd_T27 l1 x20_2).f4), .int .i64 0]) ?_ 5 _ rfl; (with_reducible repeat (first | refine bN_q ?_ _ | refine bW_q ?_ | refine bL_q ?_ _)); refine blk_put (cs := #[.int .i64 ((rd_T27 l1 x20_2).f0), .int .i64 ((rd_T27 l1 x20_2).f1), .int .i64 ((rd_T27 l1 x20_2).f2), .int .i64 ((rd_T27 l1 x20_2).f3), .int .i64 0, .int .i64 0]) ?_ 4 _ rfl; (with_reducible repeat (first | refine bN_q ?_ _ | refine bW_q ?_ | refine bL_q ?_ _)); refine blk_put (cs := #[.int .i64 ((rd_T27 l1 x20_2).f0), .int .i64 ((rd_T27 l1 x20_2).f1), .int .i64 ((rd_T27 l1 x20_2).f2), .int .i64 0, .int .i64 0, .int .i64 0]) ?_ 3 _ rfl; (with_reducible repeat (first | refine bN_q ?_ _ | refine bW_q ?_ | refine bL_q ?_ _)); refine blk_put (cs := #[.int .i64 ((rd_T27 l1 x20_2).f0), .int .i64 ((rd_T27 l1 x20_2).f1), .int .i64 0, .int .i64 0, .int .i64 0, .int .i64 0]) ?_ 2 _ rfl; (with_reducible repeat (first | refine bN_q ?_ _ | refine bW_q ?_ | refine bL_q ?_ _)); refine blk_put (cs := #[.int .i64 ((rd_T27 l1 x20_2).f0), .int .i64 0, .int .i64 0, .int .i64 0, .int .i64 0, .int .i64 0]) ?_ 1 _ rfl; (with_reducible repeat (first | refine bN_q ?_ _ | refine bW_q ?_ | refine bL_q ?_ _)); refine blk_put (cs := #[.int .i64 0, .int .i64 0, .int .i64 0, .int .i64 0, .int .i64 0, .int .i64 0]) ?_ 0 _ rfl; (with_reducible repeat (first | refine bN_q ?_ _ | refine bW_q ?_ | refine bL_q ?_ _)); exact BK531.out⟩
     have n2_ : Aside0 (Below w.heap.size w ((((((w21.setCell ⟨gb531, 0, none⟩ (.int .i64 ((rd_T27 l1 x20_2).f0))).setCell ⟨gb531, 1, none⟩ (.int .i64 ((rd_T27 l1 x20_2).f1))).setCell ⟨gb531, 2, none⟩ (.int .i64 ((rd_T27 l1 x20_2).f2))).setCell ⟨gb531, 3, none⟩ (.int .i64 ((rd_T27 l1 x20_2).f3))).setCell ⟨gb531, 4, none⟩ (.int .i64 ((rd_T27 l1 x20_2).f4))).setCell ⟨gb531, 5, none⟩ (.int .i64 ((rd_T27 l1 x20_2).f5)))) := ⟨by repeat (with_reducible first | exact HB.out | apply bA_q | apply pB_q | apply bD_q | refine bS_q ?_ GE531.out)⟩
     (try clear HO_5)
     (try clear BK531)
     (try clear HB)
     generalize ((((((w21.setCell ⟨gb531, 0, none⟩ (.int .i64 ((rd_T27 l1 x20_2).f0))).setCell ⟨gb531, 1, none⟩ (.int .i64 ((rd_T27 l1 x20_2).f1))).setCell ⟨gb531, 2, none⟩ (.int .i64 ((rd_T27 l1 x20_2).f2))).setCell ⟨gb531, 3, none⟩ (.int .i64 ((rd_T27 l1 x20_2).f3))).setCell ⟨gb531, 4, none⟩ (.int .i64 ((rd_T27 l1 x20_2).f4))).setCell ⟨gb531, 5, none⟩ (.int .i64 ((rd_T27 l1 x20_2).f5))) = w23 at n0_ n1_ n2_ ⊢
     have HO_5 := n0_
     have BK531 := n1_
     have HB := n2_
     clear n0_ n1_ n2_
     have n0_ := Ae_q (rD_q HO_5.out)
     have n1_ := Ae_q (bW_q BK531.out)
     have n2_ := Ae_q (bD_q HB.out)
     clear HO_5
     clear BK531
     clear HB
     have HO_5 := n0_
     have BK531 := n1_
     have HB := n2_
     clear n0_ n1_ n2_
     have q25 : (x20_2 : Int) ≤ ((l1.length : Int) : Int) := oD_q (by assumption)
     obtain ⟨i025, hi025, _, hsz25, _⟩ := info_parts info27
     have hroom25 : l1.length ≤ c1 := HC1.out
     have hC25 : Kd.C k27 _ (some ad530) l1.length l1 := HR1.out
     have hcut25 := cut_to (P := Try.prog) 23 27 .i64 Try.underlying23 hi025 (some ad530) l1.length c1 x20_2 (oD_q (by assumption)) q25 hroom25
     have hr25 := Kd.C_take (m := (x20_2 : Int).toNat) hC25 (by omega)
     have hy25 : y532.length = (x20_2 : Int).toNat := (by rw [Ny532.out, lT_q]; omega)
     rw [← Ny532.out] at hr25
     rw [← hy25] at hcut25
     have HR535 := Ae_q hr25
     have HC535 := Ae_q (show y532.length ≤ c1 from by omega)
     clear hr25 hC25 hroom25 hi025 hsz25
     have KY25 := Ae_q hy25
     clear hy25
     replace q25 := eq_true q25
     refine start_ (n := 6) (S := fun w' => w'.cell? ⟨gb531, 0, none⟩ = some (.int .i64 ((rd_T27 l1 x20_2).f0)) ∧ w'.cell? ⟨gb531, 1, none⟩ = some (.int .i64 ((rd_T27 l1 x20_2).f1)) ∧ w'.cell? ⟨gb531, 2, none⟩ = some (.int .i64 ((rd_T27 l1 x20_2).f2)) ∧ w'.cell? ⟨gb531, 3, none⟩ = some (.int .i64 ((rd_T27 l1 x20_2).f3)) ∧ w'.cell? ⟨gb531, 4, none⟩ = some (.int .i64 ((rd_T27 l1 x20_2).f4)) ∧ w'.cell? ⟨gb531, 5, none⟩ = some (.int .i64 ((rd_T27 l1 x20_2).f5))) (ds := []) #[false, false, false, false, false, false] (by kernel_rfl) rfl rfl ⟨(bC_q BK531.out 0).trans rfl, (bC_q BK531.out 1).trans rfl, (bC_q BK531.out 2).trans rfl, (bC_q BK531.out 3).trans rfl, (bC_q BK531.out 4).trans rfl, (bC_q BK531.out 5).trans rfl⟩ (fun hHeld => ?_)
     generalize w23.drew = w24 at HO_5 BK531 HB HR535 hHeld ⊢
     refine pure_ (i := 0) (N := some 25) (v := ?_) (a' := ?_) #[true, false, false, false, false, false] rfl rfl (by kernel_rfl) (fun _ _ _ h => h) (Or.inl ⟨by rfl, ?_⟩) ?_ ?_
     rotate_left
     ·intro w'
      go_simp
      with_reducible rfl
     rotate_left
     ·simp only [pS_q]
      rfl
     refine pure_ (i := 1) (N := some 26) (v := ?_) (a' := ?_) #[true, true, false, false, false, false] rfl rfl (by kernel_rfl) (fun _ _ _ h => h) (Or.inl ⟨by rfl, ?_⟩) ?_ ?_
     rotate_left
     ·intro w'
      go_simp
      with_reducible rfl
     rotate_left
     ·simp only [pS_q]
      rfl
     refine pure_ (i := 2) (N := some 27) (v := ?_) (a' := ?_) #[true, true, true, false, false, false] rfl rfl (by kernel_rfl) (fun _ _ _ h => h) (Or.inl ⟨by rfl, ?_⟩) ?_ ?_
     rotate_left
     ·intro w'
      go_simp
      with_reducible rfl
     rotate_left
     ·simp only [pS_q]
      rfl
     refine pure_ (i := 3) (N := some 28) (v := ?_) (a' := ?_) #[true, true, true, true, false, false] rfl rfl (by kernel_rfl) (fun _ _ _ h => h) (Or.inl ⟨by rfl, ?_⟩) ?_ ?_
     rotate_left
     ·intro w'
      go_simp
      with_reducible rfl
     rotate_left
     ·simp only [pS_q]
      rfl
     refine take_ (i := 4) (N := some 29) (v := ?_) (a' := ?_) #[true, true, true, true, true, false] rfl rfl (by kernel_rfl) (fun _ _ _ h => h) (Or.inl ⟨by rfl, ?_⟩) hHeld ?_ ?_
     rotate_left
     ·rintro w' ⟨s0, s1, s2, s3, s4, s5⟩
      go_simp
      with_reducible rfl
     rotate_left
     ·simp only [pS_q]
      rfl
     refine one_ (i := 5) (N := some 30) #[true, true, true, true, true, true] rfl rfl (by kernel_rfl) (by decide) (fun K hK => ?_)
     refine goes_ Try.func55 (by kernel_rfl) rfl #[.slice A0 l0.length c0, .slice (some ad530) y532.length c1, .agg #[.int .i64 ((rd_T27 l1 x20_2).f0), .int .i64 ((rd_T27 l1 x20_2).f1), .int .i64 ((rd_T27 l1 x20_2).f2), .int .i64 ((rd_T27 l1 x20_2).f3), .int .i64 ((rd_T27 l1 x20_2).f4), .int .i64 ((rd_T27 l1 x20_2).f5)]] (by rfl) rfl rfl (by (try simp only [lM_q, lC_q, lN_q]); first | done | rfl | (simp only [lD_q, lT_q]; rfl)) ?_
     with_reducible refine (impl_isWrong.calls _ _ l0 _ _ y532 ((rd_T27 l1 x20_2).f0) ((rd_T27 l1 x20_2).f1) ((rd_T27 l1 x20_2).f2) ((rd_T27 l1 x20_2).f3) ((rd_T27 l1 x20_2).f4) ((rd_T27 l1 x20_2).f5) true _ ?side1 ?side2 ?side3 ?side4 A18.out).mono ?_
     (case side1 => exact cup (cB_q HR0.out HB.out))
     (case side2 => exact HC0.out)
     (case side3 => exact cup (cB_q HR535.out HB.out))
     (case side4 => exact HC535.out)
     rintro e w26 ⟨rfl, hb⟩
     refine ⟨_, rfl, ?_⟩
     have n0_ := Ae_q (rO_q (rup HO_5.out) hb)
     have n1_ := Ae_q (bB_q (g := gb531) (o := .cells #[.int .i64 ((rd_T27 l1 x20_2).f0), .int .i64 ((rd_T27 l1 x20_2).f1), .int .i64 ((rd_T27 l1 x20_2).f2), .int .i64 ((rd_T27 l1 x20_2).f3), .int .i64 ((rd_T27 l1 x20_2).f4), .int .i64 ((rd_T27 l1 x20_2).f5)] 27 (0, 0)) (bup BK531.out) hb)
     have n2_ := Ae_q (bT_q (by repeat (with_reducible first | exact HB.out | apply bA_q | apply pB_q | apply bD_q | refine bS_q ?_ GE531.out)) hb)
     clear HO_5
     clear BK531
     clear HB
     have HO_5 := n0_
     have BK531 := n1_
     have HB := n2_
     clear n0_ n1_ n2_
     (try clear hb)
     (try clear hb2)
     (try clear hk)
     (try clear hi)
     refine hK.out _ _ ⟨(bC_q BK531.out 0).trans rfl, (bC_q BK531.out 1).trans rfl, (bC_q BK531.out 2).trans rfl, (bC_q BK531.out 3).trans rfl, (bC_q BK531.out 4).trans rfl, (bC_q BK531.out 5).trans rfl⟩ (fun hHeld => ?_)
     clear hK K
     refine norm_ (a' := ?_) ?_ ?_
     rotate_left
     ·show Act.put _ (some 30) _ = _
      simp only [pS_q]
      rfl
     refine done_ (by kernel_rfl) ?_
     try go_wp2_with (first | ((with_reducible refine gate_builtin (b := .append) (xs := #[.tmp 31, .tmp 33]) rfl ?_); at_builtin; refine Kd.R_append kI_q (w0 := w) w.heap.size rfl (.tmp 31) (.tmp 33) 36 3 (.int .i64 0) 8 rfl Try.underlying36 info3 rfl (by decide) (by omega) u5 x5_2 x20_2 [.int .i64 x20_2] (fun _ => True) (fun _ => False) rfl rfl ?aP (fun _ hk => hk.elim) ?aF ?aO ?aB ?aS ?aL ?_; (case aP => exact rfl); (case aB => exact (by repeat (with_reducible first | exact HB.out | apply bA_q | apply pB_q | apply bD_q | refine bS_q ?_ GE531.out))); (case aF => exact (fun _ _ => trivial)); (case aO => exact (rup HO_5.out)); (case aS => exact (bZ_q (by repeat (with_reducible first | exact HB.out | apply bA_q | apply pB_q | apply bD_q | refine bS_q ?_ GE531.out)))); (case aL => have := LMc20.out; omega); intro v538 w27 ho hb hg hat; rw [← Ny537.out] at ho; have n0_ := Ae_q (bG_q (g := gb531) (o := .cells #[.int .i64 ((rd_T27 l1 x20_2).f0), .int .i64 ((rd_T27 l1 x20_2).f1), .int .i64 ((rd_T27 l1 x20_2).f2), .int .i64 ((rd_T27 l1 x20_2).f3), .int .i64 ((rd_T27 l1 x20_2).f4), .int .i64 ((rd_T27 l1 x20_2).f5)] 27 (0, 0)) (bup BK531.out) hg (Kd.R_ne HO_5.out BK531.out (by decide))); have n1_ := Ae_q (hb); have n2_ := Ae_q (ho); clear BK531; clear HB; clear HO_5; have BK531 := n0_; have HB := n1_; have HO539 := n2_; clear n0_ n1_ n2_; clear ho hb hg hat))
     go_roundg k2
     case measure => have := HJ2.out; have := HK2.out; omega
     case rel => exact ⟨(y537), (wrap64 (x20_2 + 1)), (by first | rfl | (simp; done) | (simp [*]; done)), H', ⟨by have := HJ2.out; have := HK2.out; omega⟩, ⟨rup HO539.out⟩, ⟨by repeat (with_reducible first | exact HB.out | apply bA_q | apply pB_q | apply bD_q | refine bS_q ?_ GE531.out)⟩⟩

def spec_l12Guest.f (a0_0 : Int) (a0_1 : Int) (a0_2 : Int) : Option (Bool) := (spec_l6In.f a0_0 1 99).bind fun t541 => (if t541 = true then ((spec_l6In.f a0_1 1 4).bind fun t542 => (if t542 = true then ((spec_l3Set.f a0_2).bind fun t543 => (some t543)) else (some false))) else (some false))
set_option maxHeartbeats 8000000 in
set_option maxRecDepth 100000 in
theorem spec_l12Guest.calls (a0_0 : Int) (a0_1 : Int) (a0_2 : Int) (r : Bool) (w : World) (h : spec_l12Guest.f a0_0 a0_1 a0_2 = some r) :
    Calls Try.prog 57 #[.agg #[.int .i64 a0_0, .int .i64 a0_1, .int .i64 a0_2]] w fun e w' => e = .returned (.bool r) ∧ Below w.heap.size w w' := by
 have hu50 := Try.underlying50
 have HB := Ae_q (bR_q w.heap.size w)
 have H : ((spec_l6In.f a0_0 1 99).bind fun t541 => (if t541 = true then ((spec_l6In.f a0_1 1 4).bind fun t542 => (if t542 = true then ((spec_l3Set.f a0_2).bind fun t543 => (some t543)) else (some false))) else (some false))) = some r := h
 clear h
 replace H := oB_q.mp H
 obtain ⟨t541, A20, H⟩ := H
 replace H : (if t541 = true then ((spec_l6In.f a0_1 1 4).bind fun t542 => (if t542 = true then ((spec_l3Set.f a0_2).bind fun t543 => (some t543)) else (some false))) else (some false)) = some r := H
 have A2 := Ae_q A20
 clear A20
 by_cases c3 : t541 = true
 rotate_left
 ·replace c3 := fM_q.mpr c3
  subst c3
  have H1 : (some false) = some r := by rw [if_neg (show ¬ (false = true) by decide)] at H; exact H
  clear H
  have H := H1
  clear H1
  obtain rfl := oI_q H
  go_enter Try.func57, Try.ntmps57
  go_wp2_with (first | ((with_reducible refine gD_q (N := 1) rfl ?_); refine bE_q ?hg (N := 1) ?hd (cs := #[.int .i64 a0_0, .int .i64 a0_1, .int .i64 a0_2]) (t := 50) ?hr ?_; (case hd => rfl); (case hg => rfl); (case hr => first | (go_simp; done) | (go_simp; rfl)); intro gb540 hg w11 hbox hb; have n0_ := Ae_q (bT_q (bel HB.out) hb); have n1_ := Ae_q (hbox); have n2_ := Ae_q ((by rw [hg]; exact (bZ_q (bel HB.out)) : w.heap.size ≤ gb540)); have n3_ := Ae_q ((by rw [hg]; exact (bZ_q (bel HB.out)) : w.heap.size ≤ gb540)); clear HB; have HB := n0_; have BK540 := n1_; have GW540 := n2_; have GE540 := n3_; clear n0_ n1_ n2_ n3_; clear hb hbox hg; have hcz12_0 : cI w11 gb540 0 a0_0 := cZ BK540 0 rfl; have hcz12_1 : cI w11 gb540 1 a0_1 := cZ BK540 1 rfl; have hcz12_2 : cI w11 gb540 2 a0_2 := cZ BK540 2 rfl; have hfz12_0 := bF_q BK540.out 0; have hfz12_1 := bF_q BK540.out 1; have hfz12_2 := bF_q BK540.out 2) | ((with_reducible refine gC_q (f := 45) rfl ?_); refine gL_q (some 5) rfl rfl Try.func45 (by kernel_rfl) rfl #[.int .i64 a0_0, .int .i64 1, .int .i64 99] rfl (by (try simp only [lM_q, lC_q, lN_q]); first | done | rfl | (simp only [lD_q, lT_q]; rfl)) ?_; (with_reducible refine (spec_l6In.calls a0_0 1 99 false _ A2.out).mono ?_); rintro e w' ⟨rfl, ⟨nd, rfl⟩⟩; refine ⟨_, rfl, ?_⟩))
  go_ret
  exact ⟨by first | rfl | (simp [eN_q, eS_q] <;> rfl) | (simp [*, eN_q, eS_q] <;> rfl), by repeat (with_reducible first | exact HB.out | apply bA_q | apply pB_q | apply bD_q | refine bS_q ?_ GE540.out)⟩
 subst c3
 have H1 : ((spec_l6In.f a0_1 1 4).bind fun t542 => (if t542 = true then ((spec_l3Set.f a0_2).bind fun t543 => (some t543)) else (some false))) = some r := by rw [if_pos rfl] at H; exact H
 clear H
 have H := H1
 clear H1
 replace H := oB_q.mp H
 obtain ⟨t542, A40, H⟩ := H
 replace H : (if t542 = true then ((spec_l3Set.f a0_2).bind fun t543 => (some t543)) else (some false)) = some r := H
 have A4 := Ae_q A40
 clear A40
 by_cases c5 : t542 = true
 rotate_left
 ·replace c5 := fM_q.mpr c5
  subst c5
  have H1 : (some false) = some r := by rw [if_neg (show ¬ (false = true) by decide)] at H; exact H
  clear H
  have H := H1
  clear H1
  obtain rfl := oI_q H
  go_enter Try.func57, Try.ntmps57
  go_wp2_with (first | ((with_reducible refine gD_q (N := 1) rfl ?_); refine bE_q ?hg (N := 1) ?hd (cs := #[.int .i64 a0_0, .int .i64 a0_1, .int .i64 a0_2]) (t := 50) ?hr ?_; (case hd => rfl); (case hg => rfl); (case hr => first | (go_simp; done) | (go_simp; rfl)); intro gb540 hg w9 hbox hb; have n0_ := Ae_q (bT_q (bel HB.out) hb); have n1_ := Ae_q (hbox); have n2_ := Ae_q ((by rw [hg]; exact (bZ_q (bel HB.out)) : w.heap.size ≤ gb540)); have n3_ := Ae_q ((by rw [hg]; exact (bZ_q (bel HB.out)) : w.heap.size ≤ gb540)); clear HB; have HB := n0_; have BK540 := n1_; have GW540 := n2_; have GE540 := n3_; clear n0_ n1_ n2_ n3_; clear hb hbox hg; have hcz10_0 : cI w9 gb540 0 a0_0 := cZ BK540 0 rfl; have hcz10_1 : cI w9 gb540 1 a0_1 := cZ BK540 1 rfl; have hcz10_2 : cI w9 gb540 2 a0_2 := cZ BK540 2 rfl; have hfz10_0 := bF_q BK540.out 0; have hfz10_1 := bF_q BK540.out 1; have hfz10_2 := bF_q BK540.out 2) | ((with_reducible refine gC_q (f := 45) rfl ?_); refine gL_q (some 5) rfl rfl Try.func45 (by kernel_rfl) rfl #[.int .i64 a0_0, .int .i64 1, .int .i64 99] rfl (by (try simp only [lM_q, lC_q, lN_q]); first | done | rfl | (simp only [lD_q, lT_q]; rfl)) ?_; (with_reducible refine (spec_l6In.calls a0_0 1 99 true _ A2.out).mono ?_); rintro e w' ⟨rfl, ⟨nd, rfl⟩⟩; refine ⟨_, rfl, ?_⟩) | (go_at_call 45; (with_reducible refine (spec_l6In.calls a0_1 1 4 false _ A4.out).mono ?_); rintro e w' ⟨rfl, ⟨nd, rfl⟩⟩))
  go_ret
  exact ⟨by first | rfl | (simp [eN_q, eS_q] <;> rfl) | (simp [*, eN_q, eS_q] <;> rfl), by repeat (with_reducible first | exact HB.out | apply bA_q | apply pB_q | apply bD_q | refine bS_q ?_ GE540.out)⟩
 subst c5
 have H1 : ((spec_l3Set.f a0_2).bind fun t543 => (some t543)) = some r := by rw [if_pos rfl] at H; exact H
 clear H
 have H := H1
 clear H1
 replace H := oB_q.mp H
 obtain ⟨t543, A60, H⟩ := H
 replace H : (some t543) = some r := H
 have A6 := Ae_q A60
 clear A60
 obtain rfl := oI_q H
 go_enter Try.func57, Try.ntmps57
 go_wp2_with (first | ((with_reducible refine gD_q (N := 1) rfl ?_); refine bE_q ?hg (N := 1) ?hd (cs := #[.int .i64 a0_0, .int .i64 a0_1, .int .i64 a0_2]) (t := 50) ?hr ?_; (case hd => rfl); (case hg => rfl); (case hr => first | (go_simp; done) | (go_simp; rfl)); intro gb540 hg w7 hbox hb; have n0_ := Ae_q (bT_q (bel HB.out) hb); have n1_ := Ae_q (hbox); have n2_ := Ae_q ((by rw [hg]; exact (bZ_q (bel HB.out)) : w.heap.size ≤ gb540)); have n3_ := Ae_q ((by rw [hg]; exact (bZ_q (bel HB.out)) : w.heap.size ≤ gb540)); clear HB; have HB := n0_; have BK540 := n1_; have GW540 := n2_; have GE540 := n3_; clear n0_ n1_ n2_ n3_; clear hb hbox hg; have hcz8_0 : cI w7 gb540 0 a0_0 := cZ BK540 0 rfl; have hcz8_1 : cI w7 gb540 1 a0_1 := cZ BK540 1 rfl; have hcz8_2 : cI w7 gb540 2 a0_2 := cZ BK540 2 rfl; have hfz8_0 := bF_q BK540.out 0; have hfz8_1 := bF_q BK540.out 1; have hfz8_2 := bF_q BK540.out 2) | ((with_reducible refine gC_q (f := 45) rfl ?_); refine gL_q (some 5) rfl rfl Try.func45 (by kernel_rfl) rfl #[.int .i64 a0_0, .int .i64 1, .int .i64 99] rfl (by (try simp only [lM_q, lC_q, lN_q]); first | done | rfl | (simp only [lD_q, lT_q]; rfl)) ?_; (with_reducible refine (spec_l6In.calls a0_0 1 99 true _ A2.out).mono ?_); rintro e w' ⟨rfl, ⟨nd, rfl⟩⟩; refine ⟨_, rfl, ?_⟩) | (go_at_call 45; (with_reducible refine (spec_l6In.calls a0_1 1 4 true _ A4.out).mono ?_); rintro e w' ⟨rfl, ⟨nd, rfl⟩⟩) | (go_at_call 46; (with_reducible refine (spec_l3Set.calls a0_2 t543 _ A6.out).mono ?_); rintro e w' ⟨rfl, ⟨nd, rfl⟩⟩))
 go_ret
 exact ⟨by first | rfl | (simp [eN_q, eS_q] <;> rfl) | (simp [*, eN_q, eS_q] <;> rfl), by repeat (with_reducible first | exact HB.out | apply bA_q | apply pB_q | apply bD_q | refine bS_q ?_ GE540.out)⟩

end Go.Proofs.Ytnhenfmegpjigaa.PEv
