import Derived.Test.YtnhenfmegpjigaaVKPEvx0
import Derived.Test.YtnhenfmegpjigaaVKPEvx6
import Derived.Test.YtnhenfmegpjigaaVKPEvx26
import Derived.Test.YtnhenfmegpjigaaVKPEvx28
namespace Go.Proofs.Ytnhenfmegpjigaa.PEv
open Go.RowKit Go.Proofs.YtnhenfmegpjigaaW.PrintWords Go.Proofs.YtnhenfmegpjigaaW.PrintLast Go.Proofs.YtnhenfmegpjigaaW.PrintMore
attribute [local go_sem] max2_int min2_int max_two min_two max_three min_three max_four min_four
set_option linter.unusedVariables false
set_option linter.unusedSimpArgs false

mutual
def spec_WatchWrong.l0 : Nat → List (S50) → List (S27) → List Int → Int → Option (List Int)
 | 0, _, _, _, _ => none
 | k + 1, x0, x1, x5, x6 => if x6 < (x1.length : Int) then ((spec_EventsValid.f k x1).bind fun t577 => (if t577 = true then ((spec_GuestsValid.f k x0).bind fun t578 => (spec_WatchWrong.j1 k x0 x1 x5 x6 t578)) else (spec_WatchWrong.j1 k x0 x1 x5 x6 false))) else (spec_WatchWrong.j1 k x0 x1 x5 x6 false)
def spec_WatchWrong.j1 : Nat → List (S50) → List (S27) → List Int → Int → Bool → Option (List Int)
 | 0, _, _, _, _, _ => none
 | k + 1, x0, x1, x5, x6, x19 => if x19 = true then ((spec_l43Wrong.f k x0 x1 x6).bind fun t579 => (if t579 = true then (if x5.length < 17592186044416 then (spec_WatchWrong.l0 k x0 x1 (x5 ++ [x6]) (wrap64 (x6 + 1))) else (none)) else (spec_WatchWrong.l0 k x0 x1 x5 (wrap64 (x6 + 1))))) else (some x5)
end
def spec_WatchWrong.f (k : Nat) (l0 : List (S50)) (l1 : List (S27)) : Option (List Int) := spec_WatchWrong.l0 k l0 l1 (([] : List Int)) 0
set_option maxHeartbeats 8000000 in
set_option maxRecDepth 100000 in
theorem spec_WatchWrong.calls (k : Nat) (A0 : Option Addr) (c0 : Nat) (l0 : List (S50)) (A1 : Option Addr) (c1 : Nat) (l1 : List (S27)) (r : List Int) (w : World) (hr0 : Kd.C k50 w A0 l0.length l0) (hc0 : l0.length ≤ c0) (hr1 : Kd.C k27 w A1 l1.length l1) (hc1 : l1.length ≤ c1) (h : spec_WatchWrong.f k l0 l1 = some r) :
    Calls Try.prog 35 #[.slice A0 l0.length c0, .slice A1 l1.length c1] w fun e w' => ∃ v0_ : Value, e = .returned (v0_) ∧ Kd.R kI_q 3 w' w.heap.size (fun _ => True) v0_ r ∧ Below w.heap.size w w' := by
 have HR0 := Ae_q hr0
 have HC0 := Ae_q hc0
 clear hr0 hc0
 have HR1 := Ae_q hr1
 have HC1 := Ae_q hc1
 clear hr1 hc1
 have HB := Ae_q (bR_q w.heap.size w)
 have H : (spec_WatchWrong.l0 k l0 l1 (([] : List Int)) 0) = some r := h
 clear h
 obtain ⟨y574, hy574⟩ : ∃ y_ : List Int, y_ = (([] : List Int)) := ⟨_, rfl⟩
 replace H : (spec_WatchWrong.l0 k l0 l1 y574 0) = some r := by first | (rw [hy574]; with_reducible exact H) | (have H2_ := (oS_q _ _).symm.trans H; rw [hy574]; with_reducible exact H2_) | (have H2_ := (oS_q _ _).symm.trans H; with_reducible exact H2_) | with_reducible exact H | (rw [hy574]; exact H) | exact H
 have Ny574 := Ae_q hy574
 clear hy574
 have H' := Ae_q H
 clear H
 go_enter Try.func35, Try.ntmps35
 go_wp2_with (first | ((with_reducible refine gD_q (N := 7) rfl ?_); refine Kd.R_lit kI_q _ 3 ?hg (N := 7) ?hd (xs := ([] : List Int)) (inner := []) (ok := fun _ => True) (okp := fun _ => True) ?hr ?hp (fun _ hk => hk) trivial (bR_q _ _) (nR_q _) (by simp) ?_; (case hd => rfl); (case hg => rfl); (case hr => first | (go_simp; done) | (go_simp; rfl)); (case hp => exact (Reps.none _ _)); intro v575 w3 ho4 hb hg_ hnew_; clear hg_ hnew_; (first | rw [← Ny574.out] at ho4 | (simp only [Int.reduceToNat] at ho4; rw [← Ny574.out] at ho4)); have n0_ := Ae_q (rL_q ho4 (bZ_q (bel HB.out))); have n1_ := Ae_q (bT_q (bel HB.out) hb); clear HB; have HO576 := n0_; have HB := n1_; clear n0_ n1_; clear hb ho4))
 go_loopg [5, 6] k (fun kq v5 v6 w' => ∃ (x5_1 : List Int) (x6_1 : Int), v6 = .int .i64 x6_1 ∧ Aside0 (spec_WatchWrong.l0 kq l0 l1 x5_1 x6_1 = some r) ∧ Aside0 (kq ≤ k) ∧ Aside0 (Kd.R kI_q 3 w' w.heap.size (fun _ => True) v5 x5_1) ∧ Aside0 (Below w.heap.size w w'))
 case atStart => exact ⟨(y574), (0), (by first | rfl | (simp; done) | (simp [*]; done)), H', ⟨nR_q _⟩, ⟨rup HO576.out⟩, ⟨bel HB.out⟩⟩
 case round =>
  clear H'
  try clear c1
  try clear p2
  try clear c3
  obtain ⟨x5_1, x6_1, rfl, HA, HK1, HO_5, HB⟩ := hrel
  cases gk with
  | zero => exact absurd HA.out (by simp [spec_WatchWrong.l0])
  | succ k1 =>
   have H := HA.out
   clear HA
   simp only [spec_WatchWrong.l0] at H
   have HC5 := Ae_q H
   clear H
   go_upto_region 3 with (fail)
   go_cut [19] (fun v19 wc => ∃ (kq : Nat) (x19_4 : Bool), v19 = .bool x19_4 ∧ Aside0 (spec_WatchWrong.j1 kq l0 l1 x5_1 x6_1 x19_4 = some r) ∧ Aside0 (kq ≤ k1) ∧ Aside0 (Kd.R kI_q 3 wc w.heap.size (fun _ => True) u5 x5_1) ∧ Aside0 (Below w.heap.size w wc))
   case first =>
    have H := HC5.out
    clear HC5
    by_cases c6 : x6_1 < (l1.length : Int)
    rotate_left
    ·rw [if_neg c6] at H
     have c6b0 : decide (x6_1 < (l1.length : Int)) = false := dF_q c6
     clear c6
     (first | rw [c6b0] | (simp only [i64_w, i32_w]; rw [c6b0]) | skip)
     have H' := Ae_q H
     clear H
     go_wp2
     go_meet
     case rel => exact ⟨_, (false), (by first | rfl | (simp; done) | (simp [*]; done)), H', ⟨by have := HK1.out; first | omega | exact nR_q _⟩, ⟨rup HO_5.out⟩, ⟨bel HB.out⟩⟩
    rw [if_pos c6] at H
    have c6b0 : decide (x6_1 < (l1.length : Int)) = true := dT_q c6
    clear c6
    (first | rw [c6b0] | (simp only [i64_w, i32_w]; rw [c6b0]) | skip)
    replace H := oB_q.mp H
    obtain ⟨t577, A70, H⟩ := H
    replace H : (if t577 = true then ((spec_GuestsValid.f k1 l0).bind fun t578 => (spec_WatchWrong.j1 k1 l0 l1 x5_1 x6_1 t578)) else (spec_WatchWrong.j1 k1 l0 l1 x5_1 x6_1 false)) = some r := H
    have A7 := Ae_q A70
    clear A70
    by_cases c8 : t577 = true
    rotate_left
    ·replace c8 := fM_q.mpr c8
     subst c8
     have H1 : (spec_WatchWrong.j1 k1 l0 l1 x5_1 x6_1 false) = some r := by rw [if_neg (show ¬ (false = true) by decide)] at H; exact H
     clear H
     have H := H1
     clear H1
     have H' := Ae_q H
     clear H
     go_wp2_with (first | (go_at_call 17; (with_reducible refine (spec_EventsValid.calls k1 _ _ l1 false _ ?side1 ?side2 A7.out).mono ?_); (case side1 => exact cup (cB_q HR1.out HB.out)); (case side2 => exact HC1.out); rintro e w12 ⟨rfl, hb⟩; have n0_ := Ae_q (rO_q (rup HO_5.out) hb); have n1_ := Ae_q (bT_q (bel HB.out) hb); clear HO_5; clear HB; have HO_5 := n0_; have HB := n1_; clear n0_ n1_; (try clear hb); (try clear hb2); (try clear hk); (try clear hi)))
     go_meet
     case rel => exact ⟨_, (false), (by first | rfl | (simp; done) | (simp [*]; done)), H', ⟨by have := HK1.out; first | omega | exact nR_q _⟩, ⟨rup HO_5.out⟩, ⟨bel HB.out⟩⟩
    subst c8
    have H1 : ((spec_GuestsValid.f k1 l0).bind fun t578 => (spec_WatchWrong.j1 k1 l0 l1 x5_1 x6_1 t578)) = some r := by rw [if_pos rfl] at H; exact H
    clear H
    have H := H1
    clear H1
    replace H := oB_q.mp H
    obtain ⟨t578, A90, H⟩ := H
    replace H : (spec_WatchWrong.j1 k1 l0 l1 x5_1 x6_1 t578) = some r := H
    have A9 := Ae_q A90
    clear A90
    have H' := Ae_q H
    clear H
    go_wp2_with (first | (go_at_call 17; (with_reducible refine (spec_EventsValid.calls k1 _ _ l1 true _ ?side1 ?side2 A7.out).mono ?_); (case side1 => exact cup (cB_q HR1.out HB.out)); (case side2 => exact HC1.out); rintro e w10 ⟨rfl, hb⟩; have n0_ := Ae_q (rO_q (rup HO_5.out) hb); have n1_ := Ae_q (bT_q (bel HB.out) hb); clear HO_5; clear HB; have HO_5 := n0_; have HB := n1_; clear n0_ n1_; (try clear hb); (try clear hb2); (try clear hk); (try clear hi)) | (go_at_call 36; (with_reducible refine (spec_GuestsValid.calls k1 _ _ l0 t578 _ ?side1 ?side2 A9.out).mono ?_); (case side1 => exact cup (cB_q HR0.out HB.out)); (case side2 => exact HC0.out); rintro e w11 ⟨rfl, hb⟩; have n0_ := Ae_q (rO_q (rup HO_5.out) hb); have n1_ := Ae_q (bT_q (bel HB.out) hb); clear HO_5; clear HB; have HO_5 := n0_; have HB := n1_; clear n0_ n1_; (try clear hb); (try clear hb2); (try clear hk); (try clear hi)))
    go_meet
    case rel => exact ⟨_, (t578), (by first | rfl | (simp; done) | (simp [*]; done)), H', ⟨by have := HK1.out; first | omega | exact nR_q _⟩, ⟨rup HO_5.out⟩, ⟨bel HB.out⟩⟩
   case rest =>
    clear HC5
    try clear c1
    try clear p2
    try clear c3
    try clear c6
    try clear c6b0
    try clear c8
    try clear p2
    obtain ⟨kq, x19_4, rfl, HA, HJ4, HO_5, HB⟩ := hcut
    cases kq with
    | zero => exact absurd HA.out (by simp [spec_WatchWrong.j1])
    | succ kj4 =>
     have H := HA.out
     clear HA
     simp only [spec_WatchWrong.j1] at H
     by_cases c13 : x19_4 = true
     rotate_left
     ·replace c13 := fM_q.mpr c13
      subst c13
      have H1 : (some x5_1) = some r := by rw [if_neg (show ¬ (false = true) by decide)] at H; exact H
      clear H
      have H := H1
      clear H1
      obtain rfl := oI_q H
      go_wp2
      go_ret
      exact ⟨_, by first | rfl | (simp [eN_q, eS_q] <;> rfl) | (simp [*, eN_q, eS_q] <;> rfl), rup HO_5.out, bel HB.out⟩
     subst c13
     have H1 : ((spec_l43Wrong.f kj4 l0 l1 x6_1).bind fun t579 => (if t579 = true then (if x5_1.length < 17592186044416 then (spec_WatchWrong.l0 kj4 l0 l1 (x5_1 ++ [x6_1]) (wrap64 (x6_1 + 1))) else (none)) else (spec_WatchWrong.l0 kj4 l0 l1 x5_1 (wrap64 (x6_1 + 1))))) = some r := by rw [if_pos rfl] at H; exact H
     clear H
     have H := H1
     clear H1
     replace H := oB_q.mp H
     obtain ⟨t579, A140, H⟩ := H
     replace H : (if t579 = true then (if x5_1.length < 17592186044416 then (spec_WatchWrong.l0 kj4 l0 l1 (x5_1 ++ [x6_1]) (wrap64 (x6_1 + 1))) else (none)) else (spec_WatchWrong.l0 kj4 l0 l1 x5_1 (wrap64 (x6_1 + 1)))) = some r := H
     have A14 := Ae_q A140
     clear A140
     by_cases c15 : t579 = true
     rotate_left
     ·replace c15 := fM_q.mpr c15
      subst c15
      have H1 : (spec_WatchWrong.l0 kj4 l0 l1 x5_1 (wrap64 (x6_1 + 1))) = some r := by rw [if_neg (show ¬ (false = true) by decide)] at H; exact H
      clear H
      have H := H1
      clear H1
      have H' := Ae_q H
      clear H
      go_wp2_with (first | ((with_reducible refine gC_q (f := 56) rfl ?_); refine gL_q (some 25) rfl rfl Try.func56 (by kernel_rfl) rfl #[.slice A0 l0.length c0, .slice A1 l1.length c1, .int .i64 x6_1] rfl (by (try simp only [lM_q, lC_q, lN_q]); first | done | rfl | (simp only [lD_q, lT_q]; rfl)) ?_; (with_reducible refine (spec_l43Wrong.calls kj4 _ _ l0 _ _ l1 x6_1 false _ ?side1 ?side2 ?side3 ?side4 A14.out).mono ?_); (case side1 => exact cup (cB_q HR0.out HB.out)); (case side2 => exact HC0.out); (case side3 => exact cup (cB_q HR1.out HB.out)); (case side4 => exact HC1.out); rintro e w19 ⟨rfl, hb⟩; refine ⟨_, rfl, ?_⟩; have n0_ := Ae_q (rO_q (rup HO_5.out) hb); have n1_ := Ae_q (bT_q (bel HB.out) hb); clear HO_5; clear HB; have HO_5 := n0_; have HB := n1_; clear n0_ n1_; (try clear hb); (try clear hb2); (try clear hk); (try clear hi)))
      go_roundg kj4
      case measure => have := HK1.out; have := HJ4.out; omega
      case rel => exact ⟨(x5_1), (wrap64 (x6_1 + 1)), (by first | rfl | (simp; done) | (simp [*]; done)), H', ⟨by have := HK1.out; have := HJ4.out; omega⟩, ⟨rup HO_5.out⟩, ⟨bel HB.out⟩⟩
     subst c15
     have H1 : (if x5_1.length < 17592186044416 then (spec_WatchWrong.l0 kj4 l0 l1 (x5_1 ++ [x6_1]) (wrap64 (x6_1 + 1))) else (none)) = some r := by rw [if_pos rfl] at H; exact H
     clear H
     have H := H1
     clear H1
     by_cases c16 : x5_1.length < 17592186044416
     rotate_left
     ·rw [if_neg c16] at H
      exact absurd H (by simp)
     rw [if_pos c16] at H
     have LMc16 := Ae_q c16
     clear c16
     obtain ⟨y580, hy580⟩ : ∃ y_ : List Int, y_ = (x5_1 ++ [x6_1]) := ⟨_, rfl⟩
     replace H : (spec_WatchWrong.l0 kj4 l0 l1 y580 (wrap64 (x6_1 + 1))) = some r := by first | (rw [hy580]; with_reducible exact H) | (have H2_ := (oS_q _ _).symm.trans H; rw [hy580]; with_reducible exact H2_) | (have H2_ := (oS_q _ _).symm.trans H; with_reducible exact H2_) | with_reducible exact H | (rw [hy580]; exact H) | exact H
     have Ny580 := Ae_q hy580
     clear hy580
     have H' := Ae_q H
     clear H
     go_wp2_with (first | ((with_reducible refine gC_q (f := 56) rfl ?_); refine gL_q (some 25) rfl rfl Try.func56 (by kernel_rfl) rfl #[.slice A0 l0.length c0, .slice A1 l1.length c1, .int .i64 x6_1] rfl (by (try simp only [lM_q, lC_q, lN_q]); first | done | rfl | (simp only [lD_q, lT_q]; rfl)) ?_; (with_reducible refine (spec_l43Wrong.calls kj4 _ _ l0 _ _ l1 x6_1 true _ ?side1 ?side2 ?side3 ?side4 A14.out).mono ?_); (case side1 => exact cup (cB_q HR0.out HB.out)); (case side2 => exact HC0.out); (case side3 => exact cup (cB_q HR1.out HB.out)); (case side4 => exact HC1.out); rintro e w17 ⟨rfl, hb⟩; refine ⟨_, rfl, ?_⟩; have n0_ := Ae_q (rO_q (rup HO_5.out) hb); have n1_ := Ae_q (bT_q (bel HB.out) hb); clear HO_5; clear HB; have HO_5 := n0_; have HB := n1_; clear n0_ n1_; (try clear hb); (try clear hb2); (try clear hk); (try clear hi)) | ((with_reducible refine gate_builtin (b := .append) (xs := #[.tmp 26, .tmp 28]) rfl ?_); at_builtin; refine Kd.R_append kI_q (w0 := w) w.heap.size rfl (.tmp 26) (.tmp 28) 36 3 (.int .i64 0) 8 rfl Try.underlying36 info3 rfl (by decide) (by omega) u5 x5_1 x6_1 [.int .i64 x6_1] (fun _ => True) (fun _ => False) rfl rfl ?aP (fun _ hk => hk.elim) ?aF ?aO ?aB ?aS ?aL ?_; (case aP => exact rfl); (case aB => exact (bel HB.out)); (case aF => exact (fun _ _ => trivial)); (case aO => exact (rup HO_5.out)); (case aS => exact (bZ_q (bel HB.out))); (case aL => have := LMc16.out; omega); intro v581 w18 ho hb hg hat; rw [← Ny580.out] at ho; have n0_ := Ae_q (hb); have n1_ := Ae_q (ho); clear HB; clear HO_5; have HB := n0_; have HO582 := n1_; clear n0_ n1_; clear ho hb hg hat))
     go_roundg kj4
     case measure => have := HK1.out; have := HJ4.out; omega
     case rel => exact ⟨(y580), (wrap64 (x6_1 + 1)), (by first | rfl | (simp; done) | (simp [*]; done)), H', ⟨by have := HK1.out; have := HJ4.out; omega⟩, ⟨rup HO582.out⟩, ⟨bel HB.out⟩⟩

end Go.Proofs.Ytnhenfmegpjigaa.PEv
