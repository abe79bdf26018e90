import Derived.Test.YtfnpiacmlahegaaVDPRpx0
import Derived.Test.YtfnpiacmlahegaaVDPRpx1
import Derived.Test.YtfnpiacmlahegaaVDPRpx11
import Derived.Test.YtfnpiacmlahegaaVDPRpx19
import Derived.Test.YtfnpiacmlahegaaVDPRpx20
import Derived.Test.YtfnpiacmlahegaaVDPRpx21
namespace Go.Proofs.Ytfnpiacmlahegaa.PRp
open Go.RowKit Go.Proofs.YtfnpiacmlahegaaW.PrintWords Go.Proofs.YtfnpiacmlahegaaW.PrintLast Go.Proofs.YtfnpiacmlahegaaW.PrintMore
attribute [local go_sem] max2_int min2_int max_two min_two max_three min_three max_four min_four
set_option linter.unusedVariables false
set_option linter.unusedSimpArgs false

mutual
def spec_StepsEarly.l0 : Nat → List (S63) → List Int → Int → Option (List Int)
 | 0, _, _, _ => none
 | k + 1, x0, x3, x4 => if x4 < (x0.length : Int) then ((spec_StepsValid.f k x0).bind fun t539 => (spec_StepsEarly.j1 k x0 x3 x4 t539)) else (spec_StepsEarly.j1 k x0 x3 x4 false)
def spec_StepsEarly.j1 : Nat → List (S63) → List Int → Int → Bool → Option (List Int)
 | 0, _, _, _, _ => none
 | k + 1, x0, x3, x4, x16 => if x16 = true then (spec_StepsEarly.l1 k x0 x3 x4 0 0) else (some x3)
def spec_StepsEarly.l1 : Nat → List (S63) → List Int → Int → Int → Int → Option (List Int)
 | 0, _, _, _, _, _ => none
 | k + 1, x0, x3, x4, x5, x6 => if 0 ≤ x4 then (if x4 < (x0.length : Int) then (if x6 < (((rd_T63 x0 x4).f3).length : Int) then (if 0 ≤ x6 then (if 0 ≤ (rd ((rd_T63 x0 x4).f3) x6) then (if (rd ((rd_T63 x0 x4).f3) x6) < (x3.length : Int) then (if (rd ((rd_T63 x0 x4).f3) x6) < (x0.length : Int) then (spec_StepsEarly.l1 k x0 x3 x4 (mx x5 (wrap64 ((rd x3 (rd ((rd_T63 x0 x4).f3) x6)) + ((rd_T63 x0 (rd ((rd_T63 x0 x4).f3) x6)).f0)))) (wrap64 (x6 + 1))) else (none)) else (none)) else (none)) else (none)) else (if x3.length < 17592186044416 then (spec_StepsEarly.l0 k x0 (x3 ++ [x5]) (wrap64 (x4 + 1))) else (none))) else (none)) else (none)
end
def spec_StepsEarly.f (k : Nat) (l0 : List (S63)) : Option (List Int) := spec_StepsEarly.l0 k l0 (([] : List Int)) 0
set_option maxHeartbeats 8000000 in
set_option maxRecDepth 100000 in
theorem spec_StepsEarly.calls (k : Nat) (A0 : Option Addr) (c0 : Nat) (l0 : List (S63)) (r : List Int) (w : World) (hr0 : Kd.C k63 w A0 l0.length l0) (hc0 : l0.length ≤ c0) (h : spec_StepsEarly.f k l0 = some r) :
    Calls Try.prog 69 #[.slice A0 l0.length c0] w fun e w' => ∃ v0_ : Value, e = .returned (v0_) ∧ Kd.R kI_q 3 w' w.heap.size (fun _ => True) v0_ r ∧ Below w.heap.size w w' := by
 have HR0 := Ae_q hr0
 have HC0 := Ae_q hc0
 clear hr0 hc0
 have HB := Ae_q (bR_q w.heap.size w)
 have H : (spec_StepsEarly.l0 k l0 (([] : List Int)) 0) = some r := h
 clear h
 obtain ⟨y536, hy536⟩ : ∃ y_ : List Int, y_ = (([] : List Int)) := ⟨_, rfl⟩
 replace H : (spec_StepsEarly.l0 k l0 y536 0) = some r := by first | (rw [hy536]; with_reducible exact H) | (have H2_ := (oS_q _ _).symm.trans H; rw [hy536]; with_reducible exact H2_) | (have H2_ := (oS_q _ _).symm.trans H; with_reducible exact H2_) | with_reducible exact H | (rw [hy536]; exact H) | exact H
 have Ny536 := Ae_q hy536
 clear hy536
 have H' := Ae_q H
 clear H
 go_enter Try.func69, Try.ntmps69
 go_wp2_with (first | ((with_reducible refine gD_q (N := 8) rfl ?_); refine Kd.R_lit kI_q _ 3 ?hg (N := 8) ?hd (xs := ([] : List Int)) (inner := []) (ok := fun _ => True) (okp := fun _ => True) ?hr ?hp (fun _ hk => hk) trivial (bR_q _ _) (nR_q _) (by simp) ?_; (case hd => rfl); (case hg => rfl); (case hr => exact m5_q); (case hp => exact m104_q); intro v537 w2 ho3 hb hg_ hnew_; clear hg_ hnew_; (first | rw [← Ny536.out] at ho3 | (simp only [Int.reduceToNat] at ho3; rw [← Ny536.out] at ho3)); have HO538 := Ae_q (rL_q ho3 (bZ_q (bel HB.out))); replace HB := Ae_q (bT_q (bel HB.out) hb); clear hb ho3))
 repeat (go_quiet (first | ((with_reducible refine gD_q (N := 8) rfl ?_); refine Kd.R_lit kI_q _ 3 ?hg (N := 8) ?hd (xs := ([] : List Int)) (inner := []) (ok := fun _ => True) (okp := fun _ => True) ?hr ?hp (fun _ hk => hk) trivial (bR_q _ _) (nR_q _) (by simp) ?_; (case hd => rfl); (case hg => rfl); (case hr => exact m5_q); (case hp => exact m104_q); intro v537 w2 ho3 hb hg_ hnew_; clear hg_ hnew_; (first | rw [← Ny536.out] at ho3 | (simp only [Int.reduceToNat] at ho3; rw [← Ny536.out] at ho3)); have HO538 := Ae_q (rL_q ho3 (bZ_q (bel HB.out))); replace HB := Ae_q (bT_q (bel HB.out) hb); clear hb ho3)); try go_wp2_with (first | ((with_reducible refine gD_q (N := 8) rfl ?_); refine Kd.R_lit kI_q _ 3 ?hg (N := 8) ?hd (xs := ([] : List Int)) (inner := []) (ok := fun _ => True) (okp := fun _ => True) ?hr ?hp (fun _ hk => hk) trivial (bR_q _ _) (nR_q _) (by simp) ?_; (case hd => rfl); (case hg => rfl); (case hr => exact m5_q); (case hp => exact m104_q); intro v537 w2 ho3 hb hg_ hnew_; clear hg_ hnew_; (first | rw [← Ny536.out] at ho3 | (simp only [Int.reduceToNat] at ho3; rw [← Ny536.out] at ho3)); have HO538 := Ae_q (rL_q ho3 (bZ_q (bel HB.out))); replace HB := Ae_q (bT_q (bel HB.out) hb); clear hb ho3)))
 go_loopg [3, 4] k (fun kq v3 v4 w' => ∃ (x3_1 : List Int) (x4_1 : Int), v4 = .int .i64 x4_1 ∧ Aside0 (spec_StepsEarly.l0 kq l0 x3_1 x4_1 = some r) ∧ Aside0 (kq ≤ k) ∧ Aside0 (Kd.R kI_q 3 w' w.heap.size (fun _ => True) v3 x3_1) ∧ Aside0 (Below w.heap.size w w'))
 case atStart => exact ⟨(y536), (0), m7_q, H', ⟨nR_q _⟩, ⟨rup HO538.out⟩, ⟨bel HB.out⟩⟩
 case round =>
  clear H'
  try clear p2
  obtain ⟨x3_1, x4_1, rfl, HA, HK1, HO_3, HB⟩ := hrel
  cases gk with
  | zero => exact absurd HA.out (by simp [spec_StepsEarly.l0])
  | succ k1 =>
   have H := HA.out
   clear HA
   simp only [spec_StepsEarly.l0] at H
   have HC4 := Ae_q H
   clear H
   go_upto_region 3 with (fail)
   repeat (go_quiet (fail); go_upto_region 3 with (fail))
   go_cut [16] (fun v16 wc => ∃ (kq : Nat) (x16_3 : Bool), v16 = .bool x16_3 ∧ Aside0 (spec_StepsEarly.j1 kq l0 x3_1 x4_1 x16_3 = some r) ∧ Aside0 (kq ≤ k1) ∧ Aside0 (Kd.R kI_q 3 wc w.heap.size (fun _ => True) u3 x3_1) ∧ Aside0 (Below w.heap.size w wc))
   case first =>
    have H := HC4.out
    clear HC4
    by_cases c5 : x4_1 < (l0.length : Int)
    rotate_left
    ·rw [if_neg c5] at H
     have c5b0 : decide (x4_1 < (l0.length : Int)) = false := dF_q c5
     clear c5
     (first | rw [c5b0] | (simp only [i64_w, i32_w]; rw [c5b0]) | skip)
     have H' := Ae_q H
     clear H
     go_wp2
     repeat (go_quiet (fail); try go_wp2)
     go_meet
     case rel => exact ⟨_, (false), m7_q, H', ⟨m110_q⟩, ⟨rup HO_3.out⟩, ⟨bel HB.out⟩⟩
    rw [if_pos c5] at H
    have c5b0 : decide (x4_1 < (l0.length : Int)) = true := dT_q c5
    clear c5
    (first | rw [c5b0] | (simp only [i64_w, i32_w]; rw [c5b0]) | skip)
    replace H := oB_q.mp H
    obtain ⟨t539, A60, H⟩ := H
    replace H : (spec_StepsEarly.j1 k1 l0 x3_1 x4_1 t539) = some r := H
    have A6 := Ae_q A60
    clear A60
    have H' := Ae_q H
    clear H
    go_wp2_with (first | (go_at_call 44; (with_reducible refine (spec_StepsValid.calls k1 _ _ l0 t539 _ ?side1 ?side2 A6.out).mono ?_); (case side1 => exact m42_q); (case side2 => exact m97_q); rintro e w' ⟨rfl, hb⟩; replace HO_3 := Ae_q (rO_q (rup HO_3.out) hb); replace HB := Ae_q (bT_q (bel HB.out) hb); (try clear hb); (try clear hb2); (try clear hk); (try clear hi)))
    repeat (go_quiet (first | (go_at_call 44; (with_reducible refine (spec_StepsValid.calls k1 _ _ l0 t539 _ ?side1 ?side2 A6.out).mono ?_); (case side1 => exact m42_q); (case side2 => exact m97_q); rintro e w' ⟨rfl, hb⟩; replace HO_3 := Ae_q (rO_q (rup HO_3.out) hb); replace HB := Ae_q (bT_q (bel HB.out) hb); (try clear hb); (try clear hb2); (try clear hk); (try clear hi))); try go_wp2_with (first | (go_at_call 44; (with_reducible refine (spec_StepsValid.calls k1 _ _ l0 t539 _ ?side1 ?side2 A6.out).mono ?_); (case side1 => exact m42_q); (case side2 => exact m97_q); rintro e w' ⟨rfl, hb⟩; replace HO_3 := Ae_q (rO_q (rup HO_3.out) hb); replace HB := Ae_q (bT_q (bel HB.out) hb); (try clear hb); (try clear hb2); (try clear hk); (try clear hi))))
    go_meet
    case rel => exact ⟨_, (t539), m7_q, H', ⟨m110_q⟩, ⟨rup HO_3.out⟩, ⟨bel HB.out⟩⟩
   case rest =>
    clear HC4
    try clear p2
    try clear c5
    try clear c5b0
    try clear c6
    try clear p2
    obtain ⟨kq, x16_3, rfl, HA, HJ3, HO_3, HB⟩ := hcut
    cases kq with
    | zero => exact absurd HA.out (by simp [spec_StepsEarly.j1])
    | succ kj3 =>
     have H := HA.out
     clear HA
     simp only [spec_StepsEarly.j1] at H
     by_cases c8 : x16_3 = true
     rotate_left
     ·replace c8 := fM_q.mpr c8
      subst c8
      have H1 : (some x3_1) = some r := by rw [if_neg (show ¬ (false = true) by decide)] at H; exact H
      clear H
      have H := H1
      clear H1
      obtain rfl := oI_q H
      go_wp2
      repeat (go_quiet (fail); try go_wp2)
      go_ret
      exact ⟨_, m6_q, rup HO_3.out, bel HB.out⟩
     subst c8
     have H1 : (spec_StepsEarly.l1 kj3 l0 x3_1 x4_1 0 0) = some r := by rw [if_pos rfl] at H; exact H
     clear H
     have H := H1
     clear H1
     have H' := Ae_q H
     clear H
     go_wp2
     repeat (go_quiet (fail); try go_wp2)
     go_loopg [5, 6] kj3 (fun kq v5 v6 w' => ∃ (x5_3 : Int) (x6_3 : Int), v5 = .int .i64 x5_3 ∧ v6 = .int .i64 x6_3 ∧ Aside0 (spec_StepsEarly.l1 kq l0 x3_1 x4_1 x5_3 x6_3 = some r) ∧ Aside0 (kq ≤ kj3) ∧ Aside0 (Kd.R kI_q 3 w' w.heap.size (fun _ => True) u3 x3_1) ∧ Aside0 (Below w.heap.size w w'))
     case atStart => exact ⟨(0), (0), m7_q, m7_q, H', ⟨nR_q _⟩, ⟨rup HO_3.out⟩, ⟨bel HB.out⟩⟩
     case round =>
      clear H'
      try clear p2
      try clear c5
      try clear c5b0
      try clear c6
      try clear c8
      try clear p2
      obtain ⟨x5_3, x6_3, rfl, rfl, HA, HK3, HO_3, HB⟩ := hrel
      cases gk with
      | zero => exact absurd HA.out (by simp [spec_StepsEarly.l1])
      | succ k3 =>
       have H := HA.out
       clear HA
       simp only [spec_StepsEarly.l1] at H
       by_cases c9 : 0 ≤ x4_1
       rotate_left
       ·rw [if_neg c9] at H
        exact absurd H (by simp)
       rw [if_pos c9] at H
       have c9b0 : decide (0 ≤ x4_1) = true := dT_q c9
       clear c9
       by_cases c10 : x4_1 < (l0.length : Int)
       rotate_left
       ·rw [if_neg c10] at H
        exact absurd H (by simp)
       rw [if_pos c10] at H
       have c10b0 : decide (x4_1 < (l0.length : Int)) = true := dT_q c10
       clear c10
       by_cases c11 : x6_3 < (((rd_T63 l0 x4_1).f3).length : Int)
       rotate_left
       ·rw [if_neg c11] at H
        have c11b0 : decide (x6_3 < (((rd_T63 l0 x4_1).f3).length : Int)) = false := dF_q c11
        clear c11
        by_cases c18 : x3_1.length < 17592186044416
        rotate_left
        ·rw [if_neg c18] at H
         exact absurd H (by simp)
        rw [if_pos c18] at H
        have LMc18 := Ae_q c18
        clear c18
        obtain ⟨y545, hy545⟩ : ∃ y_ : List Int, y_ = (x3_1 ++ [x5_3]) := ⟨_, rfl⟩
        replace H : (spec_StepsEarly.l0 k3 l0 y545 (wrap64 (x4_1 + 1))) = some r := by first | (rw [hy545]; with_reducible exact H) | (have H2_ := (oS_q _ _).symm.trans H; rw [hy545]; with_reducible exact H2_) | (have H2_ := (oS_q _ _).symm.trans H; with_reducible exact H2_) | with_reducible exact H | (rw [hy545]; exact H) | exact H
        have Ny545 := Ae_q hy545
        clear hy545
        have H' := Ae_q H
        clear H
        have p540 : 0 ≤ (x4_1 : Int) := oD_q (by assumption)
        have q540 : x4_1 < (l0.length : Int) := oD_q (by assumption)
        obtain ⟨ad540, A540_3, c540_3, e540, hx540_0, hx540_1, hx540_2, hx540_3, hl540_3, hi540_3⟩ := at_T63 HR0.out x4_1 p540 q540
        cases e540
        replace hx540_0 := cel HB.out hx540_0
        replace hx540_1 := cel HB.out hx540_1
        replace hx540_2 := cel HB.out hx540_2
        replace hx540_3 := cel HB.out hx540_3
        have HR540_3 := Ae_q hi540_3
        have HC540_3 := Ae_q hl540_3
        clear hi540_3 hl540_3
        replace p540 := eq_true p540
        replace q540 := eq_true q540
        go_wp2_with (first | ((with_reducible refine gate_builtin (b := .append) (xs := #[.tmp 49, .tmp 51]) rfl ?_); at_builtin; refine Kd.R_append kI_q (w0 := w) w.heap.size rfl (.tmp 49) (.tmp 51) 23 3 (.int .i64 0) 8 rfl Try.underlying23 info3 rfl (by decide) (by omega) u3 x3_1 x5_3 [.int .i64 x5_3] (fun _ => True) (fun _ => False) rfl rfl ?aP (fun _ hk => hk.elim) ?aF ?aO ?aB ?aS ?aL ?_; (case aP => exact rfl); (case aB => exact (bel HB.out)); (case aF => exact m155_q); (case aO => exact (rup HO_3.out)); (case aS => exact (bZ_q (bel HB.out))); (case aL => have := LMc18.out; omega); intro v546 w19 ho hb hg hat; rw [← Ny545.out] at ho; replace HB := Ae_q (hb); have HO547 := Ae_q (ho); clear HO_3; clear ho hb hg hat))
        repeat (go_quiet (first | ((with_reducible refine gate_builtin (b := .append) (xs := #[.tmp 49, .tmp 51]) rfl ?_); at_builtin; refine Kd.R_append kI_q (w0 := w) w.heap.size rfl (.tmp 49) (.tmp 51) 23 3 (.int .i64 0) 8 rfl Try.underlying23 info3 rfl (by decide) (by omega) u3 x3_1 x5_3 [.int .i64 x5_3] (fun _ => True) (fun _ => False) rfl rfl ?aP (fun _ hk => hk.elim) ?aF ?aO ?aB ?aS ?aL ?_; (case aP => exact rfl); (case aB => exact (bel HB.out)); (case aF => exact m155_q); (case aO => exact (rup HO_3.out)); (case aS => exact (bZ_q (bel HB.out))); (case aL => have := LMc18.out; omega); intro v546 w19 ho hb hg hat; rw [← Ny545.out] at ho; replace HB := Ae_q (hb); have HO547 := Ae_q (ho); clear HO_3; clear ho hb hg hat)); try go_wp2_with (first | ((with_reducible refine gate_builtin (b := .append) (xs := #[.tmp 49, .tmp 51]) rfl ?_); at_builtin; refine Kd.R_append kI_q (w0 := w) w.heap.size rfl (.tmp 49) (.tmp 51) 23 3 (.int .i64 0) 8 rfl Try.underlying23 info3 rfl (by decide) (by omega) u3 x3_1 x5_3 [.int .i64 x5_3] (fun _ => True) (fun _ => False) rfl rfl ?aP (fun _ hk => hk.elim) ?aF ?aO ?aB ?aS ?aL ?_; (case aP => exact rfl); (case aB => exact (bel HB.out)); (case aF => exact m155_q); (case aO => exact (rup HO_3.out)); (case aS => exact (bZ_q (bel HB.out))); (case aL => have := LMc18.out; omega); intro v546 w19 ho hb hg hat; rw [← Ny545.out] at ho; replace HB := Ae_q (hb); have HO547 := Ae_q (ho); clear HO_3; clear ho hb hg hat)))
        go_roundg k3
        case measure => have := HK1.out; have := HJ3.out; have := HK3.out; omega
        case rel => exact ⟨(y545), (wrap64 (x4_1 + 1)), m7_q, H', ⟨m140_q⟩, ⟨rup HO547.out⟩, ⟨bel HB.out⟩⟩
       rw [if_pos c11] at H
       have c11b0 : decide (x6_3 < (((rd_T63 l0 x4_1).f3).length : Int)) = true := dT_q c11
       clear c11
       by_cases c12 : 0 ≤ x6_3
       rotate_left
       ·rw [if_neg c12] at H
        exact absurd H (by simp)
       rw [if_pos c12] at H
       have c12b0 : decide (0 ≤ x6_3) = true := dT_q c12
       clear c12
       by_cases c13 : 0 ≤ (rd ((rd_T63 l0 x4_1).f3) x6_3)
       rotate_left
       ·rw [if_neg c13] at H
        exact absurd H (by simp)
       rw [if_pos c13] at H
       have c13b0 : decide (0 ≤ (rd ((rd_T63 l0 x4_1).f3) x6_3)) = true := dT_q c13
       clear c13
       by_cases c14 : (rd ((rd_T63 l0 x4_1).f3) x6_3) < (x3_1.length : Int)
       rotate_left
       ·rw [if_neg c14] at H
        exact absurd H (by simp)
       rw [if_pos c14] at H
       have c14b0 : decide ((rd ((rd_T63 l0 x4_1).f3) x6_3) < (x3_1.length : Int)) = true := dT_q c14
       clear c14
       by_cases c15 : (rd ((rd_T63 l0 x4_1).f3) x6_3) < (l0.length : Int)
       rotate_left
       ·rw [if_neg c15] at H
        exact absurd H (by simp)
       rw [if_pos c15] at H
       have c15b0 : decide ((rd ((rd_T63 l0 x4_1).f3) x6_3) < (l0.length : Int)) = true := dT_q c15
       clear c15
       obtain ⟨ji16, hji16⟩ : ∃ j_ : Int, (mx x5_3 (wrap64 ((rd x3_1 (rd ((rd_T63 l0 x4_1).f3) x6_3)) + ((rd_T63 l0 (rd ((rd_T63 l0 x4_1).f3) x6_3)).f0)))) = j_ := ⟨_, rfl⟩
       replace H : (spec_StepsEarly.l1 k3 l0 x3_1 x4_1 ji16 (wrap64 (x6_3 + 1))) = some r := by first | (rw [hji16] at H; exact H) | (simp only [hji16] at H ⊢; exact H)
       have hji16_ : (if x5_3 < (wrap64 ((rd x3_1 (rd ((rd_T63 l0 x4_1).f3) x6_3)) + ((rd_T63 l0 (rd ((rd_T63 l0 x4_1).f3) x6_3)).f0))) then (wrap64 ((rd x3_1 (rd ((rd_T63 l0 x4_1).f3) x6_3)) + ((rd_T63 l0 (rd ((rd_T63 l0 x4_1).f3) x6_3)).f0))) else x5_3) = ji16 := hji16
       have H' := Ae_q H
       clear H
       have p540 : 0 ≤ (x4_1 : Int) := oD_q (by assumption)
       have q540 : x4_1 < (l0.length : Int) := oD_q (by assumption)
       obtain ⟨ad540, A540_3, c540_3, e540, hx540_0, hx540_1, hx540_2, hx540_3, hl540_3, hi540_3⟩ := at_T63 HR0.out x4_1 p540 q540
       cases e540
       replace hx540_0 := cel HB.out hx540_0
       replace hx540_1 := cel HB.out hx540_1
       replace hx540_2 := cel HB.out hx540_2
       replace hx540_3 := cel HB.out hx540_3
       have HR540_3 := Ae_q hi540_3
       have HC540_3 := Ae_q hl540_3
       clear hi540_3 hl540_3
       replace p540 := eq_true p540
       replace q540 := eq_true q540
       have p541 : 0 ≤ (x4_1 : Int) := oD_q (by assumption)
       have q541 : x4_1 < (l0.length : Int) := oD_q (by assumption)
       obtain ⟨ad541, A541_3, c541_3, e541, hx541_0, hx541_1, hx541_2, hx541_3, hl541_3, hi541_3⟩ := at_T63 HR0.out x4_1 p541 q541
       obtain rfl : ad540 = ad541 := (by injection e541)
       replace hx541_0 := cel HB.out hx541_0
       replace hx541_1 := cel HB.out hx541_1
       replace hx541_2 := cel HB.out hx541_2
       replace hx541_3 := cel HB.out hx541_3
       have HR541_3 := Ae_q hi541_3
       have HC541_3 := Ae_q hl541_3
       clear hi541_3 hl541_3
       replace p541 := eq_true p541
       replace q541 := eq_true q541
       have ea_ := oI_q (hx540_3.symm.trans hx541_3)
       injection ea_ with ea_ en_ ec_
       subst ea_
       subst ec_
       clear en_
       have p542 : 0 ≤ (x6_3 : Int) := oD_q (by assumption)
       have q542 : x6_3 < (((rd_T63 l0 x4_1).f3).length : Int) := oD_q (by assumption)
       obtain ⟨ad542, e542, hx542_0⟩ := aI_q HR541_3.out x6_3 p542 q542
       cases e542
       replace hx542_0 := cel HB.out hx542_0
       replace p542 := eq_true p542
       replace q542 := eq_true q542
       obtain ⟨Ao17, co17, eo17⟩ := rS_q HO_3.out
       subst eo17
       have p543 : 0 ≤ ((rd ((rd_T63 l0 x4_1).f3) x6_3) : Int) := oD_q (by assumption)
       have q543 : (rd ((rd_T63 l0 x4_1).f3) x6_3) < (x3_1.length : Int) := oD_q (by assumption)
       obtain ⟨ad543, e543, hx543_0⟩ := aI_q (rR_q HO_3.out).2.2 (rd ((rd_T63 l0 x4_1).f3) x6_3) p543 q543
       cases e543
       replace p543 := eq_true p543
       replace q543 := eq_true q543
       have p544 : 0 ≤ ((rd ((rd_T63 l0 x4_1).f3) x6_3) : Int) := oD_q (by assumption)
       have q544 : (rd ((rd_T63 l0 x4_1).f3) x6_3) < (l0.length : Int) := oD_q (by assumption)
       obtain ⟨ad544, A544_3, c544_3, e544, hx544_0, hx544_1, hx544_2, hx544_3, hl544_3, hi544_3⟩ := at_T63 HR0.out (rd ((rd_T63 l0 x4_1).f3) x6_3) p544 q544
       obtain rfl : ad540 = ad544 := (by injection e544)
       replace hx544_0 := cel HB.out hx544_0
       replace hx544_1 := cel HB.out hx544_1
       replace hx544_2 := cel HB.out hx544_2
       replace hx544_3 := cel HB.out hx544_3
       have HR544_3 := Ae_q hi544_3
       have HC544_3 := Ae_q hl544_3
       clear hi544_3 hl544_3
       replace p544 := eq_true p544
       replace q544 := eq_true q544
       go_wp2
       repeat (go_quiet (fail); try go_wp2)
       go_roundg k3
       case measure => have := HK1.out; have := HJ3.out; have := HK3.out; omega
       case rel => exact ⟨(ji16), (wrap64 (x6_3 + 1)), (by first | rfl | (simp; done) | (simp only [← hji16] <;> (first | rfl | simp)) | (simp [*]; done)), m7_q, H', ⟨m140_q⟩, ⟨rup HO_3.out⟩, ⟨bel HB.out⟩⟩

def spec_l92Plan.f (k : Nat) (s0_0 : List Int) (s0_1 : Int) : Option ((List (S63)) × Int × List Int × List Int × Int) := (spec_l92Steps.f k s0_0 s0_1).bind fun bt549 => ((spec_l92Kitchen.f k s0_0 bt549.2).bind fun bt553 => ((spec_PlanMake.f k bt549.1 bt553.1 bt553.2.1).bind fun bt559 => (if bt559.2 = true then (some (bt549.1, bt553.1, bt553.2.1, bt559.1, bt553.2.2)) else ((spec_StepsEarly.f k bt549.1).bind fun t563 => (some (bt549.1, bt553.1, bt553.2.1, t563, bt553.2.2))))))
set_option maxHeartbeats 8000000 in
set_option maxRecDepth 100000 in
theorem spec_l92Plan.calls (k : Nat) (g : Nat) (s0_0 : List Int) (s0_1 : Int) (r1 : List (S63)) (r2 : Int) (r3 : List Int) (r4 : List Int) (r5 : Int) (w0 w : World) (hI : IsS83 w0 w g s0_0 s0_1) (hB : Below w0.heap.size w0 w) (h : spec_l92Plan.f k s0_0 s0_1 = some (r1, r2, r3, r4, r5)) :
    Calls Try.prog 53 #[.pointer (some ⟨g, 0, none⟩)] w fun e w' => ∃ v0_ v2_ v3_ : Value, e = .returned (.tuple #[v0_, .agg #[.int .i64 r2, v2_], v3_]) ∧ Kd.S k63 63 w' w.heap.size (fun k_ => some k_ ≠ (v2_ : Value).ownBlock ∧ some k_ ≠ (v3_ : Value).ownBlock) v0_ r1 ∧ Kd.R kI_q 3 w' w.heap.size (fun k_ => some k_ ≠ (v3_ : Value).ownBlock) v2_ r3 ∧ Kd.R kI_q 3 w' w.heap.size (fun k_ => some k_ ≠ (v2_ : Value).ownBlock) v3_ r4 ∧ IsS83 w0 w' g s0_0 r5 ∧ Below w0.heap.size w0 w' ∧ KeepBut w w' g none := by
 have hu43 := Try.underlying43
 have HI0 := Ae_q hI
 have HK := Ae_q (KeepBut.refl w g none)
 have HL := Ae_q hB.size
 clear hI
 have HW0 := Ae_q hB.size
 have HB := Ae_q hB
 clear hB
 have H : ((spec_l92Steps.f k s0_0 s0_1).bind fun bt549 => ((spec_l92Kitchen.f k s0_0 bt549.2).bind fun bt553 => ((spec_PlanMake.f k bt549.1 bt553.1 bt553.2.1).bind fun bt559 => (if bt559.2 = true then (some (bt549.1, bt553.1, bt553.2.1, bt559.1, bt553.2.2)) else ((spec_StepsEarly.f k bt549.1).bind fun t563 => (some (bt549.1, bt553.1, bt553.2.1, t563, bt553.2.2))))))) = some (r1, r2, r3, r4, r5) := h
 clear h
 replace H := oB_q.mp H
 obtain ⟨⟨t549, t552⟩, A20, H⟩ := H
 replace H : ((spec_l92Kitchen.f k s0_0 t552).bind fun bt553 => ((spec_PlanMake.f k t549 bt553.1 bt553.2.1).bind fun bt559 => (if bt559.2 = true then (some (t549, bt553.1, bt553.2.1, bt559.1, bt553.2.2)) else ((spec_StepsEarly.f k t549).bind fun t563 => (some (t549, bt553.1, bt553.2.1, t563, bt553.2.2)))))) = some (r1, r2, r3, r4, r5) := H
 have A2 := Ae_q A20
 clear A20
 replace H := oB_q.mp H
 obtain ⟨⟨t553, t554, t557⟩, A30, H⟩ := H
 replace H : ((spec_PlanMake.f k t549 t553 t554).bind fun bt559 => (if bt559.2 = true then (some (t549, t553, t554, bt559.1, t557)) else ((spec_StepsEarly.f k t549).bind fun t563 => (some (t549, t553, t554, t563, t557))))) = some (r1, r2, r3, r4, r5) := H
 have A3 := Ae_q A30
 clear A30
 replace H := oB_q.mp H
 obtain ⟨⟨t559, t562⟩, A40, H⟩ := H
 replace H : (if t562 = true then (some (t549, t553, t554, t559, t557)) else ((spec_StepsEarly.f k t549).bind fun t563 => (some (t549, t553, t554, t563, t557)))) = some (r1, r2, r3, r4, r5) := H
 have A4 := Ae_q A40
 clear A40
 by_cases c5 : t562 = true
 ·subst c5
  have H1 : (some (t549, t553, t554, t559, t557)) = some (r1, r2, r3, r4, r5) := by rw [if_pos rfl] at H; exact H
  clear H
  have H := H1
  clear H1
  simp only [oE_q, pE_q] at H
  obtain ⟨rfl, rfl, rfl, rfl, rfl⟩ := H
  go_enter Try.func53, Try.ntmps53
  try go_wp2_with (first | ((with_reducible refine gD_q (N := 3) rfl ?_); refine bE_q ?hg (N := 3) ?hd (cs := #[.int .i64 0, .slice none 0 0]) (t := 43) ?hr ?_; (case hd => rfl); (case hg => rfl); (case hr => exact m5_q); intro gb548 hg w' hbox hb; replace HB := Ae_q (bT_q m9_q hb); have BK548 := Ae_q (hbox); have GW548 := Ae_q ((by rw [hg]; exact (keep_size (w := w) (g := g) (row := none) m4_q) : w.heap.size ≤ gb548)); have GE548 := Ae_q ((nT_q HW0.out (by rw [hg]; exact (keep_size (w := w) (g := g) (row := none) m4_q) : w.heap.size ≤ gb548) : w0.heap.size ≤ gb548)); replace HK := Ae_q (kT_q m4_q (kO_q hb g none) (.inl rfl)); have NB0_548 := Ae_q ((by rw [hg]; exact nL_q (i6_q (show IsS83 w0 _ g s0_0 s0_1 from by repeat (with_reducible first | exact HI0.out | apply i2_q | apply i1_q | apply i0_q | apply i3_q))) : g ≠ gb548)); have NB548_0 := Ae_q ((by rw [hg]; exact nG_q (i6_q (show IsS83 w0 _ g s0_0 s0_1 from by repeat (with_reducible first | exact HI0.out | apply i2_q | apply i1_q | apply i0_q | apply i3_q))) : gb548 ≠ g)); replace HI0 := Ae_q (i7_q m11_q hb); clear hb hbox hg) | ((first | ((with_reducible refine gC_q (f := 67) rfl ?_); refine gL_q (some 10) rfl rfl Try.func67 m8_q rfl #[.pointer (some ⟨g, 0, none⟩)] rfl m0_q ?_; (with_reducible refine (spec_l92Steps.calls k g s0_0 s0_1 t549 t552 w0 _ ?side1 ?side2 A2.out).mono ?_); (case side1 => exact m81_q); (case side2 => exact m75_q); rintro e w' ⟨v550, rfl, ho0, hi, hb, hk⟩; refine ⟨_, rfl, ?_⟩; replace BK548 := Ae_q (kB_q hk (g' := gb548) (o := .cells #[.int .i64 0, .slice none 0 0] 43 (0, 0)) (bup BK548.out) NB548_0.out (by simp)); have HO551 := Ae_q (Kd.S_lower ho0 (keep_size (w := w) (g := g) (row := none) m31_q)); replace HK := Ae_q (kT_q m31_q hk (.inl rfl)); replace HB := Ae_q (hb); replace HI0 := Ae_q (hi)) | ((with_reducible refine gC_q (f := 68) rfl ?_); refine gL_q (some 12) rfl rfl Try.func68 m8_q rfl #[.pointer (some ⟨g, 0, none⟩)] rfl m0_q ?_; (with_reducible refine (spec_l92Kitchen.calls k g s0_0 t552 t553 t554 t557 w0 _ ?side1 ?side2 A3.out).mono ?_); (case side1 => exact m81_q); (case side2 => exact m75_q); rintro e w' ⟨v555, rfl, ho0, hi, hb, hk⟩; refine ⟨_, rfl, ?_⟩; replace BK548 := Ae_q (kB_q hk (g' := gb548) (o := .cells #[.int .i64 0, .slice none 0 0] 43 (0, 0)) (bup BK548.out) NB548_0.out (by simp)); replace HO551 := Ae_q (Kd.S_mono (Kd.S_told (Kd.S_oldK (IsS83.apartS (show IsS83 w0 _ g s0_0 t552 from by repeat (with_reducible first | exact HI0.out | apply i2_q | apply i1_q | apply i0_q | apply i3_q | refine i4_q ?_ NB0_548.out _)) m113_q (by decide)) hk) (rB_q ho0)) (fun _ h_ => h_.1)); have HO556 := Ae_q (rL_q ho0 (keep_size (w := w) (g := g) (row := none) m31_q)); replace HK := Ae_q (kT_q m31_q hk (.inl rfl)); replace HB := Ae_q (hb); replace HI0 := Ae_q (hi))); (try clear hb); (try clear hb2); (try clear hk); (try clear hi); (try clear ho0)) | ((with_reducible refine gD_q (N := 6) rfl ?_); refine bE_q ?hg (N := 6) ?hd (cs := #[.int .i64 0, .slice none 0 0]) (t := 43) ?hr ?_; (case hd => rfl); (case hg => rfl); (case hr => exact m5_q); intro gb558 hg w9 hbox hb; replace HO551 := Ae_q (Kd.S_below m113_q hb); replace HO556 := Ae_q (rO_q (rup HO556.out) hb); replace HB := Ae_q (bT_q m75_q hb); have BK558 := Ae_q (hbox); have GW558 := Ae_q ((by rw [hg]; exact (keep_size (w := w) (g := g) (row := none) m31_q) : w.heap.size ≤ gb558)); have GE558 := Ae_q ((nT_q HW0.out (by rw [hg]; exact (keep_size (w := w) (g := g) (row := none) m31_q) : w.heap.size ≤ gb558) : w0.heap.size ≤ gb558)); replace HK := Ae_q (kT_q m31_q (kO_q hb g none) (.inl rfl)); have NB548_558 := Ae_q ((by rw [hg]; exact nL_q (blk_lt (g := gb548) (o := .cells #[.int .i64 0, .slice none 0 0] 43 (0, 0)) (bup BK548.out)) : gb548 ≠ gb558)); have NB558_548 := Ae_q ((by rw [hg]; exact nG_q (blk_lt (g := gb548) (o := .cells #[.int .i64 0, .slice none 0 0] 43 (0, 0)) (bup BK548.out)) : gb558 ≠ gb548)); replace BK548 := Ae_q (bB_q (g := gb548) (o := .cells #[.int .i64 0, .slice none 0 0] 43 (0, 0)) (bup BK548.out) hb); have NB0_558 := Ae_q ((by rw [hg]; exact nL_q (i6_q (show IsS83 w0 _ g s0_0 t557 from by repeat (with_reducible first | exact HI0.out | apply i2_q | apply i1_q | apply i0_q | apply i3_q | refine i4_q ?_ NB0_548.out _))) : g ≠ gb558)); have NB558_0 := Ae_q ((by rw [hg]; exact nG_q (i6_q (show IsS83 w0 _ g s0_0 t557 from by repeat (with_reducible first | exact HI0.out | apply i2_q | apply i1_q | apply i0_q | apply i3_q | refine i4_q ?_ NB0_548.out _))) : gb558 ≠ g)); replace HI0 := Ae_q (i7_q m81_q hb); clear hb hbox hg; have hnb10 := NB558_548.out; have hnc10 := NB548_558.out; have hnb11 := NB558_0.out; have hnc11 := NB0_558.out; have hcz12_0 : cI w9 gb558 0 0 := cZ BK558 0 rfl; have hcz12_1 : w9.cell? ⟨gb558, 1, none⟩ = some (.slice none 0 0) := (bC_q BK558.out 1).trans rfl; have hfz12_0 := bF_q BK558.out 0; have hfz12_1 := bF_q BK558.out 1; obtain ⟨Ao13, co13, eo13⟩ := rS_q HO556.out; subst eo13; obtain ⟨Ao14, co14, eo14⟩ := Kd.S_slice HO551.out; subst eo14) | ((with_reducible refine gC_q (f := 22) rfl ?_); refine gL_q (some 16) rfl rfl Try.func22 m8_q rfl #[.slice Ao14 t549.length co14, .agg #[.int .i64 t553, .slice Ao13 t554.length co13]] rfl m0_q ?_; (with_reducible refine (spec_PlanMake.calls k _ _ t549 t553 _ _ t554 t559 true _ ?side1 ?side2 ?side3 ?side4 A4.out).mono ?_); (case side1 => refine (Kd.S_reads' (e := 63) (base := w.heap.size) (ok := fun k_ => (True ∧ some k_ ≠ (.slice Ao13 t554.length co13 : Value).ownBlock)) (n := t549.length) (c := co14) ?_).2.2; exact (by (with_reducible repeat (first | apply tA_q | apply tN_q | apply tD_q)); exact (Kd.S_mono (Kd.S_far (p := ⟨gb558, 1, none⟩) (Kd.S_far (p := ⟨gb558, 0, none⟩) (Kd.S_types HO551.out BK558.out (by decide)) (fun _ hk => hk.2) (.int .i64 t553)) (fun _ hk => hk.2) (.slice Ao13 t554.length co13)) (fun _ h_ => h_.1)))); (case side2 => exact (Kd.S_reads' HO551.out).2.1); (case side3 => refine (rR_q (e := 3) (base := w.heap.size) (ok := fun k_ => True) (n := t554.length) (c := co13) ?_).2.2; exact (by (with_reducible repeat (first | apply rA_q | apply rN_q | apply rD_q)); exact (rM_q (Kd.R_far (p := ⟨gb558, 1, none⟩) (Kd.R_far (p := ⟨gb558, 0, none⟩) (Kd.R_types HO556.out BK558.out (by decide)) (fun _ hk => hk.2) (.int .i64 t553)) (fun _ hk => hk.2) (.slice Ao13 t554.length co13)) (fun _ h_ => h_.1)))); (case side4 => exact (rR_q HO556.out).2.1); rintro e w15 ⟨v560, rfl, ho0, hb⟩; refine ⟨_, rfl, ?_⟩; replace HO551 := Ae_q (Kd.S_elder' (by (with_reducible repeat (first | apply tA_q | apply tN_q | apply tD_q)); exact (Kd.S_mono (Kd.S_far (p := ⟨gb558, 1, none⟩) (Kd.S_far (p := ⟨gb558, 0, none⟩) (Kd.S_types HO551.out BK558.out (by decide)) (fun _ hk => hk.2) (.int .i64 t553)) (fun _ hk => hk.2) (.slice Ao13 t554.length co13)) (fun _ h_ => h_.1))) (rB_q ho0) hb); have HO561 := Ae_q (rL_q (rW_q ho0 (rT_q (by (with_reducible repeat (first | apply rA_q | apply rN_q | apply rD_q)); exact (rM_q (Kd.R_far (p := ⟨gb558, 1, none⟩) (Kd.R_far (p := ⟨gb558, 0, none⟩) (Kd.R_types HO556.out BK558.out (by decide)) (fun _ hk => hk.2) (.int .i64 t553)) (fun _ hk => hk.2) (.slice Ao13 t554.length co13)) (fun _ h_ => h_.1))))) (keep_size (w := w) (g := g) (row := none) m46_q)); replace HO556 := Ae_q (rE_q (by (with_reducible repeat (first | apply rA_q | apply rN_q | apply rD_q)); exact (rM_q (Kd.R_far (p := ⟨gb558, 1, none⟩) (Kd.R_far (p := ⟨gb558, 0, none⟩) (Kd.R_types HO556.out BK558.out (by decide)) (fun _ hk => hk.2) (.int .i64 t553)) (fun _ hk => hk.2) (.slice Ao13 t554.length co13)) (fun _ h_ => h_.1))) (rB_q ho0) hb); replace BK548 := Ae_q (bB_q (g := gb548) (o := .cells #[.int .i64 0, .slice none 0 0] 43 (0, 0)) m88_q hb); replace BK558 := Ae_q (bB_q (g := gb558) (o := .cells #[.int .i64 t553, .slice Ao13 t554.length co13] 43 (0, 0)) m77_q hb); replace HK := Ae_q (kT_q m46_q (kO_q hb g none) (.inl rfl)); replace HB := Ae_q (bT_q m76_q hb); replace HI0 := Ae_q (i7_q (show IsS83 w0 ((w9.setCell ⟨gb558, 0, none⟩ (.int .i64 t553)).setCell ⟨gb558, 1, none⟩ (.slice Ao13 t554.length co13)) g s0_0 t557 from by repeat (with_reducible first | exact HI0.out | apply i2_q | apply i1_q | apply i0_q | apply i3_q | refine i4_q ?_ NB0_548.out _ | refine i4_q ?_ NB0_558.out _)) hb); (try clear hb); (try clear hb2); (try clear hk); (try clear hi); (try clear ho0)))
  replace HO551 := Ae_q (tD_q HO551.out)
  replace HO556 := Ae_q (rD_q HO556.out)
  replace HO561 := Ae_q (rD_q HO561.out)
  replace BK548 := Ae_q (bW_q BK548.out)
  replace BK558 := Ae_q (bW_q BK558.out)
  replace HI0 := Ae_q (i0_q HI0.out)
  replace HK := Ae_q (kD_q HK.out)
  replace HB := Ae_q (bD_q HB.out)
  refine start_ (n := 6) (S := fun w' => w'.cell? ⟨gb558, 0, none⟩ = some (.int .i64 t553) ∧ w'.cell? ⟨gb558, 1, none⟩ = some (.slice Ao13 t554.length co13)) (ds := []) #[false, false, false, false, false, false] m8_q rfl rfl ⟨(bC_q BK558.out 0).trans rfl, (bC_q BK558.out 1).trans rfl⟩ (fun hHeld => ?_)
  generalize w15.drew = w16 at HO551 HO556 HO561 BK548 BK558 HI0 HK HB hHeld ⊢
  refine pure_ (i := 0) (N := some 23) (v := ?_) (a' := ?_) #[true, false, false, false, false, false] rfl rfl m8_q (fun _ _ _ h => h) (Or.inl ⟨by rfl, ?_⟩) ?_ ?_
  rotate_left
  ·intro w'
   go_simp
   with_reducible rfl
  rotate_left
  ·simp only [pS_q]
   rfl
  refine pure_ (i := 2) (N := some 25) (v := ?_) (a' := ?_) #[true, false, true, false, false, false] rfl rfl m8_q (fun _ _ _ h => h) (Or.inl ⟨by rfl, ?_⟩) ?_ ?_
  rotate_left
  ·intro w'
   go_simp
   with_reducible rfl
  rotate_left
  ·simp only [pS_q]
   rfl
  refine pure_ (i := 3) (N := some 2) (v := ?_) (a' := ?_) #[true, false, true, true, false, false] rfl rfl m8_q (fun _ _ _ h => h) (Or.inl ⟨by rfl, ?_⟩) ?_ ?_
  rotate_left
  ·intro w'
   go_simp
   with_reducible rfl
  rotate_left
  ·simp only [pS_q]
   rfl
  refine take_ (i := 1) (N := some 24) (v := ?_) (a' := ?_) #[true, true, true, true, false, false] rfl rfl m8_q (fun _ _ _ h => h) (Or.inl ⟨by rfl, ?_⟩) hHeld ?_ ?_
  rotate_left
  ·rintro w' ⟨s0, s1⟩
   go_simp
   with_reducible rfl
  rotate_left
  ·simp only [pS_q]
   rfl
  refine one_ (i := 4) (N := none) #[true, true, true, true, true, false] rfl rfl m8_q (by decide) (fun K hK => ?_)
  have hs17 : cI w16 gb548 0 0 := cZ BK548 0 rfl
  have hfs17 := bF_q BK548.out 0
  have hns17_1 := NB558_548.out
  have hms17_1 := NB548_558.out
  have hs18 : w16.cell? ⟨gb548, 1, none⟩ = some (.slice none 0 0) := (bC_q BK548.out 1).trans rfl
  have hfs18 := bF_q BK548.out 1
  have hns18_1 := NB558_548.out
  have hms18_1 := NB548_558.out
  refine skip_ (w1 := ?_) (by rfl) rfl ?_ ?_
  rotate_left
  ·go_simp
   rfl
  refine hK.out _ _ ⟨((cell_far (p := ⟨gb548, _, none⟩) NB558_548.out _).trans (((cell_far (p := ⟨gb548, _, none⟩) NB558_548.out _).trans (hHeld.1)))), ((cell_far (p := ⟨gb548, _, none⟩) NB558_548.out _).trans (((cell_far (p := ⟨gb548, _, none⟩) NB558_548.out _).trans (hHeld.2))))⟩ (fun hHeld => ?_)
  clear hK K
  refine pure_ (i := 5) (N := some 4) (v := ?_) (a' := ?_) #[true, true, true, true, true, true] rfl rfl m8_q (fun _ _ _ h => h) (Or.inl ⟨by rfl, ?_⟩) ?_ ?_
  rotate_left
  ·intro w'
   go_simp
   with_reducible rfl
  rotate_left
  ·simp only [pS_q]
   rfl
  refine done_ m8_q ?_
  try go_wp2
  refine bodyPost_ret (results_list (rs := [.tmp 2, .cell 3 43, .tmp 4]) rfl (by simp) (.tmp (.cell gb548 43 #[.int .i64 t553, .slice Ao13 t554.length co13] (0, 0) _ rfl m78_q Try.underlying43 rfl m8_q (.tmp .nil)))) rfl ?_
  exact ⟨_, _, _, m6_q, by (with_reducible repeat (first | apply tA_q | apply tN_q | apply tD_q)); exact Kd.S_mono (Kd.S_far (p := ⟨gb548, 1, none⟩) (Kd.S_far (p := ⟨gb548, 0, none⟩) (Kd.S_types HO551.out BK548.out (by decide)) (fun _ hk => hk.2) (.int .i64 t553)) (fun _ hk => hk.2) (.slice Ao13 t554.length co13)) (fun _ hk => ⟨hk.1.1.2, hk.1.2⟩), by (with_reducible repeat (first | apply rA_q | apply rN_q | apply rD_q)); exact rM_q (Kd.R_far (p := ⟨gb548, 1, none⟩) (Kd.R_far (p := ⟨gb548, 0, none⟩) (Kd.R_types HO556.out BK548.out (by decide)) (fun _ hk => hk.2) (.int .i64 t553)) (fun _ hk => hk.2) (.slice Ao13 t554.length co13)) (fun _ hk => hk.1.2), by (with_reducible repeat (first | apply rA_q | apply rN_q | apply rD_q)); exact rM_q (Kd.R_far (p := ⟨gb548, 1, none⟩) (Kd.R_far (p := ⟨gb548, 0, none⟩) (Kd.R_types HO561.out BK548.out (by decide)) (fun _ hk => hk.2) (.int .i64 t553)) (fun _ hk => hk.2) (.slice Ao13 t554.length co13)) (fun _ hk => hk.1.2), m109_q, m76_q, m46_q⟩
 replace c5 := fM_q.mpr c5
 subst c5
 have H1 : ((spec_StepsEarly.f k t549).bind fun t563 => (some (t549, t553, t554, t563, t557))) = some (r1, r2, r3, r4, r5) := by rw [if_neg (show ¬ (false = true) by decide)] at H; exact H
 clear H
 have H := H1
 clear H1
 replace H := oB_q.mp H
 obtain ⟨t563, A190, H⟩ := H
 replace H : (some (t549, t553, t554, t563, t557)) = some (r1, r2, r3, r4, r5) := H
 have A19 := Ae_q A190
 clear A190
 simp only [oE_q, pE_q] at H
 obtain ⟨rfl, rfl, rfl, rfl, rfl⟩ := H
 go_enter Try.func53, Try.ntmps53
 try go_wp2_with (first | ((with_reducible refine gD_q (N := 3) rfl ?_); refine bE_q ?hg (N := 3) ?hd (cs := #[.int .i64 0, .slice none 0 0]) (t := 43) ?hr ?_; (case hd => rfl); (case hg => rfl); (case hr => exact m5_q); intro gb548 hg w' hbox hb; replace HB := Ae_q (bT_q m9_q hb); have BK548 := Ae_q (hbox); have GW548 := Ae_q ((by rw [hg]; exact (keep_size (w := w) (g := g) (row := none) m4_q) : w.heap.size ≤ gb548)); have GE548 := Ae_q ((nT_q HW0.out (by rw [hg]; exact (keep_size (w := w) (g := g) (row := none) m4_q) : w.heap.size ≤ gb548) : w0.heap.size ≤ gb548)); replace HK := Ae_q (kT_q m4_q (kO_q hb g none) (.inl rfl)); have NB0_548 := Ae_q ((by rw [hg]; exact nL_q (i6_q (show IsS83 w0 _ g s0_0 s0_1 from by repeat (with_reducible first | exact HI0.out | apply i2_q | apply i1_q | apply i0_q | apply i3_q))) : g ≠ gb548)); have NB548_0 := Ae_q ((by rw [hg]; exact nG_q (i6_q (show IsS83 w0 _ g s0_0 s0_1 from by repeat (with_reducible first | exact HI0.out | apply i2_q | apply i1_q | apply i0_q | apply i3_q))) : gb548 ≠ g)); replace HI0 := Ae_q (i7_q m11_q hb); clear hb hbox hg) | ((first | ((with_reducible refine gC_q (f := 67) rfl ?_); refine gL_q (some 10) rfl rfl Try.func67 m8_q rfl #[.pointer (some ⟨g, 0, none⟩)] rfl m0_q ?_; (with_reducible refine (spec_l92Steps.calls k g s0_0 s0_1 t549 t552 w0 _ ?side1 ?side2 A2.out).mono ?_); (case side1 => exact m81_q); (case side2 => exact m75_q); rintro e w' ⟨v550, rfl, ho0, hi, hb, hk⟩; refine ⟨_, rfl, ?_⟩; replace BK548 := Ae_q (kB_q hk (g' := gb548) (o := .cells #[.int .i64 0, .slice none 0 0] 43 (0, 0)) (bup BK548.out) NB548_0.out (by simp)); have HO551 := Ae_q (Kd.S_lower ho0 (keep_size (w := w) (g := g) (row := none) m31_q)); replace HK := Ae_q (kT_q m31_q hk (.inl rfl)); replace HB := Ae_q (hb); replace HI0 := Ae_q (hi)) | ((with_reducible refine gC_q (f := 68) rfl ?_); refine gL_q (some 12) rfl rfl Try.func68 m8_q rfl #[.pointer (some ⟨g, 0, none⟩)] rfl m0_q ?_; (with_reducible refine (spec_l92Kitchen.calls k g s0_0 t552 t553 t554 t557 w0 _ ?side1 ?side2 A3.out).mono ?_); (case side1 => exact m81_q); (case side2 => exact m75_q); rintro e w' ⟨v555, rfl, ho0, hi, hb, hk⟩; refine ⟨_, rfl, ?_⟩; replace BK548 := Ae_q (kB_q hk (g' := gb548) (o := .cells #[.int .i64 0, .slice none 0 0] 43 (0, 0)) (bup BK548.out) NB548_0.out (by simp)); replace HO551 := Ae_q (Kd.S_mono (Kd.S_told (Kd.S_oldK (IsS83.apartS (show IsS83 w0 _ g s0_0 t552 from by repeat (with_reducible first | exact HI0.out | apply i2_q | apply i1_q | apply i0_q | apply i3_q | refine i4_q ?_ NB0_548.out _)) m113_q (by decide)) hk) (rB_q ho0)) (fun _ h_ => h_.1)); have HO556 := Ae_q (rL_q ho0 (keep_size (w := w) (g := g) (row := none) m31_q)); replace HK := Ae_q (kT_q m31_q hk (.inl rfl)); replace HB := Ae_q (hb); replace HI0 := Ae_q (hi))); (try clear hb); (try clear hb2); (try clear hk); (try clear hi); (try clear ho0)) | ((with_reducible refine gD_q (N := 6) rfl ?_); refine bE_q ?hg (N := 6) ?hd (cs := #[.int .i64 0, .slice none 0 0]) (t := 43) ?hr ?_; (case hd => rfl); (case hg => rfl); (case hr => exact m5_q); intro gb558 hg w23 hbox hb; replace HO551 := Ae_q (Kd.S_below m113_q hb); replace HO556 := Ae_q (rO_q (rup HO556.out) hb); replace HB := Ae_q (bT_q m75_q hb); have BK558 := Ae_q (hbox); have GW558 := Ae_q ((by rw [hg]; exact (keep_size (w := w) (g := g) (row := none) m31_q) : w.heap.size ≤ gb558)); have GE558 := Ae_q ((nT_q HW0.out (by rw [hg]; exact (keep_size (w := w) (g := g) (row := none) m31_q) : w.heap.size ≤ gb558) : w0.heap.size ≤ gb558)); replace HK := Ae_q (kT_q m31_q (kO_q hb g none) (.inl rfl)); have NB548_558 := Ae_q ((by rw [hg]; exact nL_q (blk_lt (g := gb548) (o := .cells #[.int .i64 0, .slice none 0 0] 43 (0, 0)) (bup BK548.out)) : gb548 ≠ gb558)); have NB558_548 := Ae_q ((by rw [hg]; exact nG_q (blk_lt (g := gb548) (o := .cells #[.int .i64 0, .slice none 0 0] 43 (0, 0)) (bup BK548.out)) : gb558 ≠ gb548)); replace BK548 := Ae_q (bB_q (g := gb548) (o := .cells #[.int .i64 0, .slice none 0 0] 43 (0, 0)) (bup BK548.out) hb); have NB0_558 := Ae_q ((by rw [hg]; exact nL_q (i6_q (show IsS83 w0 _ g s0_0 t557 from by repeat (with_reducible first | exact HI0.out | apply i2_q | apply i1_q | apply i0_q | apply i3_q | refine i4_q ?_ NB0_548.out _))) : g ≠ gb558)); have NB558_0 := Ae_q ((by rw [hg]; exact nG_q (i6_q (show IsS83 w0 _ g s0_0 t557 from by repeat (with_reducible first | exact HI0.out | apply i2_q | apply i1_q | apply i0_q | apply i3_q | refine i4_q ?_ NB0_548.out _))) : gb558 ≠ g)); replace HI0 := Ae_q (i7_q m81_q hb); clear hb hbox hg; have hnb24 := NB558_548.out; have hnc24 := NB548_558.out; have hnb25 := NB558_0.out; have hnc25 := NB0_558.out; have hcz26_0 : cI w23 gb558 0 0 := cZ BK558 0 rfl; have hcz26_1 : w23.cell? ⟨gb558, 1, none⟩ = some (.slice none 0 0) := (bC_q BK558.out 1).trans rfl; have hfz26_0 := bF_q BK558.out 0; have hfz26_1 := bF_q BK558.out 1; obtain ⟨Ao27, co27, eo27⟩ := rS_q HO556.out; subst eo27; obtain ⟨Ao28, co28, eo28⟩ := Kd.S_slice HO551.out; subst eo28) | ((first | ((with_reducible refine gC_q (f := 22) rfl ?_); refine gL_q (some 16) rfl rfl Try.func22 m8_q rfl #[.slice Ao28 t549.length co28, .agg #[.int .i64 t553, .slice Ao27 t554.length co27]] rfl m0_q ?_; (with_reducible refine (spec_PlanMake.calls k _ _ t549 t553 _ _ t554 t559 false _ ?side1 ?side2 ?side3 ?side4 A4.out).mono ?_); (case side1 => refine (Kd.S_reads' (e := 63) (base := w.heap.size) (ok := fun k_ => (True ∧ some k_ ≠ (.slice Ao27 t554.length co27 : Value).ownBlock)) (n := t549.length) (c := co28) ?_).2.2; exact (by (with_reducible repeat (first | apply tA_q | apply tN_q | apply tD_q)); exact (Kd.S_mono (Kd.S_far (p := ⟨gb558, 1, none⟩) (Kd.S_far (p := ⟨gb558, 0, none⟩) (Kd.S_types HO551.out BK558.out (by decide)) (fun _ hk => hk.2) (.int .i64 t553)) (fun _ hk => hk.2) (.slice Ao27 t554.length co27)) (fun _ h_ => h_.1)))); (case side2 => exact (Kd.S_reads' HO551.out).2.1); (case side3 => refine (rR_q (e := 3) (base := w.heap.size) (ok := fun k_ => True) (n := t554.length) (c := co27) ?_).2.2; exact (by (with_reducible repeat (first | apply rA_q | apply rN_q | apply rD_q)); exact (rM_q (Kd.R_far (p := ⟨gb558, 1, none⟩) (Kd.R_far (p := ⟨gb558, 0, none⟩) (Kd.R_types HO556.out BK558.out (by decide)) (fun _ hk => hk.2) (.int .i64 t553)) (fun _ hk => hk.2) (.slice Ao27 t554.length co27)) (fun _ h_ => h_.1)))); (case side4 => exact (rR_q HO556.out).2.1); rintro e w' ⟨v560, rfl, ho0, hb⟩; refine ⟨_, rfl, ?_⟩; replace HO551 := Ae_q (Kd.S_elder' (by (with_reducible repeat (first | apply tA_q | apply tN_q | apply tD_q)); exact (Kd.S_mono (Kd.S_far (p := ⟨gb558, 1, none⟩) (Kd.S_far (p := ⟨gb558, 0, none⟩) (Kd.S_types HO551.out BK558.out (by decide)) (fun _ hk => hk.2) (.int .i64 t553)) (fun _ hk => hk.2) (.slice Ao27 t554.length co27)) (fun _ h_ => h_.1))) (rB_q ho0) hb); have HO561 := Ae_q (rL_q (rW_q ho0 (rT_q (by (with_reducible repeat (first | apply rA_q | apply rN_q | apply rD_q)); exact (rM_q (Kd.R_far (p := ⟨gb558, 1, none⟩) (Kd.R_far (p := ⟨gb558, 0, none⟩) (Kd.R_types HO556.out BK558.out (by decide)) (fun _ hk => hk.2) (.int .i64 t553)) (fun _ hk => hk.2) (.slice Ao27 t554.length co27)) (fun _ h_ => h_.1))))) (keep_size (w := w) (g := g) (row := none) m46_q)); replace HO556 := Ae_q (rE_q (by (with_reducible repeat (first | apply rA_q | apply rN_q | apply rD_q)); exact (rM_q (Kd.R_far (p := ⟨gb558, 1, none⟩) (Kd.R_far (p := ⟨gb558, 0, none⟩) (Kd.R_types HO556.out BK558.out (by decide)) (fun _ hk => hk.2) (.int .i64 t553)) (fun _ hk => hk.2) (.slice Ao27 t554.length co27)) (fun _ h_ => h_.1))) (rB_q ho0) hb); replace BK548 := Ae_q (bB_q (g := gb548) (o := .cells #[.int .i64 0, .slice none 0 0] 43 (0, 0)) m88_q hb); replace BK558 := Ae_q (bB_q (g := gb558) (o := .cells #[.int .i64 t553, .slice Ao27 t554.length co27] 43 (0, 0)) m77_q hb); replace HK := Ae_q (kT_q m46_q (kO_q hb g none) (.inl rfl)); replace HB := Ae_q (bT_q m76_q hb); replace HI0 := Ae_q (i7_q (show IsS83 w0 ((w23.setCell ⟨gb558, 0, none⟩ (.int .i64 t553)).setCell ⟨gb558, 1, none⟩ (.slice Ao27 t554.length co27)) g s0_0 t557 from by repeat (with_reducible first | exact HI0.out | apply i2_q | apply i1_q | apply i0_q | apply i3_q | refine i4_q ?_ NB0_548.out _ | refine i4_q ?_ NB0_558.out _)) hb)) | ((with_reducible refine gC_q (f := 69) rfl ?_); refine gL_q (some 22) rfl rfl Try.func69 m8_q rfl #[.slice Ao28 t549.length co28] rfl m0_q ?_; (with_reducible refine (spec_StepsEarly.calls k _ _ t549 t563 _ ?side1 ?side2 A19.out).mono ?_); (case side1 => repeat (first | exact (Kd.S_reads' HO551.out).2.2 | (with_reducible refine cA_q ?_ _) | (with_reducible refine cN_q ?_ _) | (with_reducible refine cD_q ?_))); (case side2 => exact (Kd.S_reads' HO551.out).2.1); rintro e w30 ⟨v564, rfl, ho0, hb⟩; refine ⟨_, rfl, ?_⟩; replace HO551 := Ae_q (Kd.S_elder' m113_q (rB_q ho0) hb); have HO565 := Ae_q (rL_q (rW_q (rW_q ho0 (rT_q (rup HO556.out))) (rT_q (rup HO561.out))) (keep_size (w := w) (g := g) (row := none) m46_q)); replace HO556 := Ae_q (rE_q (rup HO556.out) (rB_q ho0) hb); replace HO561 := Ae_q (rE_q (rup HO561.out) (rB_q ho0) hb); replace BK548 := Ae_q (bB_q (g := gb548) (o := .cells #[.int .i64 0, .slice none 0 0] 43 (0, 0)) (bup BK548.out) hb); replace BK558 := Ae_q (bB_q (g := gb558) (o := .cells #[.int .i64 t553, .slice Ao27 t554.length co27] 43 (0, 0)) (bup BK558.out) hb); replace HK := Ae_q (kT_q m46_q (kO_q hb g none) (.inl rfl)); replace HB := Ae_q (bT_q m76_q hb); replace HI0 := Ae_q (i7_q m109_q hb))); (try clear hb); (try clear hb2); (try clear hk); (try clear hi); (try clear ho0)))
 replace HO551 := Ae_q (tD_q HO551.out)
 replace HO556 := Ae_q (rD_q HO556.out)
 replace HO561 := Ae_q (rD_q HO561.out)
 replace HO565 := Ae_q (rD_q HO565.out)
 replace BK548 := Ae_q (bW_q BK548.out)
 replace BK558 := Ae_q (bW_q BK558.out)
 replace HI0 := Ae_q (i0_q HI0.out)
 replace HK := Ae_q (kD_q HK.out)
 replace HB := Ae_q (bD_q HB.out)
 refine start_ (n := 6) (S := fun w' => w'.cell? ⟨gb558, 0, none⟩ = some (.int .i64 t553) ∧ w'.cell? ⟨gb558, 1, none⟩ = some (.slice Ao27 t554.length co27)) (ds := []) #[false, false, false, false, false, false] m8_q rfl rfl ⟨(bC_q BK558.out 0).trans rfl, (bC_q BK558.out 1).trans rfl⟩ (fun hHeld => ?_)
 generalize w30.drew = w31 at HO551 HO556 HO561 HO565 BK548 BK558 HI0 HK HB hHeld ⊢
 refine pure_ (i := 0) (N := some 23) (v := ?_) (a' := ?_) #[true, false, false, false, false, false] rfl rfl m8_q (fun _ _ _ h => h) (Or.inl ⟨by rfl, ?_⟩) ?_ ?_
 rotate_left
 ·intro w'
  go_simp
  with_reducible rfl
 rotate_left
 ·simp only [pS_q]
  rfl
 refine pure_ (i := 2) (N := some 25) (v := ?_) (a' := ?_) #[true, false, true, false, false, false] rfl rfl m8_q (fun _ _ _ h => h) (Or.inl ⟨by rfl, ?_⟩) ?_ ?_
 rotate_left
 ·intro w'
  go_simp
  with_reducible rfl
 rotate_left
 ·simp only [pS_q]
  rfl
 refine pure_ (i := 3) (N := some 2) (v := ?_) (a' := ?_) #[true, false, true, true, false, false] rfl rfl m8_q (fun _ _ _ h => h) (Or.inl ⟨by rfl, ?_⟩) ?_ ?_
 rotate_left
 ·intro w'
  go_simp
  with_reducible rfl
 rotate_left
 ·simp only [pS_q]
  rfl
 refine take_ (i := 1) (N := some 24) (v := ?_) (a' := ?_) #[true, true, true, true, false, false] rfl rfl m8_q (fun _ _ _ h => h) (Or.inl ⟨by rfl, ?_⟩) hHeld ?_ ?_
 rotate_left
 ·rintro w' ⟨s0, s1⟩
  go_simp
  with_reducible rfl
 rotate_left
 ·simp only [pS_q]
  rfl
 refine one_ (i := 4) (N := none) #[true, true, true, true, true, false] rfl rfl m8_q (by decide) (fun K hK => ?_)
 have hs32 : cI w31 gb548 0 0 := cZ BK548 0 rfl
 have hfs32 := bF_q BK548.out 0
 have hns32_1 := NB558_548.out
 have hms32_1 := NB548_558.out
 have hs33 : w31.cell? ⟨gb548, 1, none⟩ = some (.slice none 0 0) := (bC_q BK548.out 1).trans rfl
 have hfs33 := bF_q BK548.out 1
 have hns33_1 := NB558_548.out
 have hms33_1 := NB548_558.out
 refine skip_ (w1 := ?_) (by rfl) rfl ?_ ?_
 rotate_left
 ·go_simp
  rfl
 refine hK.out _ _ ⟨((cell_far (p := ⟨gb548, _, none⟩) NB558_548.out _).trans (((cell_far (p := ⟨gb548, _, none⟩) NB558_548.out _).trans (hHeld.1)))), ((cell_far (p := ⟨gb548, _, none⟩) NB558_548.out _).trans (((cell_far (p := ⟨gb548, _, none⟩) NB558_548.out _).trans (hHeld.2))))⟩ (fun hHeld => ?_)
 clear hK K
 refine pure_ (i := 5) (N := some 4) (v := ?_) (a' := ?_) #[true, true, true, true, true, true] rfl rfl m8_q (fun _ _ _ h => h) (Or.inl ⟨by rfl, ?_⟩) ?_ ?_
 rotate_left
 ·intro w'
  go_simp
  with_reducible rfl
 rotate_left
 ·simp only [pS_q]
  rfl
 refine done_ m8_q ?_
 try go_wp2
 refine bodyPost_ret (results_list (rs := [.tmp 2, .cell 3 43, .tmp 4]) rfl (by simp) (.tmp (.cell gb548 43 #[.int .i64 t553, .slice Ao27 t554.length co27] (0, 0) _ rfl m78_q Try.underlying43 rfl m8_q (.tmp .nil)))) rfl ?_
 exact ⟨_, _, _, m6_q, by (with_reducible repeat (first | apply tA_q | apply tN_q | apply tD_q)); exact Kd.S_mono (Kd.S_far (p := ⟨gb548, 1, none⟩) (Kd.S_far (p := ⟨gb548, 0, none⟩) (Kd.S_types HO551.out BK548.out (by decide)) (fun _ hk => hk.2) (.int .i64 t553)) (fun _ hk => hk.2) (.slice Ao27 t554.length co27)) (fun _ hk => ⟨hk.1.1.1.2, hk.1.2⟩), by (with_reducible repeat (first | apply rA_q | apply rN_q | apply rD_q)); exact rM_q (Kd.R_far (p := ⟨gb548, 1, none⟩) (Kd.R_far (p := ⟨gb548, 0, none⟩) (Kd.R_types HO556.out BK548.out (by decide)) (fun _ hk => hk.2) (.int .i64 t553)) (fun _ hk => hk.2) (.slice Ao27 t554.length co27)) (fun _ hk => hk.1.2), by (with_reducible repeat (first | apply rA_q | apply rN_q | apply rD_q)); exact rM_q (Kd.R_far (p := ⟨gb548, 1, none⟩) (Kd.R_far (p := ⟨gb548, 0, none⟩) (Kd.R_types HO565.out BK548.out (by decide)) (fun _ hk => hk.2) (.int .i64 t553)) (fun _ hk => hk.2) (.slice Ao27 t554.length co27)) (fun _ hk => hk.1.1.2), m109_q, m76_q, m46_q⟩

def spec_l92Outage.f (k : Nat) (s0_0 : List Int) (s0_1 : Int) : Option (Int × Int × Int × Int) := (spec_l6Rd_pick.f k s0_0 s0_1 30).bind fun bt567 => ((spec_l6Rd_pick.f k s0_0 bt567.2 3).bind fun bt569 => ((spec_l6Rd_pick.f k s0_0 bt569.2 14).bind fun bt571 => ((spec_l6Rd_pick.f k s0_0 bt571.2 24).bind fun bt574 => (if bt574.1 = 0 then ((spec_l6Rd_pick.f k s0_0 bt574.2 2).bind fun bt576 => (some (wrap64 (bt576.1 * 5), bt567.1, wrap64 (bt567.1 + bt571.1), bt576.2))) else (if bt574.1 = 1 then (some (wrap64 (1 + bt569.1), bt567.1, wrap64 (bt567.1 - 1), bt574.2)) else (if bt574.1 = 2 then ((some (([999, 1000] : List Int) : List Int)).bind fun y578 => ((spec_l6Rd_pick.f k s0_0 bt574.2 2).bind fun bt581 => (if 0 ≤ bt581.1 then (if bt581.1 < (y578.length : Int) then (some (wrap64 (1 + bt569.1), bt567.1, rd y578 bt581.1, bt581.2)) else (none)) else (none)))) else (some (wrap64 (1 + bt569.1), bt567.1, wrap64 (bt567.1 + bt571.1), bt574.2))))))))
set_option maxHeartbeats 8000000 in
set_option maxRecDepth 100000 in
theorem spec_l92Outage.calls (k : Nat) (g : Nat) (s0_0 : List Int) (s0_1 : Int) (r1 : Int) (r2 : Int) (r3 : Int) (r4 : Int) (w0 w : World) (hI : IsS83 w0 w g s0_0 s0_1) (hB : Below w0.heap.size w0 w) (h : spec_l92Outage.f k s0_0 s0_1 = some (r1, r2, r3, r4)) :
    Calls Try.prog 54 #[.pointer (some ⟨g, 0, none⟩)] w fun e w' => e = .returned (.agg #[.int .i64 r1, .int .i64 r2, .int .i64 r3]) ∧ IsS83 w0 w' g s0_0 r4 ∧ Below w0.heap.size w0 w' ∧ KeepBut w w' g none := by
 have hu31 := Try.underlying31
 have HI0 := Ae_q hI
 have HK := Ae_q (KeepBut.refl w g none)
 have HL := Ae_q hB.size
 clear hI
 have HW0 := Ae_q hB.size
 have HB := Ae_q hB
 clear hB
 have H : ((spec_l6Rd_pick.f k s0_0 s0_1 30).bind fun bt567 => ((spec_l6Rd_pick.f k s0_0 bt567.2 3).bind fun bt569 => ((spec_l6Rd_pick.f k s0_0 bt569.2 14).bind fun bt571 => ((spec_l6Rd_pick.f k s0_0 bt571.2 24).bind fun bt574 => (if bt574.1 = 0 then ((spec_l6Rd_pick.f k s0_0 bt574.2 2).bind fun bt576 => (some (wrap64 (bt576.1 * 5), bt567.1, wrap64 (bt567.1 + bt571.1), bt576.2))) else (if bt574.1 = 1 then (some (wrap64 (1 + bt569.1), bt567.1, wrap64 (bt567.1 - 1), bt574.2)) else (if bt574.1 = 2 then ((some (([999, 1000] : List Int) : List Int)).bind fun y578 => ((spec_l6Rd_pick.f k s0_0 bt574.2 2).bind fun bt581 => (if 0 ≤ bt581.1 then (if bt581.1 < (y578.length : Int) then (some (wrap64 (1 + bt569.1), bt567.1, rd y578 bt581.1, bt581.2)) else (none)) else (none)))) else (some (wrap64 (1 + bt569.1), bt567.1, wrap64 (bt567.1 + bt571.1), bt574.2))))))))) = some (r1, r2, r3, r4) := h
 clear h
 replace H := oB_q.mp H
 obtain ⟨⟨t567, t568⟩, A20, H⟩ := H
 replace H : ((spec_l6Rd_pick.f k s0_0 t568 3).bind fun bt569 => ((spec_l6Rd_pick.f k s0_0 bt569.2 14).bind fun bt571 => ((spec_l6Rd_pick.f k s0_0 bt571.2 24).bind fun bt574 => (if bt574.1 = 0 then ((spec_l6Rd_pick.f k s0_0 bt574.2 2).bind fun bt576 => (some (wrap64 (bt576.1 * 5), t567, wrap64 (t567 + bt571.1), bt576.2))) else (if bt574.1 = 1 then (some (wrap64 (1 + bt569.1), t567, wrap64 (t567 - 1), bt574.2)) else (if bt574.1 = 2 then ((some (([999, 1000] : List Int) : List Int)).bind fun y578 => ((spec_l6Rd_pick.f k s0_0 bt574.2 2).bind fun bt581 => (if 0 ≤ bt581.1 then (if bt581.1 < (y578.length : Int) then (some (wrap64 (1 + bt569.1), t567, rd y578 bt581.1, bt581.2)) else (none)) else (none)))) else (some (wrap64 (1 + bt569.1), t567, wrap64 (t567 + bt571.1), bt574.2)))))))) = some (r1, r2, r3, r4) := H
 have A2 := Ae_q A20
 clear A20
 replace H := oB_q.mp H
 obtain ⟨⟨t569, t570⟩, A30, H⟩ := H
 replace H : ((spec_l6Rd_pick.f k s0_0 t570 14).bind fun bt571 => ((spec_l6Rd_pick.f k s0_0 bt571.2 24).bind fun bt574 => (if bt574.1 = 0 then ((spec_l6Rd_pick.f k s0_0 bt574.2 2).bind fun bt576 => (some (wrap64 (bt576.1 * 5), t567, wrap64 (t567 + bt571.1), bt576.2))) else (if bt574.1 = 1 then (some (wrap64 (1 + t569), t567, wrap64 (t567 - 1), bt574.2)) else (if bt574.1 = 2 then ((some (([999, 1000] : List Int) : List Int)).bind fun y578 => ((spec_l6Rd_pick.f k s0_0 bt574.2 2).bind fun bt581 => (if 0 ≤ bt581.1 then (if bt581.1 < (y578.length : Int) then (some (wrap64 (1 + t569), t567, rd y578 bt581.1, bt581.2)) else (none)) else (none)))) else (some (wrap64 (1 + t569), t567, wrap64 (t567 + bt571.1), bt574.2))))))) = some (r1, r2, r3, r4) := H
 have A3 := Ae_q A30
 clear A30
 replace H := oB_q.mp H
 obtain ⟨⟨t571, t572⟩, A40, H⟩ := H
 replace H : ((spec_l6Rd_pick.f k s0_0 t572 24).bind fun bt574 => (if bt574.1 = 0 then ((spec_l6Rd_pick.f k s0_0 bt574.2 2).bind fun bt576 => (some (wrap64 (bt576.1 * 5), t567, wrap64 (t567 + t571), bt576.2))) else (if bt574.1 = 1 then (some (wrap64 (1 + t569), t567, wrap64 (t567 - 1), bt574.2)) else (if bt574.1 = 2 then ((some (([999, 1000] : List Int) : List Int)).bind fun y578 => ((spec_l6Rd_pick.f k s0_0 bt574.2 2).bind fun bt581 => (if 0 ≤ bt581.1 then (if bt581.1 < (y578.length : Int) then (some (wrap64 (1 + t569), t567, rd y578 bt581.1, bt581.2)) else (none)) else (none)))) else (some (wrap64 (1 + t569), t567, wrap64 (t567 + t571), bt574.2)))))) = some (r1, r2, r3, r4) := H
 have A4 := Ae_q A40
 clear A40
 replace H := oB_q.mp H
 obtain ⟨⟨t574, t575⟩, A50, H⟩ := H
 replace H : (if t574 = 0 then ((spec_l6Rd_pick.f k s0_0 t575 2).bind fun bt576 => (some (wrap64 (bt576.1 * 5), t567, wrap64 (t567 + t571), bt576.2))) else (if t574 = 1 then (some (wrap64 (1 + t569), t567, wrap64 (t567 - 1), t575)) else (if t574 = 2 then ((some (([999, 1000] : List Int) : List Int)).bind fun y578 => ((spec_l6Rd_pick.f k s0_0 t575 2).bind fun bt581 => (if 0 ≤ bt581.1 then (if bt581.1 < (y578.length : Int) then (some (wrap64 (1 + t569), t567, rd y578 bt581.1, bt581.2)) else (none)) else (none)))) else (some (wrap64 (1 + t569), t567, wrap64 (t567 + t571), t575))))) = some (r1, r2, r3, r4) := H
 have A5 := Ae_q A50
 clear A50
 by_cases c6 : t574 = 0
 ·rw [if_pos c6] at H
  have c6b0 : (t574 == 0) = true := beq_iff_eq.mpr c6
  have c6b1 : (t574 != 0) = false := nE_q.mpr c6
  clear c6
  replace H := oB_q.mp H
  obtain ⟨⟨t576, t577⟩, A70, H⟩ := H
  replace H : (some (wrap64 (t576 * 5), t567, wrap64 (t567 + t571), t577)) = some (r1, r2, r3, r4) := H
  have A7 := Ae_q A70
  clear A70
  simp only [oE_q, pE_q] at H
  obtain ⟨rfl, rfl, rfl, rfl⟩ := H
  go_enter Try.func54, Try.ntmps54
  go_wp2_with (first | ((with_reducible refine gD_q (N := 2) rfl ?_); refine bE_q ?hg (N := 2) ?hd (cs := #[.int .i64 0, .int .i64 0, .int .i64 0]) (t := 31) ?hr ?_; (case hd => rfl); (case hg => rfl); (case hr => exact m5_q); intro gb566 hg w' hbox hb; replace HB := Ae_q (bT_q m9_q hb); have BK566 := Ae_q (hbox); have GW566 := Ae_q ((by rw [hg]; exact (keep_size (w := w) (g := g) (row := none) m4_q) : w.heap.size ≤ gb566)); have GE566 := Ae_q ((nT_q HW0.out (by rw [hg]; exact (keep_size (w := w) (g := g) (row := none) m4_q) : w.heap.size ≤ gb566) : w0.heap.size ≤ gb566)); replace HK := Ae_q (kT_q m4_q (kO_q hb g none) (.inl rfl)); have NB0_566 := Ae_q ((by rw [hg]; exact nL_q (i6_q (show IsS83 w0 _ g s0_0 s0_1 from by repeat (with_reducible first | exact HI0.out | apply i2_q | apply i1_q | apply i0_q | apply i3_q))) : g ≠ gb566)); have NB566_0 := Ae_q ((by rw [hg]; exact nG_q (i6_q (show IsS83 w0 _ g s0_0 s0_1 from by repeat (with_reducible first | exact HI0.out | apply i2_q | apply i1_q | apply i0_q | apply i3_q))) : gb566 ≠ g)); replace HI0 := Ae_q (i7_q m11_q hb); clear hb hbox hg) | ((with_reducible refine gC_q (f := 70) rfl ?_); (first | (refine gL_q (some 6) rfl rfl Try.func70 m8_q rfl #[.pointer (some ⟨g, 0, none⟩), .int .i64 30] rfl m0_q ?_; (with_reducible refine (spec_l6Rd_pick.calls k g s0_0 s0_1 30 t567 t568 w0 _ ?side1 ?side2 A2.out).mono ?_); (case side1 => exact m44_q); (case side2 => exact m40_q); rintro e w9 ⟨rfl, hi, hb, hk⟩) | ((first | (refine gL_q (some 8) rfl rfl Try.func70 m8_q rfl #[.pointer (some ⟨g, 0, none⟩), .int .i64 3] rfl m0_q ?_; (with_reducible refine (spec_l6Rd_pick.calls k g s0_0 t568 3 t569 t570 w0 _ ?side1 ?side2 A3.out).mono ?_)) | (refine gL_q (some 13) rfl rfl Try.func70 m8_q rfl #[.pointer (some ⟨g, 0, none⟩), .int .i64 14] rfl m0_q ?_; (with_reducible refine (spec_l6Rd_pick.calls k g s0_0 t570 14 t571 t572 w0 _ ?side1 ?side2 A4.out).mono ?_))); (case side1 => exact m44_q); (case side2 => exact m40_q); rintro e w' ⟨rfl, hi, hb, hk⟩)); refine ⟨_, rfl, ?_⟩; replace BK566 := Ae_q (kB_q hk (g' := gb566) (o := .cells #[.int .i64 0, .int .i64 0, .int .i64 0] 31 (0, 0)) (bup BK566.out) NB566_0.out (by simp)); replace HK := Ae_q (kT_q m22_q hk (.inl rfl)); replace HB := Ae_q (hb); replace HI0 := Ae_q (hi); (try clear hb); (try clear hb2); (try clear hk); (try clear hi)) | ((with_reducible refine gC_q (f := 70) rfl ?_); (first | (refine gL_q (some 17) rfl rfl Try.func70 m8_q rfl #[.pointer (some ⟨g, 0, none⟩), .int .i64 24] rfl m0_q ?_; (with_reducible refine (spec_l6Rd_pick.calls k g s0_0 t572 24 t574 t575 w0 _ ?side1 ?side2 A5.out).mono ?_); (case side1 => exact m32_q); (case side2 => exact m28_q); rintro e w16 ⟨rfl, hi, hb, hk⟩; refine ⟨_, rfl, ?_⟩; replace BK566 := Ae_q (kB_q hk (g' := gb566) (o := .cells #[.int .i64 0, .int .i64 0, .int .i64 0] 31 (0, 0)) m27_q NB566_0.out (by simp)); replace BK573 := Ae_q (kB_q hk (g' := gb573) (o := .cells #[.int .i64 (wrap64 (1 + t569)), .int .i64 t567, .int .i64 (wrap64 (t567 + t571))] 31 (0, 0)) m19_q NB573_0.out (by simp)); replace HK := Ae_q (kT_q m29_q hk (.inl rfl)); replace HB := Ae_q (hb); replace HI0 := Ae_q (hi); (try clear hb); (try clear hb2); (try clear hk); (try clear hi)) | (refine gL_q (some 21) rfl rfl Try.func70 m8_q rfl #[.pointer (some ⟨g, 0, none⟩), .int .i64 2] rfl m0_q ?_; (with_reducible refine (spec_l6Rd_pick.calls k g s0_0 t575 2 t576 t577 w0 _ ?side1 ?side2 A7.out).mono ?_); (case side1 => exact m32_q); (case side2 => exact m28_q); rintro e w17 ⟨rfl, hi, hb, hk⟩; refine ⟨_, rfl, ?_⟩; replace BK566 := Ae_q (kB_q hk (g' := gb566) (o := .cells #[.int .i64 0, .int .i64 0, .int .i64 0] 31 (0, 0)) (bup BK566.out) NB566_0.out (by simp)); replace BK573 := Ae_q (kB_q hk (g' := gb573) (o := .cells #[.int .i64 (wrap64 (1 + t569)), .int .i64 t567, .int .i64 (wrap64 (t567 + t571))] 31 (0, 0)) (bup BK573.out) NB573_0.out (by simp)); replace HK := Ae_q (kT_q m29_q hk (.inl rfl)); replace HB := Ae_q (hb); replace HI0 := Ae_q (hi); (try clear hb); (try clear hb2); (try clear hk); (try clear hi); have hcz18_0 : cI w17 gb573 0 (wrap64 (1 + t569)) := cZ BK573 0 rfl; have hcz18_1 : cI w17 gb573 1 t567 := cZ BK573 1 rfl; have hcz18_2 : cI w17 gb573 2 (wrap64 (t567 + t571)) := cZ BK573 2 rfl; have hfz18_0 := bF_q BK573.out 0; have hfz18_1 := bF_q BK573.out 1; have hfz18_2 := bF_q BK573.out 2; have hnb19 := NB566_0.out; have hnc19 := NB0_566.out; have hcz20_0 : cI w17 gb566 0 0 := cZ BK566 0 rfl; have hcz20_1 : cI w17 gb566 1 0 := cZ BK566 1 rfl; have hcz20_2 : cI w17 gb566 2 0 := cZ BK566 2 rfl; have hfz20_0 := bF_q BK566.out 0; have hfz20_1 := bF_q BK566.out 1; have hfz20_2 := bF_q BK566.out 2))) | ((with_reducible refine gD_q (N := 4) rfl ?_); refine bE_q ?hg (N := 4) ?hd (cs := #[.int .i64 0, .int .i64 0, .int .i64 0]) (t := 31) ?hr ?_; (case hd => rfl); (case hg => rfl); (case hr => exact m5_q); intro gb573 hg w12 hbox hb; replace HB := Ae_q (bT_q m40_q hb); have BK573 := Ae_q (hbox); have GW573 := Ae_q ((by rw [hg]; exact (keep_size (w := w) (g := g) (row := none) m22_q) : w.heap.size ≤ gb573)); have GE573 := Ae_q ((nT_q HW0.out (by rw [hg]; exact (keep_size (w := w) (g := g) (row := none) m22_q) : w.heap.size ≤ gb573) : w0.heap.size ≤ gb573)); replace HK := Ae_q (kT_q m22_q (kO_q hb g none) (.inl rfl)); have NB566_573 := Ae_q ((by rw [hg]; exact nL_q (blk_lt (g := gb566) (o := .cells #[.int .i64 0, .int .i64 0, .int .i64 0] 31 (0, 0)) (bup BK566.out)) : gb566 ≠ gb573)); have NB573_566 := Ae_q ((by rw [hg]; exact nG_q (blk_lt (g := gb566) (o := .cells #[.int .i64 0, .int .i64 0, .int .i64 0] 31 (0, 0)) (bup BK566.out)) : gb573 ≠ gb566)); replace BK566 := Ae_q (bB_q (g := gb566) (o := .cells #[.int .i64 0, .int .i64 0, .int .i64 0] 31 (0, 0)) (bup BK566.out) hb); have NB0_573 := Ae_q ((by rw [hg]; exact nL_q (i6_q (show IsS83 w0 _ g s0_0 t572 from by repeat (with_reducible first | exact HI0.out | apply i2_q | apply i1_q | apply i0_q | apply i3_q | refine i4_q ?_ NB0_566.out _))) : g ≠ gb573)); have NB573_0 := Ae_q ((by rw [hg]; exact nG_q (i6_q (show IsS83 w0 _ g s0_0 t572 from by repeat (with_reducible first | exact HI0.out | apply i2_q | apply i1_q | apply i0_q | apply i3_q | refine i4_q ?_ NB0_566.out _))) : gb573 ≠ g)); replace HI0 := Ae_q (i7_q m44_q hb); clear hb hbox hg; have hnb13 := NB573_566.out; have hnc13 := NB566_573.out; have hnb14 := NB573_0.out; have hnc14 := NB0_573.out; have hcz15_0 : cI w12 gb573 0 0 := cZ BK573 0 rfl; have hcz15_1 : cI w12 gb573 1 0 := cZ BK573 1 rfl; have hcz15_2 : cI w12 gb573 2 0 := cZ BK573 2 rfl; have hfz15_0 := bF_q BK573.out 0; have hfz15_1 := bF_q BK573.out 1; have hfz15_2 := bF_q BK573.out 2))
  refine bodyPost_ret (results_cell_row rfl _ _ gb566 31 #[.int .i64 (wrap64 (t576 * 5)), .int .i64 t567, .int .i64 (wrap64 (t567 + t571))] (0, 0) _ rfl (by (with_reducible repeat (first | refine bN_q ?_ _ | refine bW_q ?_ | refine bL_q ?_ _)); refine blk_put (cs := #[.int .i64 (wrap64 (t576 * 5)), .int .i64 t567, .int .i64 0]) ?_ 2 _ rfl; (with_reducible repeat (first | refine bN_q ?_ _ | refine bW_q ?_ | refine bL_q ?_ _)); refine blk_put (cs := #[.int .i64 (wrap64 (t576 * 5)), .int .i64 0, .int .i64 0]) ?_ 1 _ rfl; (with_reducible repeat (first | refine bN_q ?_ _ | refine bW_q ?_ | refine bL_q ?_ _)); refine blk_put (cs := #[.int .i64 0, .int .i64 0, .int .i64 0]) ?_ 0 _ rfl; (with_reducible repeat (first | refine bN_q ?_ _ | refine bW_q ?_ | refine bL_q ?_ _)); refine blk_far ?_ NB566_573.out _; (with_reducible repeat (first | refine bN_q ?_ _ | refine bW_q ?_ | refine bL_q ?_ _)); exact BK566.out) Try.underlying31 rfl m8_q) rfl ?_
  exact ⟨m6_q, m32_q, m28_q, m29_q⟩
 rw [if_neg c6] at H
 have c6b0 : (t574 == 0) = false := fN_q.mpr c6
 have c6b1 : (t574 != 0) = true := nI_q.mpr c6
 by_cases c21 : t574 = 1
 ·rw [if_pos c21] at H
  have c21b0 : (t574 == 1) = true := beq_iff_eq.mpr c21
  have c21b1 : (t574 != 1) = false := nE_q.mpr c21
  clear c21
  simp only [oE_q, pE_q] at H
  obtain ⟨rfl, rfl, rfl, rfl⟩ := H
  go_enter Try.func54, Try.ntmps54
  go_wp2_with (first | ((with_reducible refine gD_q (N := 2) rfl ?_); refine bE_q ?hg (N := 2) ?hd (cs := #[.int .i64 0, .int .i64 0, .int .i64 0]) (t := 31) ?hr ?_; (case hd => rfl); (case hg => rfl); (case hr => exact m5_q); intro gb566 hg w' hbox hb; replace HB := Ae_q (bT_q m9_q hb); have BK566 := Ae_q (hbox); have GW566 := Ae_q ((by rw [hg]; exact (keep_size (w := w) (g := g) (row := none) m4_q) : w.heap.size ≤ gb566)); have GE566 := Ae_q ((nT_q HW0.out (by rw [hg]; exact (keep_size (w := w) (g := g) (row := none) m4_q) : w.heap.size ≤ gb566) : w0.heap.size ≤ gb566)); replace HK := Ae_q (kT_q m4_q (kO_q hb g none) (.inl rfl)); have NB0_566 := Ae_q ((by rw [hg]; exact nL_q (i6_q (show IsS83 w0 _ g s0_0 s0_1 from by repeat (with_reducible first | exact HI0.out | apply i2_q | apply i1_q | apply i0_q | apply i3_q))) : g ≠ gb566)); have NB566_0 := Ae_q ((by rw [hg]; exact nG_q (i6_q (show IsS83 w0 _ g s0_0 s0_1 from by repeat (with_reducible first | exact HI0.out | apply i2_q | apply i1_q | apply i0_q | apply i3_q))) : gb566 ≠ g)); replace HI0 := Ae_q (i7_q m11_q hb); clear hb hbox hg) | ((with_reducible refine gC_q (f := 70) rfl ?_); (first | (refine gL_q (some 6) rfl rfl Try.func70 m8_q rfl #[.pointer (some ⟨g, 0, none⟩), .int .i64 30] rfl m0_q ?_; (with_reducible refine (spec_l6Rd_pick.calls k g s0_0 s0_1 30 t567 t568 w0 _ ?side1 ?side2 A2.out).mono ?_); (case side1 => exact m44_q); (case side2 => exact m40_q); rintro e w23 ⟨rfl, hi, hb, hk⟩) | ((first | (refine gL_q (some 8) rfl rfl Try.func70 m8_q rfl #[.pointer (some ⟨g, 0, none⟩), .int .i64 3] rfl m0_q ?_; (with_reducible refine (spec_l6Rd_pick.calls k g s0_0 t568 3 t569 t570 w0 _ ?side1 ?side2 A3.out).mono ?_)) | (refine gL_q (some 13) rfl rfl Try.func70 m8_q rfl #[.pointer (some ⟨g, 0, none⟩), .int .i64 14] rfl m0_q ?_; (with_reducible refine (spec_l6Rd_pick.calls k g s0_0 t570 14 t571 t572 w0 _ ?side1 ?side2 A4.out).mono ?_))); (case side1 => exact m44_q); (case side2 => exact m40_q); rintro e w' ⟨rfl, hi, hb, hk⟩)); refine ⟨_, rfl, ?_⟩; replace BK566 := Ae_q (kB_q hk (g' := gb566) (o := .cells #[.int .i64 0, .int .i64 0, .int .i64 0] 31 (0, 0)) (bup BK566.out) NB566_0.out (by simp)); replace HK := Ae_q (kT_q m22_q hk (.inl rfl)); replace HB := Ae_q (hb); replace HI0 := Ae_q (hi); (try clear hb); (try clear hb2); (try clear hk); (try clear hi)) | ((with_reducible refine gC_q (f := 70) rfl ?_); refine gL_q (some 17) rfl rfl Try.func70 m8_q rfl #[.pointer (some ⟨g, 0, none⟩), .int .i64 24] rfl m0_q ?_; (with_reducible refine (spec_l6Rd_pick.calls k g s0_0 t572 24 t574 t575 w0 _ ?side1 ?side2 A5.out).mono ?_); (case side1 => exact m32_q); (case side2 => exact m28_q); rintro e w30 ⟨rfl, hi, hb, hk⟩; refine ⟨_, rfl, ?_⟩; replace BK566 := Ae_q (kB_q hk (g' := gb566) (o := .cells #[.int .i64 0, .int .i64 0, .int .i64 0] 31 (0, 0)) m27_q NB566_0.out (by simp)); replace BK573 := Ae_q (kB_q hk (g' := gb573) (o := .cells #[.int .i64 (wrap64 (1 + t569)), .int .i64 t567, .int .i64 (wrap64 (t567 + t571))] 31 (0, 0)) m19_q NB573_0.out (by simp)); replace HK := Ae_q (kT_q m29_q hk (.inl rfl)); replace HB := Ae_q (hb); replace HI0 := Ae_q (hi); (try clear hb); (try clear hb2); (try clear hk); (try clear hi); have hcz31_0 : cI w30 gb573 0 (wrap64 (1 + t569)) := cZ BK573 0 rfl; have hcz31_1 : cI w30 gb573 1 t567 := cZ BK573 1 rfl; have hcz31_2 : cI w30 gb573 2 (wrap64 (t567 + t571)) := cZ BK573 2 rfl; have hfz31_0 := bF_q BK573.out 0; have hfz31_1 := bF_q BK573.out 1; have hfz31_2 := bF_q BK573.out 2; have hnb32 := NB566_0.out; have hnc32 := NB0_566.out; have hcz33_0 : cI w30 gb566 0 0 := cZ BK566 0 rfl; have hcz33_1 : cI w30 gb566 1 0 := cZ BK566 1 rfl; have hcz33_2 : cI w30 gb566 2 0 := cZ BK566 2 rfl; have hfz33_0 := bF_q BK566.out 0; have hfz33_1 := bF_q BK566.out 1; have hfz33_2 := bF_q BK566.out 2) | ((with_reducible refine gD_q (N := 4) rfl ?_); refine bE_q ?hg (N := 4) ?hd (cs := #[.int .i64 0, .int .i64 0, .int .i64 0]) (t := 31) ?hr ?_; (case hd => rfl); (case hg => rfl); (case hr => exact m5_q); intro gb573 hg w26 hbox hb; replace HB := Ae_q (bT_q m40_q hb); have BK573 := Ae_q (hbox); have GW573 := Ae_q ((by rw [hg]; exact (keep_size (w := w) (g := g) (row := none) m22_q) : w.heap.size ≤ gb573)); have GE573 := Ae_q ((nT_q HW0.out (by rw [hg]; exact (keep_size (w := w) (g := g) (row := none) m22_q) : w.heap.size ≤ gb573) : w0.heap.size ≤ gb573)); replace HK := Ae_q (kT_q m22_q (kO_q hb g none) (.inl rfl)); have NB566_573 := Ae_q ((by rw [hg]; exact nL_q (blk_lt (g := gb566) (o := .cells #[.int .i64 0, .int .i64 0, .int .i64 0] 31 (0, 0)) (bup BK566.out)) : gb566 ≠ gb573)); have NB573_566 := Ae_q ((by rw [hg]; exact nG_q (blk_lt (g := gb566) (o := .cells #[.int .i64 0, .int .i64 0, .int .i64 0] 31 (0, 0)) (bup BK566.out)) : gb573 ≠ gb566)); replace BK566 := Ae_q (bB_q (g := gb566) (o := .cells #[.int .i64 0, .int .i64 0, .int .i64 0] 31 (0, 0)) (bup BK566.out) hb); have NB0_573 := Ae_q ((by rw [hg]; exact nL_q (i6_q (show IsS83 w0 _ g s0_0 t572 from by repeat (with_reducible first | exact HI0.out | apply i2_q | apply i1_q | apply i0_q | apply i3_q | refine i4_q ?_ NB0_566.out _))) : g ≠ gb573)); have NB573_0 := Ae_q ((by rw [hg]; exact nG_q (i6_q (show IsS83 w0 _ g s0_0 t572 from by repeat (with_reducible first | exact HI0.out | apply i2_q | apply i1_q | apply i0_q | apply i3_q | refine i4_q ?_ NB0_566.out _))) : gb573 ≠ g)); replace HI0 := Ae_q (i7_q m44_q hb); clear hb hbox hg; have hnb27 := NB573_566.out; have hnc27 := NB566_573.out; have hnb28 := NB573_0.out; have hnc28 := NB0_573.out; have hcz29_0 : cI w26 gb573 0 0 := cZ BK573 0 rfl; have hcz29_1 : cI w26 gb573 1 0 := cZ BK573 1 rfl; have hcz29_2 : cI w26 gb573 2 0 := cZ BK573 2 rfl; have hfz29_0 := bF_q BK573.out 0; have hfz29_1 := bF_q BK573.out 1; have hfz29_2 := bF_q BK573.out 2))
  refine bodyPost_ret (results_cell_row rfl _ _ gb566 31 #[.int .i64 (wrap64 (1 + t569)), .int .i64 t567, .int .i64 (wrap64 (t567 - 1))] (0, 0) _ rfl m37_q Try.underlying31 rfl m8_q) rfl ?_
  exact ⟨m6_q, m32_q, m28_q, m29_q⟩
 rw [if_neg c21] at H
 have c21b0 : (t574 == 1) = false := fN_q.mpr c21
 have c21b1 : (t574 != 1) = true := nI_q.mpr c21
 by_cases c34 : t574 = 2
 rotate_left
 ·rw [if_neg c34] at H
  have c34b0 : (t574 == 2) = false := fN_q.mpr c34
  have c34b1 : (t574 != 2) = true := nI_q.mpr c34
  simp only [oE_q, pE_q] at H
  obtain ⟨rfl, rfl, rfl, rfl⟩ := H
  go_enter Try.func54, Try.ntmps54
  go_wp2_with (first | ((with_reducible refine gD_q (N := 2) rfl ?_); refine bE_q ?hg (N := 2) ?hd (cs := #[.int .i64 0, .int .i64 0, .int .i64 0]) (t := 31) ?hr ?_; (case hd => rfl); (case hg => rfl); (case hr => exact m5_q); intro gb566 hg w' hbox hb; replace HB := Ae_q (bT_q m9_q hb); have BK566 := Ae_q (hbox); have GW566 := Ae_q ((by rw [hg]; exact (keep_size (w := w) (g := g) (row := none) m4_q) : w.heap.size ≤ gb566)); have GE566 := Ae_q ((nT_q HW0.out (by rw [hg]; exact (keep_size (w := w) (g := g) (row := none) m4_q) : w.heap.size ≤ gb566) : w0.heap.size ≤ gb566)); replace HK := Ae_q (kT_q m4_q (kO_q hb g none) (.inl rfl)); have NB0_566 := Ae_q ((by rw [hg]; exact nL_q (i6_q (show IsS83 w0 _ g s0_0 s0_1 from by repeat (with_reducible first | exact HI0.out | apply i2_q | apply i1_q | apply i0_q | apply i3_q))) : g ≠ gb566)); have NB566_0 := Ae_q ((by rw [hg]; exact nG_q (i6_q (show IsS83 w0 _ g s0_0 s0_1 from by repeat (with_reducible first | exact HI0.out | apply i2_q | apply i1_q | apply i0_q | apply i3_q))) : gb566 ≠ g)); replace HI0 := Ae_q (i7_q m11_q hb); clear hb hbox hg) | ((with_reducible refine gC_q (f := 70) rfl ?_); (first | (refine gL_q (some 6) rfl rfl Try.func70 m8_q rfl #[.pointer (some ⟨g, 0, none⟩), .int .i64 30] rfl m0_q ?_; (with_reducible refine (spec_l6Rd_pick.calls k g s0_0 s0_1 30 t567 t568 w0 _ ?side1 ?side2 A2.out).mono ?_)) | (refine gL_q (some 8) rfl rfl Try.func70 m8_q rfl #[.pointer (some ⟨g, 0, none⟩), .int .i64 3] rfl m0_q ?_; (with_reducible refine (spec_l6Rd_pick.calls k g s0_0 t568 3 t569 t570 w0 _ ?side1 ?side2 A3.out).mono ?_)) | (refine gL_q (some 13) rfl rfl Try.func70 m8_q rfl #[.pointer (some ⟨g, 0, none⟩), .int .i64 14] rfl m0_q ?_; (with_reducible refine (spec_l6Rd_pick.calls k g s0_0 t570 14 t571 t572 w0 _ ?side1 ?side2 A4.out).mono ?_))); (case side1 => exact m44_q); (case side2 => exact m40_q); rintro e w' ⟨rfl, hi, hb, hk⟩; refine ⟨_, rfl, ?_⟩; replace BK566 := Ae_q (kB_q hk (g' := gb566) (o := .cells #[.int .i64 0, .int .i64 0, .int .i64 0] 31 (0, 0)) (bup BK566.out) NB566_0.out (by simp)); replace HK := Ae_q (kT_q m22_q hk (.inl rfl)); replace HB := Ae_q (hb); replace HI0 := Ae_q (hi); (try clear hb); (try clear hb2); (try clear hk); (try clear hi)) | ((with_reducible refine gC_q (f := 70) rfl ?_); refine gL_q (some 17) rfl rfl Try.func70 m8_q rfl #[.pointer (some ⟨g, 0, none⟩), .int .i64 24] rfl m0_q ?_; (with_reducible refine (spec_l6Rd_pick.calls k g s0_0 t572 24 t574 t575 w0 _ ?side1 ?side2 A5.out).mono ?_); (case side1 => exact m32_q); (case side2 => exact m28_q); rintro e w62 ⟨rfl, hi, hb, hk⟩; refine ⟨_, rfl, ?_⟩; replace BK566 := Ae_q (kB_q hk (g' := gb566) (o := .cells #[.int .i64 0, .int .i64 0, .int .i64 0] 31 (0, 0)) m27_q NB566_0.out (by simp)); replace BK573 := Ae_q (kB_q hk (g' := gb573) (o := .cells #[.int .i64 (wrap64 (1 + t569)), .int .i64 t567, .int .i64 (wrap64 (t567 + t571))] 31 (0, 0)) m19_q NB573_0.out (by simp)); replace HK := Ae_q (kT_q m29_q hk (.inl rfl)); replace HB := Ae_q (hb); replace HI0 := Ae_q (hi); (try clear hb); (try clear hb2); (try clear hk); (try clear hi); have hcz63_0 : cI w62 gb573 0 (wrap64 (1 + t569)) := cZ BK573 0 rfl; have hcz63_1 : cI w62 gb573 1 t567 := cZ BK573 1 rfl; have hcz63_2 : cI w62 gb573 2 (wrap64 (t567 + t571)) := cZ BK573 2 rfl; have hfz63_0 := bF_q BK573.out 0; have hfz63_1 := bF_q BK573.out 1; have hfz63_2 := bF_q BK573.out 2; have hnb64 := NB566_0.out; have hnc64 := NB0_566.out; have hcz65_0 : cI w62 gb566 0 0 := cZ BK566 0 rfl; have hcz65_1 : cI w62 gb566 1 0 := cZ BK566 1 rfl; have hcz65_2 : cI w62 gb566 2 0 := cZ BK566 2 rfl; have hfz65_0 := bF_q BK566.out 0; have hfz65_1 := bF_q BK566.out 1; have hfz65_2 := bF_q BK566.out 2) | ((with_reducible refine gD_q (N := 4) rfl ?_); refine bE_q ?hg (N := 4) ?hd (cs := #[.int .i64 0, .int .i64 0, .int .i64 0]) (t := 31) ?hr ?_; (case hd => rfl); (case hg => rfl); (case hr => exact m5_q); intro gb573 hg w58 hbox hb; replace HB := Ae_q (bT_q m40_q hb); have BK573 := Ae_q (hbox); have GW573 := Ae_q ((by rw [hg]; exact (keep_size (w := w) (g := g) (row := none) m22_q) : w.heap.size ≤ gb573)); have GE573 := Ae_q ((nT_q HW0.out (by rw [hg]; exact (keep_size (w := w) (g := g) (row := none) m22_q) : w.heap.size ≤ gb573) : w0.heap.size ≤ gb573)); replace HK := Ae_q (kT_q m22_q (kO_q hb g none) (.inl rfl)); have NB566_573 := Ae_q ((by rw [hg]; exact nL_q (blk_lt (g := gb566) (o := .cells #[.int .i64 0, .int .i64 0, .int .i64 0] 31 (0, 0)) (bup BK566.out)) : gb566 ≠ gb573)); have NB573_566 := Ae_q ((by rw [hg]; exact nG_q (blk_lt (g := gb566) (o := .cells #[.int .i64 0, .int .i64 0, .int .i64 0] 31 (0, 0)) (bup BK566.out)) : gb573 ≠ gb566)); replace BK566 := Ae_q (bB_q (g := gb566) (o := .cells #[.int .i64 0, .int .i64 0, .int .i64 0] 31 (0, 0)) (bup BK566.out) hb); have NB0_573 := Ae_q ((by rw [hg]; exact nL_q (i6_q (show IsS83 w0 _ g s0_0 t572 from by repeat (with_reducible first | exact HI0.out | apply i2_q | apply i1_q | apply i0_q | apply i3_q | refine i4_q ?_ NB0_566.out _))) : g ≠ gb573)); have NB573_0 := Ae_q ((by rw [hg]; exact nG_q (i6_q (show IsS83 w0 _ g s0_0 t572 from by repeat (with_reducible first | exact HI0.out | apply i2_q | apply i1_q | apply i0_q | apply i3_q | refine i4_q ?_ NB0_566.out _))) : gb573 ≠ g)); replace HI0 := Ae_q (i7_q m44_q hb); clear hb hbox hg; have hnb59 := NB573_566.out; have hnc59 := NB566_573.out; have hnb60 := NB573_0.out; have hnc60 := NB0_573.out; have hcz61_0 : cI w58 gb573 0 0 := cZ BK573 0 rfl; have hcz61_1 : cI w58 gb573 1 0 := cZ BK573 1 rfl; have hcz61_2 : cI w58 gb573 2 0 := cZ BK573 2 rfl; have hfz61_0 := bF_q BK573.out 0; have hfz61_1 := bF_q BK573.out 1; have hfz61_2 := bF_q BK573.out 2))
  refine bodyPost_ret (results_cell_row rfl _ _ gb566 31 #[.int .i64 (wrap64 (1 + t569)), .int .i64 t567, .int .i64 (wrap64 (t567 + t571))] (0, 0) _ rfl (by (with_reducible repeat (first | refine bN_q ?_ _ | refine bW_q ?_ | refine bL_q ?_ _)); refine blk_put (cs := #[.int .i64 (wrap64 (1 + t569)), .int .i64 t567, .int .i64 0]) ?_ 2 _ rfl; (with_reducible repeat (first | refine bN_q ?_ _ | refine bW_q ?_ | refine bL_q ?_ _)); refine blk_put (cs := #[.int .i64 (wrap64 (1 + t569)), .int .i64 0, .int .i64 0]) ?_ 1 _ rfl; (with_reducible repeat (first | refine bN_q ?_ _ | refine bW_q ?_ | refine bL_q ?_ _)); refine blk_put (cs := #[.int .i64 0, .int .i64 0, .int .i64 0]) ?_ 0 _ rfl; (with_reducible repeat (first | refine bN_q ?_ _ | refine bW_q ?_ | refine bL_q ?_ _)); exact BK566.out) Try.underlying31 rfl m8_q) rfl ?_
  exact ⟨m6_q, m32_q, m28_q, m29_q⟩
 rw [if_pos c34] at H
 have c34b0 : (t574 == 2) = true := beq_iff_eq.mpr c34
 have c34b1 : (t574 != 2) = false := nE_q.mpr c34
 clear c34
 obtain ⟨y578, hy578⟩ : ∃ y_ : List Int, y_ = (([999, 1000] : List Int)) := ⟨_, rfl⟩
 replace H : ((spec_l6Rd_pick.f k s0_0 t575 2).bind fun bt581 => (if 0 ≤ bt581.1 then (if bt581.1 < (y578.length : Int) then (some (wrap64 (1 + t569), t567, rd y578 bt581.1, bt581.2)) else (none)) else (none))) = some (r1, r2, r3, r4) := by first | (rw [hy578]; with_reducible exact H) | (have H2_ := (oS_q _ _).symm.trans H; rw [hy578]; with_reducible exact H2_) | (have H2_ := (oS_q _ _).symm.trans H; with_reducible exact H2_) | with_reducible exact H | (rw [hy578]; exact H) | exact H
 have Ny578 := Ae_q hy578
 clear hy578
 replace H := oB_q.mp H
 obtain ⟨⟨t581, t582⟩, A350, H⟩ := H
 replace H : (if 0 ≤ t581 then (if t581 < (y578.length : Int) then (some (wrap64 (1 + t569), t567, rd y578 t581, t582)) else (none)) else (none)) = some (r1, r2, r3, r4) := H
 have A35 := Ae_q A350
 clear A350
 by_cases c36 : 0 ≤ t581
 rotate_left
 ·rw [if_neg c36] at H
  exact absurd H (by simp)
 rw [if_pos c36] at H
 have c36b0 : decide (0 ≤ t581) = true := dT_q c36
 clear c36
 by_cases c37 : t581 < (y578.length : Int)
 rotate_left
 ·rw [if_neg c37] at H
  exact absurd H (by simp)
 rw [if_pos c37] at H
 have c37b0 : decide (t581 < (y578.length : Int)) = true := dT_q c37
 clear c37
 simp only [oE_q, pE_q] at H
 obtain ⟨rfl, rfl, rfl, rfl⟩ := H
 go_enter Try.func54, Try.ntmps54
 go_wp2_with (first | ((with_reducible refine gD_q (N := 2) rfl ?_); refine bE_q ?hg (N := 2) ?hd (cs := #[.int .i64 0, .int .i64 0, .int .i64 0]) (t := 31) ?hr ?_; (case hd => rfl); (case hg => rfl); (case hr => exact m5_q); intro gb566 hg w' hbox hb; replace HB := Ae_q (bT_q m9_q hb); have BK566 := Ae_q (hbox); have GW566 := Ae_q ((by rw [hg]; exact (keep_size (w := w) (g := g) (row := none) m4_q) : w.heap.size ≤ gb566)); have GE566 := Ae_q ((nT_q HW0.out (by rw [hg]; exact (keep_size (w := w) (g := g) (row := none) m4_q) : w.heap.size ≤ gb566) : w0.heap.size ≤ gb566)); replace HK := Ae_q (kT_q m4_q (kO_q hb g none) (.inl rfl)); have NB0_566 := Ae_q ((by rw [hg]; exact nL_q (i6_q (show IsS83 w0 _ g s0_0 s0_1 from by repeat (with_reducible first | exact HI0.out | apply i2_q | apply i1_q | apply i0_q | apply i3_q))) : g ≠ gb566)); have NB566_0 := Ae_q ((by rw [hg]; exact nG_q (i6_q (show IsS83 w0 _ g s0_0 s0_1 from by repeat (with_reducible first | exact HI0.out | apply i2_q | apply i1_q | apply i0_q | apply i3_q))) : gb566 ≠ g)); replace HI0 := Ae_q (i7_q m11_q hb); clear hb hbox hg) | ((with_reducible refine gC_q (f := 70) rfl ?_); (first | (refine gL_q (some 6) rfl rfl Try.func70 m8_q rfl #[.pointer (some ⟨g, 0, none⟩), .int .i64 30] rfl m0_q ?_; (with_reducible refine (spec_l6Rd_pick.calls k g s0_0 s0_1 30 t567 t568 w0 _ ?side1 ?side2 A2.out).mono ?_)) | (refine gL_q (some 8) rfl rfl Try.func70 m8_q rfl #[.pointer (some ⟨g, 0, none⟩), .int .i64 3] rfl m0_q ?_; (with_reducible refine (spec_l6Rd_pick.calls k g s0_0 t568 3 t569 t570 w0 _ ?side1 ?side2 A3.out).mono ?_)) | (refine gL_q (some 13) rfl rfl Try.func70 m8_q rfl #[.pointer (some ⟨g, 0, none⟩), .int .i64 14] rfl m0_q ?_; (with_reducible refine (spec_l6Rd_pick.calls k g s0_0 t570 14 t571 t572 w0 _ ?side1 ?side2 A4.out).mono ?_))); (case side1 => exact m44_q); (case side2 => exact m40_q); rintro e w' ⟨rfl, hi, hb, hk⟩; refine ⟨_, rfl, ?_⟩; replace BK566 := Ae_q (kB_q hk (g' := gb566) (o := .cells #[.int .i64 0, .int .i64 0, .int .i64 0] 31 (0, 0)) (bup BK566.out) NB566_0.out (by simp)); replace HK := Ae_q (kT_q m22_q hk (.inl rfl)); replace HB := Ae_q (hb); replace HI0 := Ae_q (hi); (try clear hb); (try clear hb2); (try clear hk); (try clear hi)) | ((with_reducible refine gC_q (f := 70) rfl ?_); (first | (refine gL_q (some 17) rfl rfl Try.func70 m8_q rfl #[.pointer (some ⟨g, 0, none⟩), .int .i64 24] rfl m0_q ?_; (with_reducible refine (spec_l6Rd_pick.calls k g s0_0 t572 24 t574 t575 w0 _ ?side1 ?side2 A5.out).mono ?_); (case side1 => exact m32_q); (case side2 => exact m28_q); rintro e w' ⟨rfl, hi, hb, hk⟩; refine ⟨_, rfl, ?_⟩; replace BK566 := Ae_q (kB_q hk (g' := gb566) (o := .cells #[.int .i64 0, .int .i64 0, .int .i64 0] 31 (0, 0)) m27_q NB566_0.out (by simp)); replace BK573 := Ae_q (kB_q hk (g' := gb573) (o := .cells #[.int .i64 (wrap64 (1 + t569)), .int .i64 t567, .int .i64 (wrap64 (t567 + t571))] 31 (0, 0)) m19_q NB573_0.out (by simp)); replace HK := Ae_q (kT_q m29_q hk (.inl rfl)); replace HB := Ae_q (hb); replace HI0 := Ae_q (hi); (try clear hb); (try clear hb2); (try clear hk); (try clear hi)) | (refine gL_q (some 34) rfl rfl Try.func70 m8_q rfl #[.pointer (some ⟨g, 0, none⟩), .int .i64 2] rfl m0_q ?_; (with_reducible refine (spec_l6Rd_pick.calls k g s0_0 t575 2 t581 t582 w0 _ ?side1 ?side2 A35.out).mono ?_); (case side1 => exact m32_q); (case side2 => exact m28_q); rintro e w49 ⟨rfl, hi, hb, hk⟩; refine ⟨_, rfl, ?_⟩; replace BK566 := Ae_q (kB_q hk (g' := gb566) (o := .cells #[.int .i64 0, .int .i64 0, .int .i64 0] 31 (0, 0)) (bup BK566.out) NB566_0.out (by simp)); replace BK573 := Ae_q (kB_q hk (g' := gb573) (o := .cells #[.int .i64 (wrap64 (1 + t569)), .int .i64 t567, .int .i64 (wrap64 (t567 + t571))] 31 (0, 0)) (bup BK573.out) NB573_0.out (by simp)); replace HO580 := Ae_q (rM_q (rK_q (IsS83.apart (show IsS83 w0 _ g s0_0 t575 from by repeat (with_reducible first | exact HI0.out | apply i2_q | apply i1_q | apply i0_q | apply i3_q | refine i4_q ?_ NB0_566.out _ | refine i4_q ?_ NB0_573.out _)) (rup HO580.out) (by decide)) hk (fun _ h => h.2)) (fun _ h => h.1)); replace HK := Ae_q (kT_q m29_q hk (.inl rfl)); replace HB := Ae_q (hb); replace HI0 := Ae_q (hi); (try clear hb); (try clear hb2); (try clear hk); (try clear hi); obtain ⟨Ao50, co50, eo50⟩ := rS_q HO580.out; subst eo50; have p583 : 0 ≤ (t581 : Int) := oD_q (by assumption); have q583 : t581 < (y578.length : Int) := oD_q (by assumption); obtain ⟨ad583, e583, hx583_0⟩ := aI_q (rR_q HO580.out).2.2 t581 p583 q583; cases e583; replace p583 := eq_true p583; replace q583 := eq_true q583; have hcz51_0 : cI w49 gb573 0 (wrap64 (1 + t569)) := cZ BK573 0 rfl; have hcz51_1 : cI w49 gb573 1 t567 := cZ BK573 1 rfl; have hcz51_2 : cI w49 gb573 2 (wrap64 (t567 + t571)) := cZ BK573 2 rfl; have hfz51_0 := bF_q BK573.out 0; have hfz51_1 := bF_q BK573.out 1; have hfz51_2 := bF_q BK573.out 2; have hnb52 := NB566_0.out; have hnc52 := NB0_566.out; have hcz53_0 : cI w49 gb566 0 0 := cZ BK566 0 rfl; have hcz53_1 : cI w49 gb566 1 0 := cZ BK566 1 rfl; have hcz53_2 : cI w49 gb566 2 0 := cZ BK566 2 rfl; have hfz53_0 := bF_q BK566.out 0; have hfz53_1 := bF_q BK566.out 1; have hfz53_2 := bF_q BK566.out 2))) | ((with_reducible refine gD_q (N := 4) rfl ?_); refine bE_q ?hg (N := 4) ?hd (cs := #[.int .i64 0, .int .i64 0, .int .i64 0]) (t := 31) ?hr ?_; (case hd => rfl); (case hg => rfl); (case hr => exact m5_q); intro gb573 hg w42 hbox hb; replace HB := Ae_q (bT_q m40_q hb); have BK573 := Ae_q (hbox); have GW573 := Ae_q ((by rw [hg]; exact (keep_size (w := w) (g := g) (row := none) m22_q) : w.heap.size ≤ gb573)); have GE573 := Ae_q ((nT_q HW0.out (by rw [hg]; exact (keep_size (w := w) (g := g) (row := none) m22_q) : w.heap.size ≤ gb573) : w0.heap.size ≤ gb573)); replace HK := Ae_q (kT_q m22_q (kO_q hb g none) (.inl rfl)); have NB566_573 := Ae_q ((by rw [hg]; exact nL_q (blk_lt (g := gb566) (o := .cells #[.int .i64 0, .int .i64 0, .int .i64 0] 31 (0, 0)) (bup BK566.out)) : gb566 ≠ gb573)); have NB573_566 := Ae_q ((by rw [hg]; exact nG_q (blk_lt (g := gb566) (o := .cells #[.int .i64 0, .int .i64 0, .int .i64 0] 31 (0, 0)) (bup BK566.out)) : gb573 ≠ gb566)); replace BK566 := Ae_q (bB_q (g := gb566) (o := .cells #[.int .i64 0, .int .i64 0, .int .i64 0] 31 (0, 0)) (bup BK566.out) hb); have NB0_573 := Ae_q ((by rw [hg]; exact nL_q (i6_q (show IsS83 w0 _ g s0_0 t572 from by repeat (with_reducible first | exact HI0.out | apply i2_q | apply i1_q | apply i0_q | apply i3_q | refine i4_q ?_ NB0_566.out _))) : g ≠ gb573)); have NB573_0 := Ae_q ((by rw [hg]; exact nG_q (i6_q (show IsS83 w0 _ g s0_0 t572 from by repeat (with_reducible first | exact HI0.out | apply i2_q | apply i1_q | apply i0_q | apply i3_q | refine i4_q ?_ NB0_566.out _))) : gb573 ≠ g)); replace HI0 := Ae_q (i7_q m44_q hb); clear hb hbox hg; have hnb43 := NB573_566.out; have hnc43 := NB566_573.out; have hnb44 := NB573_0.out; have hnc44 := NB0_573.out; have hcz45_0 : cI w42 gb573 0 0 := cZ BK573 0 rfl; have hcz45_1 : cI w42 gb573 1 0 := cZ BK573 1 rfl; have hcz45_2 : cI w42 gb573 2 0 := cZ BK573 2 rfl; have hfz45_0 := bF_q BK573.out 0; have hfz45_1 := bF_q BK573.out 1; have hfz45_2 := bF_q BK573.out 2) | ((with_reducible refine gD_q (N := 32) rfl ?_); refine Kd.R_lit kI_q _ 3 ?hg (N := 32) ?hd (xs := ([999, 1000] : List Int)) (inner := [.int .i64 999, .int .i64 1000]) (ok := fun _ => True) (okp := fun _ => True) ?hr ?hp (fun _ hk => hk) trivial (bR_q _ _) (nR_q _) (by simp) ?_; (case hd => rfl); (case hg => rfl); (case hr => exact m5_q); (case hp => exact (Reps.one (show Kd.M kI_q _ _ _ 999 [.int .i64 999] from rfl) (Reps.one (show Kd.M kI_q _ _ _ 1000 [.int .i64 1000] from rfl) (Reps.none _ _)))); intro v579 w47 ho48 hb hg_ hnew_; clear hg_ hnew_; (first | rw [← Ny578.out] at ho48 | (simp only [Int.reduceToNat] at ho48; rw [← Ny578.out] at ho48)); have HO580 := Ae_q (rL_q ho48 (keep_size (w := w) (g := g) (row := none) m29_q)); replace BK566 := Ae_q (bB_q (g := gb566) (o := .cells #[.int .i64 0, .int .i64 0, .int .i64 0] 31 (0, 0)) (bup BK566.out) hb); replace BK573 := Ae_q (bB_q (g := gb573) (o := .cells #[.int .i64 (wrap64 (1 + t569)), .int .i64 t567, .int .i64 (wrap64 (t567 + t571))] 31 (0, 0)) (bup BK573.out) hb); replace HK := Ae_q (kT_q m29_q (kO_q hb g none) (.inl rfl)); replace HB := Ae_q (bT_q m28_q hb); replace HI0 := Ae_q (i7_q m32_q hb); clear hb ho48))
 refine bodyPost_ret (results_cell_row rfl _ _ gb566 31 #[.int .i64 (wrap64 (1 + t569)), .int .i64 t567, .int .i64 (rd y578 t581)] (0, 0) _ rfl m37_q Try.underlying31 rfl m8_q) rfl ?_
 exact ⟨m6_q, m32_q, m28_q, m29_q⟩

end Go.Proofs.Ytfnpiacmlahegaa.PRp
