import Derived.Test.YtnckblolijkdaaaVGPBtx0
import Derived.Test.YtnckblolijkdaaaVGPBtx11
import Derived.Test.YtnckblolijkdaaaVGPBtx17
namespace Go.Proofs.Ytnckblolijkdaaa.PBt
open Go.RowKit Go.Proofs.YtnckblolijkdaaaW.PrintWords Go.Proofs.YtnckblolijkdaaaW.PrintLast Go.Proofs.YtnckblolijkdaaaW.PrintMore
attribute [local go_sem] max2_int min2_int max_two min_two max_three min_three max_four min_four
set_option linter.unusedVariables false
set_option linter.unusedSimpArgs false

mutual
def spec_RecallGuests.l0 : Nat → List (S39) → List (S49) → List Int → List Int → Int → Option (List Int)
 | 0, _, _, _, _, _ => none
 | k + 1, x0, x1, x7, x8, x9 => if x9 ≤ 99 then ((spec_PlatesValid.f k x0 x1).bind fun t670 => (spec_RecallGuests.j1 k x0 x1 x7 x8 x9 t670)) else (spec_RecallGuests.j1 k x0 x1 x7 x8 x9 false)
def spec_RecallGuests.j1 : Nat → List (S39) → List (S49) → List Int → List Int → Int → Bool → Option (List Int)
 | 0, _, _, _, _, _, _ => none
 | k + 1, x0, x1, x7, x8, x9, x22 => if x22 = true then (spec_RecallGuests.l1 k x0 x1 x7 x8 x9 false 0) else (some x7)
def spec_RecallGuests.l1 : Nat → List (S39) → List (S49) → List Int → List Int → Int → Bool → Int → Option (List Int)
 | 0, _, _, _, _, _, _, _ => none
 | k + 1, x0, x1, x7, x8, x9, x10, x11 => if x11 < (x1.length : Int) then (if x10 = true then (spec_RecallGuests.l1 k x0 x1 x7 x8 x9 true (wrap64 (x11 + 1))) else (if 0 ≤ x11 then (if ((rd_T49 x1 x11).f0) = x9 then ((spec_l15Has.f k x8 ((rd_T49 x1 x11).f1)).bind fun t673 => (spec_RecallGuests.l1 k x0 x1 x7 x8 x9 t673 (wrap64 (x11 + 1)))) else (spec_RecallGuests.l1 k x0 x1 x7 x8 x9 false (wrap64 (x11 + 1)))) else (none))) else (if x10 = true then (if x7.length < 17592186044416 then (spec_RecallGuests.l0 k x0 x1 (x7 ++ [x9]) x8 (wrap64 (x9 + 1))) else (none)) else (spec_RecallGuests.l0 k x0 x1 x7 x8 (wrap64 (x9 + 1))))
end
def spec_RecallGuests.f (k : Nat) (l0 : List (S39)) (l1 : List (S49)) (a2 : Int) : Option (List Int) := (spec_RecallBatches.f k l0 a2).bind fun t667 => (spec_RecallGuests.l0 k l0 l1 (([] : List Int)) t667 1)
set_option maxHeartbeats 8000000 in
set_option maxRecDepth 100000 in
theorem spec_RecallGuests.calls (k : Nat) (A0 : Option Addr) (c0 : Nat) (l0 : List (S39)) (A1 : Option Addr) (c1 : Nat) (l1 : List (S49)) (a2 : Int) (r : List Int) (w : World) (hr0 : Kd.C k39 w A0 l0.length l0) (hc0 : l0.length ≤ c0) (hr1 : Kd.C k49 w A1 l1.length l1) (hc1 : l1.length ≤ c1) (h : spec_RecallGuests.f k l0 l1 a2 = some r) :
    Calls Try.prog 41 #[.slice A0 l0.length c0, .slice A1 l1.length c1, .int .i64 a2] w fun e w' => ∃ v0_ : Value, e = .returned (v0_) ∧ Kd.R kI_q 3 w' w.heap.size (fun _ => True) v0_ r ∧ Below w.heap.size w w' := by
 have HR0 := Ae_q hr0
 have HC0 := Ae_q hc0
 clear hr0 hc0
 have HR1 := Ae_q hr1
 have HC1 := Ae_q hc1
 clear hr1 hc1
 have HB := Ae_q (bR_q w.heap.size w)
 have H : ((spec_RecallBatches.f k l0 a2).bind fun t667 => (spec_RecallGuests.l0 k l0 l1 (([] : List Int)) t667 1)) = some r := h
 clear h
 obtain ⟨y664, hy664⟩ : ∃ y_ : List Int, y_ = (([] : List Int)) := ⟨_, rfl⟩
 replace H : ((spec_RecallBatches.f k l0 a2).bind fun t667 => (spec_RecallGuests.l0 k l0 l1 y664 t667 1)) = some r := by first | (rw [hy664]; with_reducible exact H) | (have H2_ := (oS_q _ _).symm.trans H; rw [hy664]; with_reducible exact H2_) | (have H2_ := (oS_q _ _).symm.trans H; with_reducible exact H2_) | with_reducible exact H | (rw [hy664]; exact H) | exact H
 have Ny664 := Ae_q hy664
 clear hy664
 replace H := oB_q.mp H
 obtain ⟨t667, A40, H⟩ := H
 replace H : (spec_RecallGuests.l0 k l0 l1 y664 t667 1) = some r := H
 have A4 := Ae_q A40
 clear A40
 have H' := Ae_q H
 clear H
 go_enter Try.func41, Try.ntmps41
 go_wp2_with (first | ((with_reducible refine gD_q (N := 12) rfl ?_); refine Kd.R_lit kI_q _ 3 ?hg (N := 12) ?hd (xs := ([] : List Int)) (inner := []) (ok := fun _ => True) (okp := fun _ => True) ?hr ?hp (fun _ hk => hk) trivial (bR_q _ _) (nR_q _) (by simp) ?_; (case hd => rfl); (case hg => rfl); (case hr => exact m11_q); (case hp => exact m42_q); intro v665 w5 ho6 hb hg_ hnew_; clear hg_ hnew_; (first | rw [← Ny664.out] at ho6 | (simp only [Int.reduceToNat] at ho6; rw [← Ny664.out] at ho6)); have HO666 := Ae_q (rL_q ho6 (bZ_q (bel HB.out))); replace HB := Ae_q (bT_q (bel HB.out) hb); clear hb ho6) | ((with_reducible refine gC_q (f := 22) rfl ?_); refine gL_q (some 15) rfl rfl Try.func22 m9_q rfl #[.slice A0 l0.length c0, .int .i64 a2] rfl m0_q ?_; (with_reducible refine (spec_RecallBatches.calls k _ _ l0 a2 t667 _ ?side1 ?side2 A4.out).mono ?_); (case side1 => exact m28_q); (case side2 => exact m41_q); rintro e w' ⟨v668, rfl, ho0, hb⟩; refine ⟨_, rfl, ?_⟩; have HO669 := Ae_q (rL_q (rW_q ho0 (rT_q (rup HO666.out))) (bZ_q (bel HB.out))); replace HO666 := Ae_q (rE_q (rup HO666.out) (rB_q ho0) hb); replace HB := Ae_q (bT_q (bel HB.out) hb); (try clear hb); (try clear hb2); (try clear hk); (try clear hi); (try clear ho0)))
 go_loopg [7, 9] k (fun kq v7 v9 w' => ∃ (x7_1 : List Int) (x9_1 : Int), v9 = .int .i64 x9_1 ∧ Aside0 (spec_RecallGuests.l0 kq l0 l1 x7_1 t667 x9_1 = some r) ∧ Aside0 (kq ≤ k) ∧ Aside0 (Kd.R kI_q 3 w' w.heap.size (fun k_ => some k_ ≠ (v668 : Value).ownBlock) v7 x7_1) ∧ Aside0 (Kd.R kI_q 3 w' w.heap.size (fun k_ => some k_ ≠ (v7 : Value).ownBlock) v668 t667) ∧ Aside0 (Below w.heap.size w w'))
 case atStart => exact ⟨(y664), (1), m5_q, H', ⟨nR_q _⟩, ⟨by (with_reducible repeat (first | apply rA_q | apply rN_q | apply rD_q)); exact rM_q HO666.out (fun _ hk => hk.2)⟩, ⟨by (with_reducible repeat (first | apply rA_q | apply rN_q | apply rD_q)); exact rM_q HO669.out (fun _ hk => hk.2)⟩, ⟨bel HB.out⟩⟩
 case round =>
  clear H'
  try clear c1
  try clear c2
  try clear p2
  try clear c4
  obtain ⟨x7_1, x9_1, rfl, HA, HK1, HO_7, HO_8, HB⟩ := hrel
  cases gk with
  | zero => exact absurd HA.out (by simp [spec_RecallGuests.l0])
  | succ k1 =>
   have H := HA.out
   clear HA
   simp only [spec_RecallGuests.l0] at H
   have HC8 := Ae_q H
   clear H
   go_upto_region 4 with (fail)
   go_cut [22] (fun v22 wc => ∃ (kq : Nat) (x22_7 : Bool), v22 = .bool x22_7 ∧ Aside0 (spec_RecallGuests.j1 kq l0 l1 x7_1 t667 x9_1 x22_7 = some r) ∧ Aside0 (kq ≤ k1) ∧ Aside0 (Kd.R kI_q 3 wc w.heap.size (fun k_ => some k_ ≠ (v668 : Value).ownBlock) u7 x7_1) ∧ Aside0 (Kd.R kI_q 3 wc w.heap.size (fun k_ => some k_ ≠ (u7 : Value).ownBlock) v668 t667) ∧ Aside0 (Below w.heap.size w wc))
   case first =>
    have H := HC8.out
    clear HC8
    by_cases c9 : x9_1 ≤ 99
    rotate_left
    ·rw [if_neg c9] at H
     have c9b0 : decide (x9_1 ≤ 99) = false := dF_q c9
     clear c9
     (first | rw [c9b0] | (simp only [i64_w, i32_w]; rw [c9b0]) | skip)
     have H' := Ae_q H
     clear H
     go_wp2
     go_meet
     case rel => exact ⟨_, (false), m5_q, H', ⟨m37_q⟩, ⟨rup HO_7.out⟩, ⟨rup HO_8.out⟩, ⟨bel HB.out⟩⟩
    rw [if_pos c9] at H
    have c9b0 : decide (x9_1 ≤ 99) = true := dT_q c9
    clear c9
    (first | rw [c9b0] | (simp only [i64_w, i32_w]; rw [c9b0]) | skip)
    replace H := oB_q.mp H
    obtain ⟨t670, A100, H⟩ := H
    replace H : (spec_RecallGuests.j1 k1 l0 l1 x7_1 t667 x9_1 t670) = some r := H
    have A10 := Ae_q A100
    clear A100
    have H' := Ae_q H
    clear H
    go_wp2_with (first | (go_at_call 31; (with_reducible refine (spec_PlatesValid.calls k1 _ _ l0 _ _ l1 t670 _ ?side1 ?side2 ?side3 ?side4 A10.out).mono ?_); (case side1 => exact m28_q); (case side2 => exact m41_q); (case side3 => exact cup (cB_q HR1.out HB.out)); (case side4 => exact HC1.out); rintro e w' ⟨rfl, hb⟩; replace HO_7 := Ae_q (rO_q (rup HO_7.out) hb); replace HO_8 := Ae_q (rO_q (rup HO_8.out) hb); replace HB := Ae_q (bT_q (bel HB.out) hb); (try clear hb); (try clear hb2); (try clear hk); (try clear hi)))
    go_meet
    case rel => exact ⟨_, (t670), m5_q, H', ⟨m37_q⟩, ⟨rup HO_7.out⟩, ⟨rup HO_8.out⟩, ⟨bel HB.out⟩⟩
   case rest =>
    clear HC8
    try clear c1
    try clear c2
    try clear p2
    try clear c4
    try clear c9
    try clear c9b0
    try clear p2
    obtain ⟨kq, x22_7, rfl, HA, HJ7, HO_7, HO_8, HB⟩ := hcut
    cases kq with
    | zero => exact absurd HA.out (by simp [spec_RecallGuests.j1])
    | succ kj7 =>
     have H := HA.out
     clear HA
     simp only [spec_RecallGuests.j1] at H
     by_cases c12 : x22_7 = true
     rotate_left
     ·replace c12 := fM_q.mpr c12
      subst c12
      have H1 : (some x7_1) = some r := by rw [if_neg (show ¬ (false = true) by decide)] at H; exact H
      clear H
      have H := H1
      clear H1
      obtain rfl := oI_q H
      go_wp2
      go_ret
      exact ⟨_, m6_q, m38_q, bel HB.out⟩
     subst c12
     have H1 : (spec_RecallGuests.l1 kj7 l0 l1 x7_1 t667 x9_1 false 0) = some r := by rw [if_pos rfl] at H; exact H
     clear H
     have H := H1
     clear H1
     have H' := Ae_q H
     clear H
     go_wp2
     go_loopg [10, 11] kj7 (fun kq v10 v11 w' => ∃ (x10_3 : Bool) (x11_3 : Int), v10 = .bool x10_3 ∧ v11 = .int .i64 x11_3 ∧ Aside0 (spec_RecallGuests.l1 kq l0 l1 x7_1 t667 x9_1 x10_3 x11_3 = some r) ∧ Aside0 (kq ≤ kj7) ∧ Aside0 (Kd.R kI_q 3 w' w.heap.size (fun k_ => some k_ ≠ (v668 : Value).ownBlock) u7 x7_1) ∧ Aside0 (Kd.R kI_q 3 w' w.heap.size (fun k_ => some k_ ≠ (u7 : Value).ownBlock) v668 t667) ∧ Aside0 (Below w.heap.size w w'))
     case atStart => exact ⟨(false), (0), m5_q, m5_q, H', ⟨nR_q _⟩, ⟨rup HO_7.out⟩, ⟨rup HO_8.out⟩, ⟨bel HB.out⟩⟩
     case round =>
      clear H'
      try clear c1
      try clear c2
      try clear p2
      try clear c4
      try clear c9
      try clear c9b0
      try clear c12
      try clear p2
      obtain ⟨x10_3, x11_3, rfl, rfl, HA, HK3, HO_7, HO_8, HB⟩ := hrel
      cases gk with
      | zero => exact absurd HA.out (by simp [spec_RecallGuests.l1])
      | succ k3 =>
       have H := HA.out
       clear HA
       simp only [spec_RecallGuests.l1] at H
       by_cases c13 : x11_3 < (l1.length : Int)
       rotate_left
       ·rw [if_neg c13] at H
        have c13b0 : decide (x11_3 < (l1.length : Int)) = false := dF_q c13
        clear c13
        by_cases c19 : x10_3 = true
        rotate_left
        ·replace c19 := fM_q.mpr c19
         subst c19
         have H1 : (spec_RecallGuests.l0 k3 l0 l1 x7_1 t667 (wrap64 (x9_1 + 1))) = some r := by rw [if_neg (show ¬ (false = true) by decide)] at H; exact H
         clear H
         have H := H1
         clear H1
         have H' := Ae_q H
         clear H
         go_wp2
         go_roundg k3
         case measure => have := HK1.out; have := HJ7.out; have := HK3.out; omega
         case rel => exact ⟨(x7_1), (wrap64 (x9_1 + 1)), m5_q, H', ⟨m36_q⟩, ⟨rup HO_7.out⟩, ⟨rup HO_8.out⟩, ⟨bel HB.out⟩⟩
        subst c19
        have H1 : (if x7_1.length < 17592186044416 then (spec_RecallGuests.l0 k3 l0 l1 (x7_1 ++ [x9_1]) t667 (wrap64 (x9_1 + 1))) else (none)) = some r := by rw [if_pos rfl] at H; exact H
        clear H
        have H := H1
        clear H1
        by_cases c20 : x7_1.length < 17592186044416
        rotate_left
        ·rw [if_neg c20] at H
         exact absurd H (by simp)
        rw [if_pos c20] at H
        have LMc20 := Ae_q c20
        clear c20
        obtain ⟨y674, hy674⟩ : ∃ y_ : List Int, y_ = (x7_1 ++ [x9_1]) := ⟨_, rfl⟩
        replace H : (spec_RecallGuests.l0 k3 l0 l1 y674 t667 (wrap64 (x9_1 + 1))) = some r := by first | (rw [hy674]; with_reducible exact H) | (have H2_ := (oS_q _ _).symm.trans H; rw [hy674]; with_reducible exact H2_) | (have H2_ := (oS_q _ _).symm.trans H; with_reducible exact H2_) | with_reducible exact H | (rw [hy674]; exact H) | exact H
        have Ny674 := Ae_q hy674
        clear hy674
        have H' := Ae_q H
        clear H
        go_wp2_with (first | ((with_reducible refine gate_builtin (b := .append) (xs := #[.tmp 51, .tmp 53]) rfl ?_); at_builtin; refine Kd.R_append kI_q (w0 := w) w.heap.size rfl (.tmp 51) (.tmp 53) 34 3 (.int .i64 0) 8 rfl Try.underlying34 info3 rfl (by decide) (by omega) u7 x7_1 x9_1 [.int .i64 x9_1] (fun k_ => some k_ ≠ (v668 : Value).ownBlock) (fun _ => False) rfl rfl ?aP (fun _ hk => hk.elim) ?aF ?aO ?aB ?aS ?aL ?_; (case aP => exact rfl); (case aB => exact (bel HB.out)); (case aF => exact (fun k_ hk => Kd.fresh' (rT_q (rup HO_8.out)) k_ hk)); (case aO => exact (rup HO_7.out)); (case aS => exact (bZ_q (bel HB.out))); (case aL => have := LMc20.out; omega); intro v675 w21 ho hb hg hat; rw [← Ny674.out] at ho; replace HO_8 := Ae_q (rF_q (ok := (fun _ => True)) (by (with_reducible repeat (first | apply rA_q | apply rN_q | apply rD_q)); exact rM_q HO_8.out (fun _ hk => ⟨trivial, hk⟩)) hg hat); replace HB := Ae_q (hb); have HO676 := Ae_q (ho); clear HO_7; clear ho hb hg hat))
        go_roundg k3
        case measure => have := HK1.out; have := HJ7.out; have := HK3.out; omega
        case rel => exact ⟨(y674), (wrap64 (x9_1 + 1)), m5_q, H', ⟨m36_q⟩, ⟨rup HO676.out⟩, ⟨m30_q⟩, ⟨bel HB.out⟩⟩
       rw [if_pos c13] at H
       have c13b0 : decide (x11_3 < (l1.length : Int)) = true := dT_q c13
       clear c13
       by_cases c14 : x10_3 = true
       ·subst c14
        have H1 : (spec_RecallGuests.l1 k3 l0 l1 x7_1 t667 x9_1 true (wrap64 (x11_3 + 1))) = some r := by rw [if_pos rfl] at H; exact H
        clear H
        have H := H1
        clear H1
        have H' := Ae_q H
        clear H
        go_wp2
        go_roundg k3
        case measure => have := HK1.out; have := HJ7.out; have := HK3.out; omega
        case rel => exact ⟨(true), (wrap64 (x11_3 + 1)), m5_q, m5_q, H', ⟨m36_q⟩, ⟨rup HO_7.out⟩, ⟨rup HO_8.out⟩, ⟨bel HB.out⟩⟩
       replace c14 := fM_q.mpr c14
       subst c14
       have H1 : (if 0 ≤ x11_3 then (if ((rd_T49 l1 x11_3).f0) = x9_1 then ((spec_l15Has.f k3 t667 ((rd_T49 l1 x11_3).f1)).bind fun t673 => (spec_RecallGuests.l1 k3 l0 l1 x7_1 t667 x9_1 t673 (wrap64 (x11_3 + 1)))) else (spec_RecallGuests.l1 k3 l0 l1 x7_1 t667 x9_1 false (wrap64 (x11_3 + 1)))) else (none)) = some r := by rw [if_neg (show ¬ (false = true) by decide)] at H; exact H
       clear H
       have H := H1
       clear H1
       by_cases c15 : 0 ≤ x11_3
       rotate_left
       ·rw [if_neg c15] at H
        exact absurd H (by simp)
       rw [if_pos c15] at H
       have c15b0 : decide (0 ≤ x11_3) = true := dT_q c15
       clear c15
       by_cases c16 : ((rd_T49 l1 x11_3).f0) = x9_1
       rotate_left
       ·rw [if_neg c16] at H
        have c16b0 : (((rd_T49 l1 x11_3).f0) == x9_1) = false := fN_q.mpr c16
        have c16b1 : (((rd_T49 l1 x11_3).f0) != x9_1) = true := nI_q.mpr c16
        have H' := Ae_q H
        clear H
        have p671 : 0 ≤ (x11_3 : Int) := oD_q (by assumption)
        have q671 : x11_3 < (l1.length : Int) := oD_q (by assumption)
        obtain ⟨ad671, e671, hx671_0, hx671_1, hx671_2⟩ := at_T49 HR1.out x11_3 p671 q671
        cases e671
        replace hx671_0 := cel HB.out hx671_0
        replace hx671_1 := cel HB.out hx671_1
        replace hx671_2 := cel HB.out hx671_2
        replace p671 := eq_true p671
        replace q671 := eq_true q671
        go_wp2
        go_roundg k3
        case measure => have := HK1.out; have := HJ7.out; have := HK3.out; omega
        case rel => exact ⟨(false), (wrap64 (x11_3 + 1)), m5_q, m5_q, H', ⟨m36_q⟩, ⟨rup HO_7.out⟩, ⟨rup HO_8.out⟩, ⟨bel HB.out⟩⟩
       rw [if_pos c16] at H
       have c16b0 : (((rd_T49 l1 x11_3).f0) == x9_1) = true := beq_iff_eq.mpr c16
       have c16b1 : (((rd_T49 l1 x11_3).f0) != x9_1) = false := nE_q.mpr c16
       clear c16
       replace H := oB_q.mp H
       obtain ⟨t673, A170, H⟩ := H
       replace H : (spec_RecallGuests.l1 k3 l0 l1 x7_1 t667 x9_1 t673 (wrap64 (x11_3 + 1))) = some r := H
       have A17 := Ae_q A170
       clear A170
       have H' := Ae_q H
       clear H
       have p671 : 0 ≤ (x11_3 : Int) := oD_q (by assumption)
       have q671 : x11_3 < (l1.length : Int) := oD_q (by assumption)
       obtain ⟨ad671, e671, hx671_0, hx671_1, hx671_2⟩ := at_T49 HR1.out x11_3 p671 q671
       cases e671
       replace hx671_0 := cel HB.out hx671_0
       replace hx671_1 := cel HB.out hx671_1
       replace hx671_2 := cel HB.out hx671_2
       replace p671 := eq_true p671
       replace q671 := eq_true q671
       have p672 : 0 ≤ (x11_3 : Int) := oD_q (by assumption)
       have q672 : x11_3 < (l1.length : Int) := oD_q (by assumption)
       obtain ⟨ad672, e672, hx672_0, hx672_1, hx672_2⟩ := at_T49 HR1.out x11_3 p672 q672
       obtain rfl : ad671 = ad672 := (by injection e672)
       replace hx672_0 := cel HB.out hx672_0
       replace hx672_1 := cel HB.out hx672_1
       replace hx672_2 := cel HB.out hx672_2
       replace p672 := eq_true p672
       replace q672 := eq_true q672
       obtain ⟨Ao18, co18, eo18⟩ := rS_q HO_8.out
       subst eo18
       go_wp2_with (first | (go_at_call 54; (with_reducible refine (spec_l15Has.calls k3 _ _ t667 ((rd_T49 l1 x11_3).f1) t673 _ ?side1 ?side2 A17.out).mono ?_); (case side1 => exact m47_q); (case side2 => exact m45_q); rintro e w' ⟨rfl, ⟨nd, rfl⟩⟩))
       go_roundg k3
       case measure => have := HK1.out; have := HJ7.out; have := HK3.out; omega
       case rel => exact ⟨(t673), (wrap64 (x11_3 + 1)), m5_q, m5_q, H', ⟨m36_q⟩, ⟨rup HO_7.out⟩, ⟨rup HO_8.out⟩, ⟨bel HB.out⟩⟩

end Go.Proofs.Ytnckblolijkdaaa.PBt
