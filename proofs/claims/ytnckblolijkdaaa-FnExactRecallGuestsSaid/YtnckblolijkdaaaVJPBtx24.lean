import Derived.Test.YtnckblolijkdaaaVJPBtx0
import Derived.Test.YtnckblolijkdaaaVJPBtx11
import Derived.Test.YtnckblolijkdaaaVJPBtx12
namespace Go.Proofs.Ytnckblolijkdaaa.PBt
open Go.RowKit Go.Proofs.YtnckblolijkdaaaW.PrintWords Go.Proofs.YtnckblolijkdaaaW.PrintLast Go.Proofs.YtnckblolijkdaaaW.PrintMore
attribute [local go_sem] max2_int min2_int max_two min_two max_three min_three max_four min_four
set_option linter.unusedVariables false
set_option linter.unusedSimpArgs false

def spec_l15Has.l0 : Nat → List Int → Int → Int → Option (Bool)
 | 0, _, _, _ => none
 | k + 1, x0, x1, x5 => if x5 < (x0.length : Int) then (if 0 ≤ x5 then (if (rd x0 x5) = x1 then (some true) else (spec_l15Has.l0 k x0 x1 (wrap64 (x5 + 1)))) else (none)) else (some false)
def spec_l15Has.f (k : Nat) (l0 : List Int) (a1 : Int) : Option (Bool) := spec_l15Has.l0 k l0 a1 0
set_option maxHeartbeats 8000000 in
set_option maxRecDepth 100000 in
theorem spec_l15Has.calls (k : Nat) (A0 : Option Addr) (c0 : Nat) (l0 : List Int) (a1 : Int) (r : Bool) (w : World) (hr0 : Kd.C kI_q w A0 l0.length l0) (hc0 : l0.length ≤ c0) (h : spec_l15Has.f k l0 a1 = some r) :
    Calls Try.prog 54 #[.slice A0 l0.length c0, .int .i64 a1] w fun e w' => e = .returned (.bool r) ∧ Drawn0 w w' := by
 have HR0 := Ae_q hr0
 have HC0 := Ae_q hc0
 clear hr0 hc0
 have H : (spec_l15Has.l0 k l0 a1 0) = some r := h
 clear h
 have H' := Ae_q H
 clear H
 go_enter Try.func54, Try.ntmps54
 go_wp2
 go_loopg [5] k (fun kq v5 w' => ∃ (x5_1 : Int), v5 = .int .i64 x5_1 ∧ Aside0 (spec_l15Has.l0 kq l0 a1 x5_1 = some r) ∧ Aside0 (kq ≤ k) ∧ Drawn0 w w')
 case atStart => exact ⟨(0), m3_q, H', ⟨nR_q _⟩, m8_q⟩
 case round =>
  clear H'
  try clear p2
  obtain ⟨x5_1, rfl, HA, HK1, ⟨m1, rfl⟩⟩ := hrel
  cases gk with
  | zero => exact absurd HA.out (by simp [spec_l15Has.l0])
  | succ k1 =>
   have H := HA.out
   clear HA
   simp only [spec_l15Has.l0] at H
   by_cases c3 : x5_1 < (l0.length : Int)
   rotate_left
   ·rw [if_neg c3] at H
    have c3b0 : decide (x5_1 < (l0.length : Int)) = false := dF_q c3
    clear c3
    obtain rfl := oI_q H
    go_wp2
    go_ret
    exact ⟨m3_q, m8_q⟩
   rw [if_pos c3] at H
   have c3b0 : decide (x5_1 < (l0.length : Int)) = true := dT_q c3
   clear c3
   by_cases c4 : 0 ≤ x5_1
   rotate_left
   ·rw [if_neg c4] at H
    exact absurd H (by simp)
   rw [if_pos c4] at H
   have c4b0 : decide (0 ≤ x5_1) = true := dT_q c4
   clear c4
   by_cases c5 : (rd l0 x5_1) = a1
   ·rw [if_pos c5] at H
    have c5b0 : ((rd l0 x5_1) == a1) = true := beq_iff_eq.mpr c5
    have c5b1 : ((rd l0 x5_1) != a1) = false := nE_q.mpr c5
    clear c5
    obtain rfl := oI_q H
    have p405 : 0 ≤ (x5_1 : Int) := oD_q (by assumption)
    have q405 : x5_1 < (l0.length : Int) := oD_q (by assumption)
    obtain ⟨ad405, e405, hx405_0⟩ := aI_q HR0.out x5_1 p405 q405
    cases e405
    replace p405 := eq_true p405
    replace q405 := eq_true q405
    go_wp2
    go_ret
    exact ⟨m3_q, m8_q⟩
   rw [if_neg c5] at H
   have c5b0 : ((rd l0 x5_1) == a1) = false := fN_q.mpr c5
   have c5b1 : ((rd l0 x5_1) != a1) = true := nI_q.mpr c5
   have H' := Ae_q H
   clear H
   have p405 : 0 ≤ (x5_1 : Int) := oD_q (by assumption)
   have q405 : x5_1 < (l0.length : Int) := oD_q (by assumption)
   obtain ⟨ad405, e405, hx405_0⟩ := aI_q HR0.out x5_1 p405 q405
   cases e405
   replace p405 := eq_true p405
   replace q405 := eq_true q405
   go_wp2
   go_roundg k1
   case measure => have := HK1.out; omega
   case rel => exact ⟨(wrap64 (x5_1 + 1)), m3_q, H', ⟨m28_q⟩, m8_q⟩

mutual
def spec_RecallBatches.l0 : Nat → List (S39) → Int → List Int → Int → Option (List Int)
 | 0, _, _, _, _ => none
 | k + 1, x0, x1, x5, x6 => if x6 < (x0.length : Int) then ((spec_BatchesValid.f k x0).bind fun t409 => (spec_RecallBatches.j1 k x0 x1 x5 x6 t409)) else (spec_RecallBatches.j1 k x0 x1 x5 x6 false)
def spec_RecallBatches.j1 : Nat → List (S39) → Int → List Int → Int → Bool → Option (List Int)
 | 0, _, _, _, _, _ => none
 | k + 1, x0, x1, x5, x6, x15 => if x15 = true then (if 0 ≤ x6 then (if x6 < (x0.length : Int) then ((spec_l15Has.f k ((rd_T39 x0 x6).f1) x1).bind fun t411 => (if t411 = true then (if x5.length < 17592186044416 then (spec_RecallBatches.l0 k x0 x1 (x5 ++ [(rd_T39 x0 x6).f0]) (wrap64 (x6 + 1))) else (none)) else (spec_RecallBatches.l0 k x0 x1 x5 (wrap64 (x6 + 1))))) else (none)) else (none)) else (some x5)
end
def spec_RecallBatches.f (k : Nat) (l0 : List (S39)) (a1 : Int) : Option (List Int) := spec_RecallBatches.l0 k l0 a1 (([] : List Int)) 0
set_option maxHeartbeats 8000000 in
set_option maxRecDepth 100000 in
theorem spec_RecallBatches.calls (k : Nat) (A0 : Option Addr) (c0 : Nat) (l0 : List (S39)) (a1 : Int) (r : List Int) (w : World) (hr0 : Kd.C k39 w A0 l0.length l0) (hc0 : l0.length ≤ c0) (h : spec_RecallBatches.f k l0 a1 = some r) :
    Calls Try.prog 22 #[.slice A0 l0.length c0, .int .i64 a1] w fun e w' => ∃ v0_ : Value, e = .returned (v0_) ∧ Kd.R kI_q 3 w' w.heap.size (fun _ => True) v0_ r ∧ Below w.heap.size w w' := by
 have HR0 := Ae_q hr0
 have HC0 := Ae_q hc0
 clear hr0 hc0
 have HB := Ae_q (bR_q w.heap.size w)
 have H : (spec_RecallBatches.l0 k l0 a1 (([] : List Int)) 0) = some r := h
 clear h
 obtain ⟨y406, hy406⟩ : ∃ y_ : List Int, y_ = (([] : List Int)) := ⟨_, rfl⟩
 replace H : (spec_RecallBatches.l0 k l0 a1 y406 0) = some r := by first | (rw [hy406]; with_reducible exact H) | (have H2_ := (oS_q _ _).symm.trans H; rw [hy406]; with_reducible exact H2_) | (have H2_ := (oS_q _ _).symm.trans H; with_reducible exact H2_) | with_reducible exact H | (rw [hy406]; exact H) | exact H
 have Ny406 := Ae_q hy406
 clear hy406
 have H' := Ae_q H
 clear H
 go_enter Try.func22, Try.ntmps22
 go_wp2_with (first | ((with_reducible refine gD_q (N := 7) rfl ?_); refine Kd.R_lit kI_q _ 3 ?hg (N := 7) ?hd (xs := ([] : List Int)) (inner := []) (ok := fun _ => True) (okp := fun _ => True) ?hr ?hp (fun _ hk => hk) trivial (bR_q _ _) (nR_q _) (by simp) ?_; (case hd => rfl); (case hg => rfl); (case hr => exact m6_q); (case hp => exact m62_q); intro v407 w3 ho4 hb hg_ hnew_; clear hg_ hnew_; (first | rw [← Ny406.out] at ho4 | (simp only [Int.reduceToNat] at ho4; rw [← Ny406.out] at ho4)); have HO408 := Ae_q (rL_q ho4 (bZ_q (bel HB.out))); replace HB := Ae_q (bT_q (bel HB.out) hb); clear hb ho4))
 go_loopg [5, 6] k (fun kq v5 v6 w' => ∃ (x5_1 : List Int) (x6_1 : Int), v6 = .int .i64 x6_1 ∧ Aside0 (spec_RecallBatches.l0 kq l0 a1 x5_1 x6_1 = some r) ∧ Aside0 (kq ≤ k) ∧ Aside0 (Kd.R kI_q 3 w' w.heap.size (fun _ => True) v5 x5_1) ∧ Aside0 (Below w.heap.size w w'))
 case atStart => exact ⟨(y406), (0), m3_q, H', ⟨nR_q _⟩, ⟨rup HO408.out⟩, ⟨bel HB.out⟩⟩
 case round =>
  clear H'
  try clear c2
  try clear p2
  obtain ⟨x5_1, x6_1, rfl, HA, HK1, HO_5, HB⟩ := hrel
  cases gk with
  | zero => exact absurd HA.out (by simp [spec_RecallBatches.l0])
  | succ k1 =>
   have H := HA.out
   clear HA
   simp only [spec_RecallBatches.l0] at H
   have HC5 := Ae_q H
   clear H
   go_upto_region 3 with (fail)
   go_cut [15] (fun v15 wc => ∃ (kq : Nat) (x15_4 : Bool), v15 = .bool x15_4 ∧ Aside0 (spec_RecallBatches.j1 kq l0 a1 x5_1 x6_1 x15_4 = some r) ∧ Aside0 (kq ≤ k1) ∧ Aside0 (Kd.R kI_q 3 wc w.heap.size (fun _ => True) u5 x5_1) ∧ Aside0 (Below w.heap.size w wc))
   case first =>
    have H := HC5.out
    clear HC5
    by_cases c6 : x6_1 < (l0.length : Int)
    rotate_left
    ·rw [if_neg c6] at H
     have c6b0 : decide (x6_1 < (l0.length : Int)) = false := dF_q c6
     clear c6
     (first | rw [c6b0] | (simp only [i64_w, i32_w]; rw [c6b0]) | skip)
     have H' := Ae_q H
     clear H
     go_wp2
     go_meet
     case rel => exact ⟨_, (false), m3_q, H', ⟨m47_q⟩, ⟨rup HO_5.out⟩, ⟨bel HB.out⟩⟩
    rw [if_pos c6] at H
    have c6b0 : decide (x6_1 < (l0.length : Int)) = true := dT_q c6
    clear c6
    (first | rw [c6b0] | (simp only [i64_w, i32_w]; rw [c6b0]) | skip)
    replace H := oB_q.mp H
    obtain ⟨t409, A70, H⟩ := H
    replace H : (spec_RecallBatches.j1 k1 l0 a1 x5_1 x6_1 t409) = some r := H
    have A7 := Ae_q A70
    clear A70
    have H' := Ae_q H
    clear H
    go_wp2_with (first | (go_at_call 16; (with_reducible refine (spec_BatchesValid.calls k1 _ _ l0 t409 _ ?side1 ?side2 A7.out).mono ?_); (case side1 => exact m34_q); (case side2 => exact m32_q); rintro e w' ⟨rfl, hb⟩; replace HO_5 := Ae_q (rO_q (rup HO_5.out) hb); replace HB := Ae_q (bT_q (bel HB.out) hb); (try clear hb); (try clear hb2); (try clear hk); (try clear hi)))
    go_meet
    case rel => exact ⟨_, (t409), m3_q, H', ⟨m47_q⟩, ⟨rup HO_5.out⟩, ⟨bel HB.out⟩⟩
   case rest =>
    clear HC5
    try clear c2
    try clear p2
    try clear c6
    try clear c6b0
    try clear p2
    obtain ⟨kq, x15_4, rfl, HA, HJ4, HO_5, HB⟩ := hcut
    cases kq with
    | zero => exact absurd HA.out (by simp [spec_RecallBatches.j1])
    | succ kj4 =>
     have H := HA.out
     clear HA
     simp only [spec_RecallBatches.j1] at H
     by_cases c9 : x15_4 = true
     rotate_left
     ·replace c9 := fM_q.mpr c9
      subst c9
      have H1 : (some x5_1) = some r := by rw [if_neg (show ¬ (false = true) by decide)] at H; exact H
      clear H
      have H := H1
      clear H1
      obtain rfl := oI_q H
      go_wp2
      go_ret
      exact ⟨_, m2_q, rup HO_5.out, bel HB.out⟩
     subst c9
     have H1 : (if 0 ≤ x6_1 then (if x6_1 < (l0.length : Int) then ((spec_l15Has.f kj4 ((rd_T39 l0 x6_1).f1) a1).bind fun t411 => (if t411 = true then (if x5_1.length < 17592186044416 then (spec_RecallBatches.l0 kj4 l0 a1 (x5_1 ++ [(rd_T39 l0 x6_1).f0]) (wrap64 (x6_1 + 1))) else (none)) else (spec_RecallBatches.l0 kj4 l0 a1 x5_1 (wrap64 (x6_1 + 1))))) else (none)) else (none)) = some r := by rw [if_pos rfl] at H; exact H
     clear H
     have H := H1
     clear H1
     by_cases c10 : 0 ≤ x6_1
     rotate_left
     ·rw [if_neg c10] at H
      exact absurd H (by simp)
     rw [if_pos c10] at H
     have c10b0 : decide (0 ≤ x6_1) = true := dT_q c10
     clear c10
     by_cases c11 : x6_1 < (l0.length : Int)
     rotate_left
     ·rw [if_neg c11] at H
      exact absurd H (by simp)
     rw [if_pos c11] at H
     have c11b0 : decide (x6_1 < (l0.length : Int)) = true := dT_q c11
     clear c11
     replace H := oB_q.mp H
     obtain ⟨t411, A120, H⟩ := H
     replace H : (if t411 = true then (if x5_1.length < 17592186044416 then (spec_RecallBatches.l0 kj4 l0 a1 (x5_1 ++ [(rd_T39 l0 x6_1).f0]) (wrap64 (x6_1 + 1))) else (none)) else (spec_RecallBatches.l0 kj4 l0 a1 x5_1 (wrap64 (x6_1 + 1)))) = some r := H
     have A12 := Ae_q A120
     clear A120
     by_cases c13 : t411 = true
     rotate_left
     ·replace c13 := fM_q.mpr c13
      subst c13
      have H1 : (spec_RecallBatches.l0 kj4 l0 a1 x5_1 (wrap64 (x6_1 + 1))) = some r := by rw [if_neg (show ¬ (false = true) by decide)] at H; exact H
      clear H
      have H := H1
      clear H1
      have H' := Ae_q H
      clear H
      have p410 : 0 ≤ (x6_1 : Int) := oD_q (by assumption)
      have q410 : x6_1 < (l0.length : Int) := oD_q (by assumption)
      obtain ⟨ad410, A410_1, c410_1, e410, hx410_0, hx410_1, hx410_2, hx410_3, hl410_1, hi410_1⟩ := at_T39 HR0.out x6_1 p410 q410
      cases e410
      replace hx410_0 := cel HB.out hx410_0
      replace hx410_1 := cel HB.out hx410_1
      replace hx410_2 := cel HB.out hx410_2
      replace hx410_3 := cel HB.out hx410_3
      have HR410_1 := Ae_q hi410_1
      have HC410_1 := Ae_q hl410_1
      clear hi410_1 hl410_1
      replace p410 := eq_true p410
      replace q410 := eq_true q410
      go_wp2_with (first | ((with_reducible refine gC_q (f := 54) rfl ?_); refine gL_q (some 24) rfl rfl Try.func54 m5_q rfl #[.slice A410_1 ((rd_T39 l0 x6_1).f1).length c410_1, .int .i64 a1] rfl m0_q ?_; (with_reducible refine (spec_l15Has.calls kj4 _ _ ((rd_T39 l0 x6_1).f1) a1 false _ ?side1 ?side2 A12.out).mono ?_); (case side1 => exact cup (cB_q HR410_1.out HB.out)); (case side2 => exact HC410_1.out); rintro e w' ⟨rfl, ⟨nd, rfl⟩⟩; refine ⟨_, rfl, ?_⟩))
      go_roundg kj4
      case measure => have := HK1.out; have := HJ4.out; omega
      case rel => exact ⟨(x5_1), (wrap64 (x6_1 + 1)), m3_q, H', ⟨by have := HK1.out; have := HJ4.out; omega⟩, ⟨rup HO_5.out⟩, ⟨bel HB.out⟩⟩
     subst c13
     have H1 : (if x5_1.length < 17592186044416 then (spec_RecallBatches.l0 kj4 l0 a1 (x5_1 ++ [(rd_T39 l0 x6_1).f0]) (wrap64 (x6_1 + 1))) else (none)) = some r := by rw [if_pos rfl] at H; exact H
     clear H
     have H := H1
     clear H1
     by_cases c14 : x5_1.length < 17592186044416
     rotate_left
     ·rw [if_neg c14] at H
      exact absurd H (by simp)
     rw [if_pos c14] at H
     have LMc14 := Ae_q c14
     clear c14
     obtain ⟨y413, hy413⟩ : ∃ y_ : List Int, y_ = (x5_1 ++ [(rd_T39 l0 x6_1).f0]) := ⟨_, rfl⟩
     replace H : (spec_RecallBatches.l0 kj4 l0 a1 y413 (wrap64 (x6_1 + 1))) = some r := by first | (rw [hy413]; with_reducible exact H) | (have H2_ := (oS_q _ _).symm.trans H; rw [hy413]; with_reducible exact H2_) | (have H2_ := (oS_q _ _).symm.trans H; with_reducible exact H2_) | with_reducible exact H | (rw [hy413]; exact H) | exact H
     have Ny413 := Ae_q hy413
     clear hy413
     have H' := Ae_q H
     clear H
     have p410 : 0 ≤ (x6_1 : Int) := oD_q (by assumption)
     have q410 : x6_1 < (l0.length : Int) := oD_q (by assumption)
     obtain ⟨ad410, A410_1, c410_1, e410, hx410_0, hx410_1, hx410_2, hx410_3, hl410_1, hi410_1⟩ := at_T39 HR0.out x6_1 p410 q410
     cases e410
     replace hx410_0 := cel HB.out hx410_0
     replace hx410_1 := cel HB.out hx410_1
     replace hx410_2 := cel HB.out hx410_2
     replace hx410_3 := cel HB.out hx410_3
     have HR410_1 := Ae_q hi410_1
     have HC410_1 := Ae_q hl410_1
     clear hi410_1 hl410_1
     replace p410 := eq_true p410
     replace q410 := eq_true q410
     go_wp2_with (first | ((with_reducible refine gC_q (f := 54) rfl ?_); refine gL_q (some 24) rfl rfl Try.func54 m5_q rfl #[.slice A410_1 ((rd_T39 l0 x6_1).f1).length c410_1, .int .i64 a1] rfl m0_q ?_; (with_reducible refine (spec_l15Has.calls kj4 _ _ ((rd_T39 l0 x6_1).f1) a1 true _ ?side1 ?side2 A12.out).mono ?_); (case side1 => exact cup (cB_q HR410_1.out HB.out)); (case side2 => exact HC410_1.out); rintro e w' ⟨rfl, ⟨nd, rfl⟩⟩; refine ⟨_, rfl, ?_⟩; have p412 : 0 ≤ (x6_1 : Int) := oD_q (by assumption); have q412 : x6_1 < (l0.length : Int) := oD_q (by assumption); obtain ⟨ad412, A412_1, c412_1, e412, hx412_0, hx412_1, hx412_2, hx412_3, hl412_1, hi412_1⟩ := at_T39 HR0.out x6_1 p412 q412; obtain rfl : ad410 = ad412 := (by injection e412); replace hx412_0 := cel HB.out hx412_0; replace hx412_1 := cel HB.out hx412_1; replace hx412_2 := cel HB.out hx412_2; replace hx412_3 := cel HB.out hx412_3; have HR412_1 := Ae_q hi412_1; have HC412_1 := Ae_q hl412_1; clear hi412_1 hl412_1; replace p412 := eq_true p412; replace q412 := eq_true q412; have ea_ := oI_q (hx410_1.symm.trans hx412_1); injection ea_ with ea_ en_ ec_; subst ea_; subst ec_; clear en_) | ((with_reducible refine gate_builtin (b := .append) (xs := #[.tmp 25, .tmp 31]) rfl ?_); at_builtin; refine Kd.R_append kI_q (w0 := w) w.heap.size rfl (.tmp 25) (.tmp 31) 34 3 (.int .i64 0) 8 rfl Try.underlying34 info3 rfl (by decide) (by omega) u5 x5_1 ((rd_T39 l0 x6_1).f0) [.int .i64 ((rd_T39 l0 x6_1).f0)] (fun _ => True) (fun _ => False) rfl rfl ?aP (fun _ hk => hk.elim) ?aF ?aO ?aB ?aS ?aL ?_; (case aP => exact rfl); (case aB => exact (bel HB.out)); (case aF => exact (fun _ _ => trivial)); (case aO => exact (rup HO_5.out)); (case aS => exact (bZ_q (bel HB.out))); (case aL => have := LMc14.out; omega); intro v414 w15 ho hb hg hat; rw [← Ny413.out] at ho; replace HB := Ae_q (hb); have HO415 := Ae_q (ho); clear HO_5; clear ho hb hg hat))
     go_roundg kj4
     case measure => have := HK1.out; have := HJ4.out; omega
     case rel => exact ⟨(y413), (wrap64 (x6_1 + 1)), m3_q, H', ⟨by have := HK1.out; have := HJ4.out; omega⟩, ⟨rup HO415.out⟩, ⟨bel HB.out⟩⟩

mutual
def spec_RecallGuests.l0 : Nat → List (S39) → List (S49) → List Int → List Int → Int → Option (List Int)
 | 0, _, _, _, _, _ => none
 | k + 1, x0, x1, x7, x8, x9 => if x9 ≤ 99 then ((spec_PlatesValid.f k x0 x1).bind fun t422 => (spec_RecallGuests.j1 k x0 x1 x7 x8 x9 t422)) else (spec_RecallGuests.j1 k x0 x1 x7 x8 x9 false)
def spec_RecallGuests.j1 : Nat → List (S39) → List (S49) → List Int → List Int → Int → Bool → Option (List Int)
 | 0, _, _, _, _, _, _ => none
 | k + 1, x0, x1, x7, x8, x9, x22 => if x22 = true then (spec_RecallGuests.l1 k x0 x1 x7 x8 x9 false 0) else (some x7)
def spec_RecallGuests.l1 : Nat → List (S39) → List (S49) → List Int → List Int → Int → Bool → Int → Option (List Int)
 | 0, _, _, _, _, _, _, _ => none
 | k + 1, x0, x1, x7, x8, x9, x10, x11 => if x11 < (x1.length : Int) then (if x10 = true then (spec_RecallGuests.l1 k x0 x1 x7 x8 x9 true (wrap64 (x11 + 1))) else (if 0 ≤ x11 then (if ((rd_T49 x1 x11).f0) = x9 then ((spec_l15Has.f k x8 ((rd_T49 x1 x11).f1)).bind fun t425 => (spec_RecallGuests.l1 k x0 x1 x7 x8 x9 t425 (wrap64 (x11 + 1)))) else (spec_RecallGuests.l1 k x0 x1 x7 x8 x9 false (wrap64 (x11 + 1)))) else (none))) else (if x10 = true then (if x7.length < 17592186044416 then (spec_RecallGuests.l0 k x0 x1 (x7 ++ [x9]) x8 (wrap64 (x9 + 1))) else (none)) else (spec_RecallGuests.l0 k x0 x1 x7 x8 (wrap64 (x9 + 1))))
end
def spec_RecallGuests.f (k : Nat) (l0 : List (S39)) (l1 : List (S49)) (a2 : Int) : Option (List Int) := (spec_RecallBatches.f k l0 a2).bind fun t419 => (spec_RecallGuests.l0 k l0 l1 (([] : List Int)) t419 1)
set_option maxHeartbeats 8000000 in
set_option maxRecDepth 100000 in
theorem spec_RecallGuests.calls (k : Nat) (A0 : Option Addr) (c0 : Nat) (l0 : List (S39)) (A1 : Option Addr) (c1 : Nat) (l1 : List (S49)) (a2 : Int) (r : List Int) (w : World) (hr0 : Kd.C k39 w A0 l0.length l0) (hc0 : l0.length ≤ c0) (hr1 : Kd.C k49 w A1 l1.length l1) (hc1 : l1.length ≤ c1) (h : spec_RecallGuests.f k l0 l1 a2 = some r) :
    Calls Try.prog 41 #[.slice A0 l0.length c0, .slice A1 l1.length c1, .int .i64 a2] w fun e w' => ∃ v0_ : Value, e = .returned (v0_) ∧ Kd.R kI_q 3 w' w.heap.size (fun _ => True) v0_ r ∧ Below w.heap.size w w' := by
 have HR0 := Ae_q hr0
 have HC0 := Ae_q hc0
 clear hr0 hc0
 have HR1 := Ae_q hr1
 have HC1 := Ae_q hc1
 clear hr1 hc1
 have HB := Ae_q (bR_q w.heap.size w)
 have H : ((spec_RecallBatches.f k l0 a2).bind fun t419 => (spec_RecallGuests.l0 k l0 l1 (([] : List Int)) t419 1)) = some r := h
 clear h
 obtain ⟨y416, hy416⟩ : ∃ y_ : List Int, y_ = (([] : List Int)) := ⟨_, rfl⟩
 replace H : ((spec_RecallBatches.f k l0 a2).bind fun t419 => (spec_RecallGuests.l0 k l0 l1 y416 t419 1)) = some r := by first | (rw [hy416]; with_reducible exact H) | (have H2_ := (oS_q _ _).symm.trans H; rw [hy416]; with_reducible exact H2_) | (have H2_ := (oS_q _ _).symm.trans H; with_reducible exact H2_) | with_reducible exact H | (rw [hy416]; exact H) | exact H
 have Ny416 := Ae_q hy416
 clear hy416
 replace H := oB_q.mp H
 obtain ⟨t419, A40, H⟩ := H
 replace H : (spec_RecallGuests.l0 k l0 l1 y416 t419 1) = some r := H
 have A4 := Ae_q A40
 clear A40
 have H' := Ae_q H
 clear H
 go_enter Try.func41, Try.ntmps41
 go_wp2_with (first | ((with_reducible refine gD_q (N := 12) rfl ?_); refine Kd.R_lit kI_q _ 3 ?hg (N := 12) ?hd (xs := ([] : List Int)) (inner := []) (ok := fun _ => True) (okp := fun _ => True) ?hr ?hp (fun _ hk => hk) trivial (bR_q _ _) (nR_q _) (by simp) ?_; (case hd => rfl); (case hg => rfl); (case hr => exact m6_q); (case hp => exact m62_q); intro v417 w5 ho6 hb hg_ hnew_; clear hg_ hnew_; (first | rw [← Ny416.out] at ho6 | (simp only [Int.reduceToNat] at ho6; rw [← Ny416.out] at ho6)); have HO418 := Ae_q (rL_q ho6 (bZ_q (bel HB.out))); replace HB := Ae_q (bT_q (bel HB.out) hb); clear hb ho6) | ((with_reducible refine gC_q (f := 22) rfl ?_); refine gL_q (some 15) rfl rfl Try.func22 m5_q rfl #[.slice A0 l0.length c0, .int .i64 a2] rfl m0_q ?_; (with_reducible refine (spec_RecallBatches.calls k _ _ l0 a2 t419 _ ?side1 ?side2 A4.out).mono ?_); (case side1 => exact m34_q); (case side2 => exact m32_q); rintro e w' ⟨v420, rfl, ho0, hb⟩; refine ⟨_, rfl, ?_⟩; have HO421 := Ae_q (rL_q (rW_q ho0 (rT_q (rup HO418.out))) (bZ_q (bel HB.out))); replace HO418 := Ae_q (rE_q (rup HO418.out) (rB_q ho0) hb); replace HB := Ae_q (bT_q (bel HB.out) hb); (try clear hb); (try clear hb2); (try clear hk); (try clear hi); (try clear ho0)))
 go_loopg [7, 9] k (fun kq v7 v9 w' => ∃ (x7_1 : List Int) (x9_1 : Int), v9 = .int .i64 x9_1 ∧ Aside0 (spec_RecallGuests.l0 kq l0 l1 x7_1 t419 x9_1 = some r) ∧ Aside0 (kq ≤ k) ∧ Aside0 (Kd.R kI_q 3 w' w.heap.size (fun k_ => some k_ ≠ (v420 : Value).ownBlock) v7 x7_1) ∧ Aside0 (Kd.R kI_q 3 w' w.heap.size (fun k_ => some k_ ≠ (v7 : Value).ownBlock) v420 t419) ∧ Aside0 (Below w.heap.size w w'))
 case atStart => exact ⟨(y416), (1), m3_q, H', ⟨nR_q _⟩, ⟨by (with_reducible repeat (first | apply rA_q | apply rN_q | apply rD_q)); exact rM_q HO418.out (fun _ hk => hk.2)⟩, ⟨by (with_reducible repeat (first | apply rA_q | apply rN_q | apply rD_q)); exact rM_q HO421.out (fun _ hk => hk.2)⟩, ⟨bel HB.out⟩⟩
 case round =>
  clear H'
  try clear c1
  try clear c2
  try clear p2
  try clear c4
  obtain ⟨x7_1, x9_1, rfl, HA, HK1, HO_7, HO_8, HB⟩ := hrel
  cases gk with
  | zero => exact absurd HA.out (by simp [spec_RecallGuests.l0])
  | succ k1 =>
   have H := HA.out
   clear HA
   simp only [spec_RecallGuests.l0] at H
   have HC8 := Ae_q H
   clear H
   go_upto_region 4 with (fail)
   go_cut [22] (fun v22 wc => ∃ (kq : Nat) (x22_7 : Bool), v22 = .bool x22_7 ∧ Aside0 (spec_RecallGuests.j1 kq l0 l1 x7_1 t419 x9_1 x22_7 = some r) ∧ Aside0 (kq ≤ k1) ∧ Aside0 (Kd.R kI_q 3 wc w.heap.size (fun k_ => some k_ ≠ (v420 : Value).ownBlock) u7 x7_1) ∧ Aside0 (Kd.R kI_q 3 wc w.heap.size (fun k_ => some k_ ≠ (u7 : Value).ownBlock) v420 t419) ∧ Aside0 (Below w.heap.size w wc))
   case first =>
    have H := HC8.out
    clear HC8
    by_cases c9 : x9_1 ≤ 99
    rotate_left
    ·rw [if_neg c9] at H
     have c9b0 : decide (x9_1 ≤ 99) = false := dF_q c9
     clear c9
     (first | rw [c9b0] | (simp only [i64_w, i32_w]; rw [c9b0]) | skip)
     have H' := Ae_q H
     clear H
     go_wp2
     go_meet
     case rel => exact ⟨_, (false), m3_q, H', ⟨m47_q⟩, ⟨rup HO_7.out⟩, ⟨rup HO_8.out⟩, ⟨bel HB.out⟩⟩
    rw [if_pos c9] at H
    have c9b0 : decide (x9_1 ≤ 99) = true := dT_q c9
    clear c9
    (first | rw [c9b0] | (simp only [i64_w, i32_w]; rw [c9b0]) | skip)
    replace H := oB_q.mp H
    obtain ⟨t422, A100, H⟩ := H
    replace H : (spec_RecallGuests.j1 k1 l0 l1 x7_1 t419 x9_1 t422) = some r := H
    have A10 := Ae_q A100
    clear A100
    have H' := Ae_q H
    clear H
    go_wp2_with (first | (go_at_call 31; (with_reducible refine (spec_PlatesValid.calls k1 _ _ l0 _ _ l1 t422 _ ?side1 ?side2 ?side3 ?side4 A10.out).mono ?_); (case side1 => exact m34_q); (case side2 => exact m32_q); (case side3 => exact m21_q); (case side4 => exact m39_q); rintro e w' ⟨rfl, hb⟩; replace HO_7 := Ae_q (rO_q (rup HO_7.out) hb); replace HO_8 := Ae_q (rO_q (rup HO_8.out) hb); replace HB := Ae_q (bT_q (bel HB.out) hb); (try clear hb); (try clear hb2); (try clear hk); (try clear hi)))
    go_meet
    case rel => exact ⟨_, (t422), m3_q, H', ⟨m47_q⟩, ⟨rup HO_7.out⟩, ⟨rup HO_8.out⟩, ⟨bel HB.out⟩⟩
   case rest =>
    clear HC8
    try clear c1
    try clear c2
    try clear p2
    try clear c4
    try clear c9
    try clear c9b0
    try clear p2
    obtain ⟨kq, x22_7, rfl, HA, HJ7, HO_7, HO_8, HB⟩ := hcut
    cases kq with
    | zero => exact absurd HA.out (by simp [spec_RecallGuests.j1])
    | succ kj7 =>
     have H := HA.out
     clear HA
     simp only [spec_RecallGuests.j1] at H
     by_cases c12 : x22_7 = true
     rotate_left
     ·replace c12 := fM_q.mpr c12
      subst c12
      have H1 : (some x7_1) = some r := by rw [if_neg (show ¬ (false = true) by decide)] at H; exact H
      clear H
      have H := H1
      clear H1
      obtain rfl := oI_q H
      go_wp2
      go_ret
      exact ⟨_, m2_q, m43_q, bel HB.out⟩
     subst c12
     have H1 : (spec_RecallGuests.l1 kj7 l0 l1 x7_1 t419 x9_1 false 0) = some r := by rw [if_pos rfl] at H; exact H
     clear H
     have H := H1
     clear H1
     have H' := Ae_q H
     clear H
     go_wp2
     go_loopg [10, 11] kj7 (fun kq v10 v11 w' => ∃ (x10_3 : Bool) (x11_3 : Int), v10 = .bool x10_3 ∧ v11 = .int .i64 x11_3 ∧ Aside0 (spec_RecallGuests.l1 kq l0 l1 x7_1 t419 x9_1 x10_3 x11_3 = some r) ∧ Aside0 (kq ≤ kj7) ∧ Aside0 (Kd.R kI_q 3 w' w.heap.size (fun k_ => some k_ ≠ (v420 : Value).ownBlock) u7 x7_1) ∧ Aside0 (Kd.R kI_q 3 w' w.heap.size (fun k_ => some k_ ≠ (u7 : Value).ownBlock) v420 t419) ∧ Aside0 (Below w.heap.size w w'))
     case atStart => exact ⟨(false), (0), m3_q, m3_q, H', ⟨nR_q _⟩, ⟨rup HO_7.out⟩, ⟨rup HO_8.out⟩, ⟨bel HB.out⟩⟩
     case round =>
      clear H'
      try clear c1
      try clear c2
      try clear p2
      try clear c4
      try clear c9
      try clear c9b0
      try clear c12
      try clear p2
      obtain ⟨x10_3, x11_3, rfl, rfl, HA, HK3, HO_7, HO_8, HB⟩ := hrel
      cases gk with
      | zero => exact absurd HA.out (by simp [spec_RecallGuests.l1])
      | succ k3 =>
       have H := HA.out
       clear HA
       simp only [spec_RecallGuests.l1] at H
       by_cases c13 : x11_3 < (l1.length : Int)
       rotate_left
       ·rw [if_neg c13] at H
        have c13b0 : decide (x11_3 < (l1.length : Int)) = false := dF_q c13
        clear c13
        by_cases c19 : x10_3 = true
        rotate_left
        ·replace c19 := fM_q.mpr c19
         subst c19
         have H1 : (spec_RecallGuests.l0 k3 l0 l1 x7_1 t419 (wrap64 (x9_1 + 1))) = some r := by rw [if_neg (show ¬ (false = true) by decide)] at H; exact H
         clear H
         have H := H1
         clear H1
         have H' := Ae_q H
         clear H
         go_wp2
         go_roundg k3
         case measure => have := HK1.out; have := HJ7.out; have := HK3.out; omega
         case rel => exact ⟨(x7_1), (wrap64 (x9_1 + 1)), m3_q, H', ⟨m40_q⟩, ⟨rup HO_7.out⟩, ⟨rup HO_8.out⟩, ⟨bel HB.out⟩⟩
        subst c19
        have H1 : (if x7_1.length < 17592186044416 then (spec_RecallGuests.l0 k3 l0 l1 (x7_1 ++ [x9_1]) t419 (wrap64 (x9_1 + 1))) else (none)) = some r := by rw [if_pos rfl] at H; exact H
        clear H
        have H := H1
        clear H1
        by_cases c20 : x7_1.length < 17592186044416
        rotate_left
        ·rw [if_neg c20] at H
         exact absurd H (by simp)
        rw [if_pos c20] at H
        have LMc20 := Ae_q c20
        clear c20
        obtain ⟨y426, hy426⟩ : ∃ y_ : List Int, y_ = (x7_1 ++ [x9_1]) := ⟨_, rfl⟩
        replace H : (spec_RecallGuests.l0 k3 l0 l1 y426 t419 (wrap64 (x9_1 + 1))) = some r := by first | (rw [hy426]; with_reducible exact H) | (have H2_ := (oS_q _ _).symm.trans H; rw [hy426]; with_reducible exact H2_) | (have H2_ := (oS_q _ _).symm.trans H; with_reducible exact H2_) | with_reducible exact H | (rw [hy426]; exact H) | exact H
        have Ny426 := Ae_q hy426
        clear hy426
        have H' := Ae_q H
        clear H
        go_wp2_with (first | ((with_reducible refine gate_builtin (b := .append) (xs := #[.tmp 51, .tmp 53]) rfl ?_); at_builtin; refine Kd.R_append kI_q (w0 := w) w.heap.size rfl (.tmp 51) (.tmp 53) 34 3 (.int .i64 0) 8 rfl Try.underlying34 info3 rfl (by decide) (by omega) u7 x7_1 x9_1 [.int .i64 x9_1] (fun k_ => some k_ ≠ (v420 : Value).ownBlock) (fun _ => False) rfl rfl ?aP (fun _ hk => hk.elim) ?aF ?aO ?aB ?aS ?aL ?_; (case aP => exact rfl); (case aB => exact (bel HB.out)); (case aF => exact (fun k_ hk => Kd.fresh' (rT_q (rup HO_8.out)) k_ hk)); (case aO => exact (rup HO_7.out)); (case aS => exact (bZ_q (bel HB.out))); (case aL => have := LMc20.out; omega); intro v427 w21 ho hb hg hat; rw [← Ny426.out] at ho; replace HO_8 := Ae_q (rF_q (ok := (fun _ => True)) (by (with_reducible repeat (first | apply rA_q | apply rN_q | apply rD_q)); exact rM_q HO_8.out (fun _ hk => ⟨trivial, hk⟩)) hg hat); replace HB := Ae_q (hb); have HO428 := Ae_q (ho); clear HO_7; clear ho hb hg hat))
        go_roundg k3
        case measure => have := HK1.out; have := HJ7.out; have := HK3.out; omega
        case rel => exact ⟨(y426), (wrap64 (x9_1 + 1)), m3_q, H', ⟨m40_q⟩, ⟨rup HO428.out⟩, ⟨m45_q⟩, ⟨bel HB.out⟩⟩
       rw [if_pos c13] at H
       have c13b0 : decide (x11_3 < (l1.length : Int)) = true := dT_q c13
       clear c13
       by_cases c14 : x10_3 = true
       ·subst c14
        have H1 : (spec_RecallGuests.l1 k3 l0 l1 x7_1 t419 x9_1 true (wrap64 (x11_3 + 1))) = some r := by rw [if_pos rfl] at H; exact H
        clear H
        have H := H1
        clear H1
        have H' := Ae_q H
        clear H
        go_wp2
        go_roundg k3
        case measure => have := HK1.out; have := HJ7.out; have := HK3.out; omega
        case rel => exact ⟨(true), (wrap64 (x11_3 + 1)), m3_q, m3_q, H', ⟨m40_q⟩, ⟨rup HO_7.out⟩, ⟨rup HO_8.out⟩, ⟨bel HB.out⟩⟩
       replace c14 := fM_q.mpr c14
       subst c14
       have H1 : (if 0 ≤ x11_3 then (if ((rd_T49 l1 x11_3).f0) = x9_1 then ((spec_l15Has.f k3 t419 ((rd_T49 l1 x11_3).f1)).bind fun t425 => (spec_RecallGuests.l1 k3 l0 l1 x7_1 t419 x9_1 t425 (wrap64 (x11_3 + 1)))) else (spec_RecallGuests.l1 k3 l0 l1 x7_1 t419 x9_1 false (wrap64 (x11_3 + 1)))) else (none)) = some r := by rw [if_neg (show ¬ (false = true) by decide)] at H; exact H
       clear H
       have H := H1
       clear H1
       by_cases c15 : 0 ≤ x11_3
       rotate_left
       ·rw [if_neg c15] at H
        exact absurd H (by simp)
       rw [if_pos c15] at H
       have c15b0 : decide (0 ≤ x11_3) = true := dT_q c15
       clear c15
       by_cases c16 : ((rd_T49 l1 x11_3).f0) = x9_1
       rotate_left
       ·rw [if_neg c16] at H
        have c16b0 : (((rd_T49 l1 x11_3).f0) == x9_1) = false := fN_q.mpr c16
        have c16b1 : (((rd_T49 l1 x11_3).f0) != x9_1) = true := nI_q.mpr c16
        have H' := Ae_q H
        clear H
        have p423 : 0 ≤ (x11_3 : Int) := oD_q (by assumption)
        have q423 : x11_3 < (l1.length : Int) := oD_q (by assumption)
        obtain ⟨ad423, e423, hx423_0, hx423_1, hx423_2⟩ := at_T49 HR1.out x11_3 p423 q423
        cases e423
        replace hx423_0 := cel HB.out hx423_0
        replace hx423_1 := cel HB.out hx423_1
        replace hx423_2 := cel HB.out hx423_2
        replace p423 := eq_true p423
        replace q423 := eq_true q423
        go_wp2
        go_roundg k3
        case measure => have := HK1.out; have := HJ7.out; have := HK3.out; omega
        case rel => exact ⟨(false), (wrap64 (x11_3 + 1)), m3_q, m3_q, H', ⟨m40_q⟩, ⟨rup HO_7.out⟩, ⟨rup HO_8.out⟩, ⟨bel HB.out⟩⟩
       rw [if_pos c16] at H
       have c16b0 : (((rd_T49 l1 x11_3).f0) == x9_1) = true := beq_iff_eq.mpr c16
       have c16b1 : (((rd_T49 l1 x11_3).f0) != x9_1) = false := nE_q.mpr c16
       clear c16
       replace H := oB_q.mp H
       obtain ⟨t425, A170, H⟩ := H
       replace H : (spec_RecallGuests.l1 k3 l0 l1 x7_1 t419 x9_1 t425 (wrap64 (x11_3 + 1))) = some r := H
       have A17 := Ae_q A170
       clear A170
       have H' := Ae_q H
       clear H
       have p423 : 0 ≤ (x11_3 : Int) := oD_q (by assumption)
       have q423 : x11_3 < (l1.length : Int) := oD_q (by assumption)
       obtain ⟨ad423, e423, hx423_0, hx423_1, hx423_2⟩ := at_T49 HR1.out x11_3 p423 q423
       cases e423
       replace hx423_0 := cel HB.out hx423_0
       replace hx423_1 := cel HB.out hx423_1
       replace hx423_2 := cel HB.out hx423_2
       replace p423 := eq_true p423
       replace q423 := eq_true q423
       have p424 : 0 ≤ (x11_3 : Int) := oD_q (by assumption)
       have q424 : x11_3 < (l1.length : Int) := oD_q (by assumption)
       obtain ⟨ad424, e424, hx424_0, hx424_1, hx424_2⟩ := at_T49 HR1.out x11_3 p424 q424
       obtain rfl : ad423 = ad424 := (by injection e424)
       replace hx424_0 := cel HB.out hx424_0
       replace hx424_1 := cel HB.out hx424_1
       replace hx424_2 := cel HB.out hx424_2
       replace p424 := eq_true p424
       replace q424 := eq_true q424
       obtain ⟨Ao18, co18, eo18⟩ := rS_q HO_8.out
       subst eo18
       go_wp2_with (first | (go_at_call 54; (with_reducible refine (spec_l15Has.calls k3 _ _ t419 ((rd_T49 l1 x11_3).f1) t425 _ ?side1 ?side2 A17.out).mono ?_); (case side1 => exact m55_q); (case side2 => exact m51_q); rintro e w' ⟨rfl, ⟨nd, rfl⟩⟩))
       go_roundg k3
       case measure => have := HK1.out; have := HJ7.out; have := HK3.out; omega
       case rel => exact ⟨(t425), (wrap64 (x11_3 + 1)), m3_q, m3_q, H', ⟨m40_q⟩, ⟨rup HO_7.out⟩, ⟨rup HO_8.out⟩, ⟨bel HB.out⟩⟩

end Go.Proofs.Ytnckblolijkdaaa.PBt
