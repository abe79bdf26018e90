import Derived.Test.YtnckblolijkdaaaVHPBtx0
import Derived.Test.YtnckblolijkdaaaVHPBtx5
namespace Go.Proofs.Ytnckblolijkdaaa.PBt
open Go.RowKit Go.Proofs.YtnckblolijkdaaaW.PrintWords Go.Proofs.YtnckblolijkdaaaW.PrintLast Go.Proofs.YtnckblolijkdaaaW.PrintMore
attribute [local go_sem] max2_int min2_int max_two min_two max_three min_three max_four min_four
set_option linter.unusedVariables false
set_option linter.unusedSimpArgs false

def spec_l15Has.l0 : Nat → List Int → Int → Int → Option (Bool)
 | 0, _, _, _ => none
 | k + 1, x0, x1, x5 => if x5 < (x0.length : Int) then (if 0 ≤ x5 then (if (rd x0 x5) = x1 then (some true) else (spec_l15Has.l0 k x0 x1 (wrap64 (x5 + 1)))) else (none)) else (some false)
def spec_l15Has.f (k : Nat) (l0 : List Int) (a1 : Int) : Option (Bool) := spec_l15Has.l0 k l0 a1 0
set_option maxHeartbeats 8000000 in
set_option maxRecDepth 100000 in
theorem spec_l15Has.calls (k : Nat) (A0 : Option Addr) (c0 : Nat) (l0 : List Int) (a1 : Int) (r : Bool) (w : World) (hr0 : Kd.C (Kd.int .i64) w A0 l0.length l0) (hc0 : l0.length ≤ c0) (h : spec_l15Has.f k l0 a1 = some r) :
    Calls Try.prog 54 #[.slice A0 l0.length c0, .int .i64 a1] w fun e w' => e = .returned (.bool r) ∧ Drawn0 w w' := by
 have HR0 := Ae_q hr0
 have HC0 := Ae_q hc0
 clear hr0 hc0
 have H : (spec_l15Has.l0 k l0 a1 0) = some r := h
 clear h
 have H' := Ae_q H
 clear H
 go_enter Try.func54, Try.ntmps54
 go_wp2
 go_loopg [5] k (fun kq v5 w' => ∃ (x5_1 : Int), v5 = .int .i64 x5_1 ∧ Aside0 (spec_l15Has.l0 kq l0 a1 x5_1 = some r) ∧ Aside0 (kq ≤ k) ∧ Drawn0 w w')
 case atStart => exact ⟨(0), m3_q, H', ⟨nR_q _⟩, m6_q⟩
 case round =>
  clear H'
  try clear p2
  obtain ⟨x5_1, rfl, HA, HK1, ⟨m1, rfl⟩⟩ := hrel
  cases gk with
  | zero => exact absurd HA.out (by simp [spec_l15Has.l0])
  | succ k1 =>
   have H := HA.out
   clear HA
   simp only [spec_l15Has.l0] at H
   by_cases c3 : x5_1 < (l0.length : Int)
   rotate_left
   ·rw [if_neg c3] at H
    have c3b0 : decide (x5_1 < (l0.length : Int)) = false := dF_q c3
    clear c3
    obtain rfl := oI_q H
    go_wp2
    go_ret
    exact ⟨m3_q, m6_q⟩
   rw [if_pos c3] at H
   have c3b0 : decide (x5_1 < (l0.length : Int)) = true := dT_q c3
   clear c3
   by_cases c4 : 0 ≤ x5_1
   rotate_left
   ·rw [if_neg c4] at H
    exact absurd H (by simp)
   rw [if_pos c4] at H
   have c4b0 : decide (0 ≤ x5_1) = true := dT_q c4
   clear c4
   by_cases c5 : (rd l0 x5_1) = a1
   ·rw [if_pos c5] at H
    have c5b0 : ((rd l0 x5_1) == a1) = true := beq_iff_eq.mpr c5
    have c5b1 : ((rd l0 x5_1) != a1) = false := nE_q.mpr c5
    clear c5
    obtain rfl := oI_q H
    have p171 : 0 ≤ (x5_1 : Int) := oD_q (by assumption)
    have q171 : x5_1 < (l0.length : Int) := oD_q (by assumption)
    obtain ⟨ad171, e171, hx171_0⟩ := aI_q HR0.out x5_1 p171 q171
    cases e171
    replace p171 := eq_true p171
    replace q171 := eq_true q171
    go_wp2
    go_ret
    exact ⟨m3_q, m6_q⟩
   rw [if_neg c5] at H
   have c5b0 : ((rd l0 x5_1) == a1) = false := fN_q.mpr c5
   have c5b1 : ((rd l0 x5_1) != a1) = true := nI_q.mpr c5
   have H' := Ae_q H
   clear H
   have p171 : 0 ≤ (x5_1 : Int) := oD_q (by assumption)
   have q171 : x5_1 < (l0.length : Int) := oD_q (by assumption)
   obtain ⟨ad171, e171, hx171_0⟩ := aI_q HR0.out x5_1 p171 q171
   cases e171
   replace p171 := eq_true p171
   replace q171 := eq_true q171
   go_wp2
   go_roundg k1
   case measure => have := HK1.out; omega
   case rel => exact ⟨(wrap64 (x5_1 + 1)), m3_q, H', ⟨m23_q⟩, m6_q⟩

mutual
def spec_RecallBatches.l0 : Nat → List (S39) → Int → List Int → Int → Option (List Int)
 | 0, _, _, _, _ => none
 | k + 1, x0, x1, x5, x6 => if x6 < (x0.length : Int) then ((spec_BatchesValid.f k x0).bind fun t175 => (spec_RecallBatches.j1 k x0 x1 x5 x6 t175)) else (spec_RecallBatches.j1 k x0 x1 x5 x6 false)
def spec_RecallBatches.j1 : Nat → List (S39) → Int → List Int → Int → Bool → Option (List Int)
 | 0, _, _, _, _, _ => none
 | k + 1, x0, x1, x5, x6, x15 => if x15 = true then (if 0 ≤ x6 then (if x6 < (x0.length : Int) then ((spec_l15Has.f k ((rd_T39 x0 x6).f1) x1).bind fun t177 => (if t177 = true then (if x5.length < 17592186044416 then (spec_RecallBatches.l0 k x0 x1 (x5 ++ [(rd_T39 x0 x6).f0]) (wrap64 (x6 + 1))) else (none)) else (spec_RecallBatches.l0 k x0 x1 x5 (wrap64 (x6 + 1))))) else (none)) else (none)) else (some x5)
end
def spec_RecallBatches.f (k : Nat) (l0 : List (S39)) (a1 : Int) : Option (List Int) := spec_RecallBatches.l0 k l0 a1 (([] : List Int)) 0
set_option maxHeartbeats 8000000 in
set_option maxRecDepth 100000 in
theorem spec_RecallBatches.calls (k : Nat) (A0 : Option Addr) (c0 : Nat) (l0 : List (S39)) (a1 : Int) (r : List Int) (w : World) (hr0 : Kd.C k39 w A0 l0.length l0) (hc0 : l0.length ≤ c0) (h : spec_RecallBatches.f k l0 a1 = some r) :
    Calls Try.prog 22 #[.slice A0 l0.length c0, .int .i64 a1] w fun e w' => ∃ v0_ : Value, e = .returned (v0_) ∧ Kd.R (Kd.int .i64) 3 w' w.heap.size (fun _ => True) v0_ r ∧ Below w.heap.size w w' := by
 have HR0 := Ae_q hr0
 have HC0 := Ae_q hc0
 clear hr0 hc0
 have HB := Ae_q (bR_q w.heap.size w)
 have H : (spec_RecallBatches.l0 k l0 a1 (([] : List Int)) 0) = some r := h
 clear h
 obtain ⟨y172, hy172⟩ : ∃ y_ : List Int, y_ = (([] : List Int)) := ⟨_, rfl⟩
 replace H : (spec_RecallBatches.l0 k l0 a1 y172 0) = some r := by first | (rw [hy172]; with_reducible exact H) | (have H2_ := (oS_q _ _).symm.trans H; rw [hy172]; with_reducible exact H2_) | (have H2_ := (oS_q _ _).symm.trans H; with_reducible exact H2_) | with_reducible exact H | (rw [hy172]; exact H) | exact H
 have Ny172 := Ae_q hy172
 clear hy172
 have H' := Ae_q H
 clear H
 go_enter Try.func22, Try.ntmps22
 go_wp2_with (first | ((with_reducible refine gD_q (N := 7) rfl ?_); refine Kd.R_lit (Kd.int .i64) _ 3 ?hg (N := 7) ?hd (xs := ([] : List Int)) (inner := []) (ok := fun _ => True) (okp := fun _ => True) ?hr ?hp (fun _ hk => hk) trivial (bR_q _ _) (nR_q _) (by simp) ?_; (case hd => rfl); (case hg => rfl); (case hr => exact m10_q); (case hp => exact (Reps.none _ _)); intro v173 w3 ho4 hb hg_ hnew_; clear hg_ hnew_; (first | rw [← Ny172.out] at ho4 | (simp only [Int.reduceToNat] at ho4; rw [← Ny172.out] at ho4)); have HO174 := Ae_q (rL_q ho4 (bZ_q (bel HB.out))); replace HB := Ae_q (bT_q (bel HB.out) hb); clear hb ho4))
 go_loopg [5, 6] k (fun kq v5 v6 w' => ∃ (x5_1 : List Int) (x6_1 : Int), v6 = .int .i64 x6_1 ∧ Aside0 (spec_RecallBatches.l0 kq l0 a1 x5_1 x6_1 = some r) ∧ Aside0 (kq ≤ k) ∧ Aside0 (Kd.R (Kd.int .i64) 3 w' w.heap.size (fun _ => True) v5 x5_1) ∧ Aside0 (Below w.heap.size w w'))
 case atStart => exact ⟨(y172), (0), m3_q, H', ⟨nR_q _⟩, ⟨rup HO174.out⟩, ⟨bel HB.out⟩⟩
 case round =>
  clear H'
  try clear c2
  try clear p2
  obtain ⟨x5_1, x6_1, rfl, HA, HK1, HO_5, HB⟩ := hrel
  cases gk with
  | zero => exact absurd HA.out (by simp [spec_RecallBatches.l0])
  | succ k1 =>
   have H := HA.out
   clear HA
   simp only [spec_RecallBatches.l0] at H
   have HC5 := Ae_q H
   clear H
   go_upto_region 3 with (fail)
   go_cut [15] (fun v15 wc => ∃ (kq : Nat) (x15_4 : Bool), v15 = .bool x15_4 ∧ Aside0 (spec_RecallBatches.j1 kq l0 a1 x5_1 x6_1 x15_4 = some r) ∧ Aside0 (kq ≤ k1) ∧ Aside0 (Kd.R (Kd.int .i64) 3 wc w.heap.size (fun _ => True) u5 x5_1) ∧ Aside0 (Below w.heap.size w wc))
   case first =>
    have H := HC5.out
    clear HC5
    by_cases c6 : x6_1 < (l0.length : Int)
    rotate_left
    ·rw [if_neg c6] at H
     have c6b0 : decide (x6_1 < (l0.length : Int)) = false := dF_q c6
     clear c6
     (first | rw [c6b0] | (simp only [i64_w, i32_w]; rw [c6b0]) | skip)
     have H' := Ae_q H
     clear H
     go_wp2
     go_meet
     case rel => exact ⟨_, (false), m3_q, H', ⟨by have := HK1.out; first | omega | exact nR_q _⟩, ⟨rup HO_5.out⟩, ⟨bel HB.out⟩⟩
    rw [if_pos c6] at H
    have c6b0 : decide (x6_1 < (l0.length : Int)) = true := dT_q c6
    clear c6
    (first | rw [c6b0] | (simp only [i64_w, i32_w]; rw [c6b0]) | skip)
    replace H := oB_q.mp H
    obtain ⟨t175, A70, H⟩ := H
    replace H : (spec_RecallBatches.j1 k1 l0 a1 x5_1 x6_1 t175) = some r := H
    have A7 := Ae_q A70
    clear A70
    have H' := Ae_q H
    clear H
    go_wp2_with (first | (go_at_call 16; (with_reducible refine (spec_BatchesValid.calls k1 _ _ l0 t175 _ ?side1 ?side2 A7.out).mono ?_); (case side1 => exact m29_q); (case side2 => exact m30_q); rintro e w8 ⟨rfl, hb⟩; replace HO_5 := Ae_q (rO_q (rup HO_5.out) hb); replace HB := Ae_q (bT_q (bel HB.out) hb); (try clear hb); (try clear hb2); (try clear hk); (try clear hi)))
    go_meet
    case rel => exact ⟨_, (t175), m3_q, H', ⟨by have := HK1.out; first | omega | exact nR_q _⟩, ⟨rup HO_5.out⟩, ⟨bel HB.out⟩⟩
   case rest =>
    clear HC5
    try clear c2
    try clear p2
    try clear c6
    try clear c6b0
    try clear p2
    obtain ⟨kq, x15_4, rfl, HA, HJ4, HO_5, HB⟩ := hcut
    cases kq with
    | zero => exact absurd HA.out (by simp [spec_RecallBatches.j1])
    | succ kj4 =>
     have H := HA.out
     clear HA
     simp only [spec_RecallBatches.j1] at H
     by_cases c9 : x15_4 = true
     rotate_left
     ·replace c9 := fM_q.mpr c9
      subst c9
      have H1 : (some x5_1) = some r := by rw [if_neg (show ¬ (false = true) by decide)] at H; exact H
      clear H
      have H := H1
      clear H1
      obtain rfl := oI_q H
      go_wp2
      go_ret
      exact ⟨_, m2_q, rup HO_5.out, bel HB.out⟩
     subst c9
     have H1 : (if 0 ≤ x6_1 then (if x6_1 < (l0.length : Int) then ((spec_l15Has.f kj4 ((rd_T39 l0 x6_1).f1) a1).bind fun t177 => (if t177 = true then (if x5_1.length < 17592186044416 then (spec_RecallBatches.l0 kj4 l0 a1 (x5_1 ++ [(rd_T39 l0 x6_1).f0]) (wrap64 (x6_1 + 1))) else (none)) else (spec_RecallBatches.l0 kj4 l0 a1 x5_1 (wrap64 (x6_1 + 1))))) else (none)) else (none)) = some r := by rw [if_pos rfl] at H; exact H
     clear H
     have H := H1
     clear H1
     by_cases c10 : 0 ≤ x6_1
     rotate_left
     ·rw [if_neg c10] at H
      exact absurd H (by simp)
     rw [if_pos c10] at H
     have c10b0 : decide (0 ≤ x6_1) = true := dT_q c10
     clear c10
     by_cases c11 : x6_1 < (l0.length : Int)
     rotate_left
     ·rw [if_neg c11] at H
      exact absurd H (by simp)
     rw [if_pos c11] at H
     have c11b0 : decide (x6_1 < (l0.length : Int)) = true := dT_q c11
     clear c11
     replace H := oB_q.mp H
     obtain ⟨t177, A120, H⟩ := H
     replace H : (if t177 = true then (if x5_1.length < 17592186044416 then (spec_RecallBatches.l0 kj4 l0 a1 (x5_1 ++ [(rd_T39 l0 x6_1).f0]) (wrap64 (x6_1 + 1))) else (none)) else (spec_RecallBatches.l0 kj4 l0 a1 x5_1 (wrap64 (x6_1 + 1)))) = some r := H
     have A12 := Ae_q A120
     clear A120
     by_cases c13 : t177 = true
     rotate_left
     ·replace c13 := fM_q.mpr c13
      subst c13
      have H1 : (spec_RecallBatches.l0 kj4 l0 a1 x5_1 (wrap64 (x6_1 + 1))) = some r := by rw [if_neg (show ¬ (false = true) by decide)] at H; exact H
      clear H
      have H := H1
      clear H1
      have H' := Ae_q H
      clear H
      have p176 : 0 ≤ (x6_1 : Int) := oD_q (by assumption)
      have q176 : x6_1 < (l0.length : Int) := oD_q (by assumption)
      obtain ⟨ad176, A176_1, c176_1, e176, hx176_0, hx176_1, hx176_2, hx176_3, hl176_1, hi176_1⟩ := at_T39 HR0.out x6_1 p176 q176
      cases e176
      replace hx176_0 := cel HB.out hx176_0
      replace hx176_1 := cel HB.out hx176_1
      replace hx176_2 := cel HB.out hx176_2
      replace hx176_3 := cel HB.out hx176_3
      have HR176_1 := Ae_q hi176_1
      have HC176_1 := Ae_q hl176_1
      clear hi176_1 hl176_1
      replace p176 := eq_true p176
      replace q176 := eq_true q176
      go_wp2_with (first | ((with_reducible refine gC_q (f := 54) rfl ?_); refine gL_q (some 24) rfl rfl Try.func54 m5_q rfl #[.slice A176_1 ((rd_T39 l0 x6_1).f1).length c176_1, .int .i64 a1] rfl m0_q ?_; (with_reducible refine (spec_l15Has.calls kj4 _ _ ((rd_T39 l0 x6_1).f1) a1 false _ ?side1 ?side2 A12.out).mono ?_); (case side1 => exact cup (cB_q HR176_1.out HB.out)); (case side2 => exact HC176_1.out); rintro e w' ⟨rfl, ⟨nd, rfl⟩⟩; refine ⟨_, rfl, ?_⟩))
      go_roundg kj4
      case measure => have := HK1.out; have := HJ4.out; omega
      case rel => exact ⟨(x5_1), (wrap64 (x6_1 + 1)), m3_q, H', ⟨by have := HK1.out; have := HJ4.out; omega⟩, ⟨rup HO_5.out⟩, ⟨bel HB.out⟩⟩
     subst c13
     have H1 : (if x5_1.length < 17592186044416 then (spec_RecallBatches.l0 kj4 l0 a1 (x5_1 ++ [(rd_T39 l0 x6_1).f0]) (wrap64 (x6_1 + 1))) else (none)) = some r := by rw [if_pos rfl] at H; exact H
     clear H
     have H := H1
     clear H1
     by_cases c14 : x5_1.length < 17592186044416
     rotate_left
     ·rw [if_neg c14] at H
      exact absurd H (by simp)
     rw [if_pos c14] at H
     have LMc14 := Ae_q c14
     clear c14
     obtain ⟨y179, hy179⟩ : ∃ y_ : List Int, y_ = (x5_1 ++ [(rd_T39 l0 x6_1).f0]) := ⟨_, rfl⟩
     replace H : (spec_RecallBatches.l0 kj4 l0 a1 y179 (wrap64 (x6_1 + 1))) = some r := by first | (rw [hy179]; with_reducible exact H) | (have H2_ := (oS_q _ _).symm.trans H; rw [hy179]; with_reducible exact H2_) | (have H2_ := (oS_q _ _).symm.trans H; with_reducible exact H2_) | with_reducible exact H | (rw [hy179]; exact H) | exact H
     have Ny179 := Ae_q hy179
     clear hy179
     have H' := Ae_q H
     clear H
     have p176 : 0 ≤ (x6_1 : Int) := oD_q (by assumption)
     have q176 : x6_1 < (l0.length : Int) := oD_q (by assumption)
     obtain ⟨ad176, A176_1, c176_1, e176, hx176_0, hx176_1, hx176_2, hx176_3, hl176_1, hi176_1⟩ := at_T39 HR0.out x6_1 p176 q176
     cases e176
     replace hx176_0 := cel HB.out hx176_0
     replace hx176_1 := cel HB.out hx176_1
     replace hx176_2 := cel HB.out hx176_2
     replace hx176_3 := cel HB.out hx176_3
     have HR176_1 := Ae_q hi176_1
     have HC176_1 := Ae_q hl176_1
     clear hi176_1 hl176_1
     replace p176 := eq_true p176
     replace q176 := eq_true q176
     go_wp2_with (first | ((with_reducible refine gC_q (f := 54) rfl ?_); refine gL_q (some 24) rfl rfl Try.func54 m5_q rfl #[.slice A176_1 ((rd_T39 l0 x6_1).f1).length c176_1, .int .i64 a1] rfl m0_q ?_; (with_reducible refine (spec_l15Has.calls kj4 _ _ ((rd_T39 l0 x6_1).f1) a1 true _ ?side1 ?side2 A12.out).mono ?_); (case side1 => exact cup (cB_q HR176_1.out HB.out)); (case side2 => exact HC176_1.out); rintro e w' ⟨rfl, ⟨nd, rfl⟩⟩; refine ⟨_, rfl, ?_⟩; have p178 : 0 ≤ (x6_1 : Int) := oD_q (by assumption); have q178 : x6_1 < (l0.length : Int) := oD_q (by assumption); obtain ⟨ad178, A178_1, c178_1, e178, hx178_0, hx178_1, hx178_2, hx178_3, hl178_1, hi178_1⟩ := at_T39 HR0.out x6_1 p178 q178; obtain rfl : ad176 = ad178 := (by injection e178); replace hx178_0 := cel HB.out hx178_0; replace hx178_1 := cel HB.out hx178_1; replace hx178_2 := cel HB.out hx178_2; replace hx178_3 := cel HB.out hx178_3; have HR178_1 := Ae_q hi178_1; have HC178_1 := Ae_q hl178_1; clear hi178_1 hl178_1; replace p178 := eq_true p178; replace q178 := eq_true q178; have ea_ := oI_q (hx176_1.symm.trans hx178_1); injection ea_ with ea_ en_ ec_; subst ea_; subst ec_; clear en_) | ((with_reducible refine gate_builtin (b := .append) (xs := #[.tmp 25, .tmp 31]) rfl ?_); at_builtin; refine Kd.R_append (Kd.int .i64) (w0 := w) w.heap.size rfl (.tmp 25) (.tmp 31) 34 3 (.int .i64 0) 8 rfl Try.underlying34 info3 rfl (by decide) (by omega) u5 x5_1 ((rd_T39 l0 x6_1).f0) [.int .i64 ((rd_T39 l0 x6_1).f0)] (fun _ => True) (fun _ => False) rfl rfl ?aP (fun _ hk => hk.elim) ?aF ?aO ?aB ?aS ?aL ?_; (case aP => exact rfl); (case aB => exact (bel HB.out)); (case aF => exact (fun _ _ => trivial)); (case aO => exact (rup HO_5.out)); (case aS => exact (bZ_q (bel HB.out))); (case aL => have := LMc14.out; omega); intro v180 w15 ho hb hg hat; rw [← Ny179.out] at ho; replace HB := Ae_q (hb); have HO181 := Ae_q (ho); clear HO_5; clear ho hb hg hat))
     go_roundg kj4
     case measure => have := HK1.out; have := HJ4.out; omega
     case rel => exact ⟨(y179), (wrap64 (x6_1 + 1)), m3_q, H', ⟨by have := HK1.out; have := HJ4.out; omega⟩, ⟨rup HO181.out⟩, ⟨bel HB.out⟩⟩

def laws_markIntS.l0 : Nat → List Int → Int → Int → Option (Int × List Int)
 | 0, _, _, _ => none
 | k + 1, x0, x1, x5 => if x5 < (x0.length : Int) then (if 0 ≤ x5 then (laws_markIntS.l0 k (x0.set (x5 : Int).toNat x1) (wrap64 (x1 + 1)) (wrap64 (x5 + 1))) else (none)) else (some (x1, x0))
def laws_markIntS.f (k : Nat) (l0 : List Int) (a1 : Int) : Option (Int × List Int) := laws_markIntS.l0 k l0 a1 0
set_option maxHeartbeats 8000000 in
set_option maxRecDepth 100000 in
theorem laws_markIntS.calls (k : Nat) (P0_ : Nat → Prop) (u9000_ : Value) (l0 : List Int) (a1 : Int) (r1 : Int) (r2 : List Int) (w0 w : World) (hB : Below w0.heap.size w0 w) (ho0 : Kd.R (Kd.int .i64) 3 w w0.heap.size P0_ u9000_ l0) (h : laws_markIntS.f k l0 a1 = some (r1, r2)) :
    Calls Try.prog 27 #[u9000_, .int .i64 a1] w fun e w' => e = .returned (.int .i64 r1) ∧ Kd.R (Kd.int .i64) 3 w' w0.heap.size (fun k_ => (P0_ k_ ∨ w.heap.size ≤ k_)) u9000_ r2 ∧ Below w0.heap.size w0 w' ∧ Kept w w' (fun k_ => P0_ k_) := by
 have HO0 := Ae_q (show Kd.R (Kd.int .i64) 3 w w0.heap.size (fun k_ => (P0_ k_ ∨ w.heap.size ≤ k_)) u9000_ l0 from rM_q ho0 (fun k_ hk => (.inl hk)))
 have HK := Ae_q (Kept.refl w (fun k_ => P0_ k_))
 have HW0 := Ae_q hB.size
 have HB := Ae_q hB
 clear hB
 have H : (laws_markIntS.l0 k l0 a1 0) = some (r1, r2) := h
 clear h
 have H' := Ae_q H
 clear H
 go_enter Try.func27, Try.ntmps27
 go_wp2
 go_loopg [1, 5] k (fun kq v1 v5 w' => ∃ (x0_1 : List Int) (x1_1 : Int) (x5_1 : Int), v1 = .int .i64 x1_1 ∧ v5 = .int .i64 x5_1 ∧ Aside0 (laws_markIntS.l0 kq x0_1 x1_1 x5_1 = some (r1, r2)) ∧ Aside0 (kq ≤ k) ∧ Aside0 (Kd.R (Kd.int .i64) 3 w' w0.heap.size (fun k_ => (P0_ k_ ∨ w.heap.size ≤ k_)) u9000_ x0_1) ∧ Aside0 (Kept w w' (fun k_ => P0_ k_)) ∧ Aside0 (Below w0.heap.size w0 w'))
 case atStart => exact ⟨(l0), (a1), (0), m3_q, m3_q, H', ⟨nR_q _⟩, ⟨rup HO0.out⟩, ⟨m25_q⟩, ⟨bel HB.out⟩⟩
 case round =>
  clear H'
  try clear c2
  try clear p2
  obtain ⟨x0_1, x1_1, x5_1, rfl, rfl, HA, HK1, HO_0, HK, HB⟩ := hrel
  cases gk with
  | zero => exact absurd HA.out (by simp [laws_markIntS.l0])
  | succ k1 =>
   have H := HA.out
   clear HA
   simp only [laws_markIntS.l0] at H
   by_cases c3 : x5_1 < (x0_1.length : Int)
   rotate_left
   ·rw [if_neg c3] at H
    have c3b0 : decide (x5_1 < (x0_1.length : Int)) = false := dF_q c3
    clear c3
    simp only [oE_q, pE_q] at H
    obtain ⟨rfl, rfl⟩ := H
    obtain ⟨Ao9, co9, eo9⟩ := rS_q HO_0.out
    subst eo9
    go_wp2
    go_ret
    exact ⟨m2_q, rup HO_0.out, bel HB.out, m25_q⟩
   rw [if_pos c3] at H
   have c3b0 : decide (x5_1 < (x0_1.length : Int)) = true := dT_q c3
   clear c3
   by_cases c4 : 0 ≤ x5_1
   rotate_left
   ·rw [if_neg c4] at H
    exact absurd H (by simp)
   rw [if_pos c4] at H
   have c4b0 : decide (0 ≤ x5_1) = true := dT_q c4
   clear c4
   obtain ⟨y182, hy182⟩ : ∃ y_ : List Int, y_ = (x0_1.set (x5_1 : Int).toNat x1_1) := ⟨_, rfl⟩
   replace H : (laws_markIntS.l0 k1 y182 (wrap64 (x1_1 + 1)) (wrap64 (x5_1 + 1))) = some (r1, r2) := by first | (rw [hy182]; with_reducible exact H) | (have H2_ := (oS_q _ _).symm.trans H; rw [hy182]; with_reducible exact H2_) | (have H2_ := (oS_q _ _).symm.trans H; with_reducible exact H2_) | with_reducible exact H | (rw [hy182]; exact H) | exact H
   have Ny182 := Ae_q hy182
   clear hy182
   have H' := Ae_q H
   clear H
   obtain ⟨Ao6, co6, eo6⟩ := rS_q HO_0.out
   subst eo6
   have p5 : 0 ≤ (x5_1 : Int) := oD_q (by assumption)
   have q5 : (x5_1 : Int) < ((x0_1.length : Int) : Int) := oD_q (by assumption)
   obtain ⟨go5, co5, eo5, gb5, gl5, cl5, HG5⟩ := Kd.R_form HO_0.out (by omega)
   (first | cases eo5 | (injection eo5 with ea_ en_ ec_; (first | subst ea_ | (injection ea_ with ea_; subst ea_)); subst ec_; clear en_))
   have GB5 := Ae_q gb5
   have GG5 := Ae_q HG5
   clear gb5 gl5 HG5
   have HMgo5 := Ae_q (show (P0_ go5 ∨ w.heap.size ≤ go5) from (HO_0.out.1 _ rfl))
   obtain ⟨hx5_0, hf5_0⟩ := Kd.R_celln 0 HO_0.out (x5_1 : Int) p5 q5
   replace p5 := eq_true p5
   replace q5 := eq_true q5
   have HP7 := Kd.R_putg HO_0.out (x5_1 : Int) x1_1
   go_wp2_with (first | ((with_reducible refine gate_store (t := 3) (p := 15) rfl ?_); refine store_event (t := 3) (p := 15) (v := ?vo_w8) (w1 := (wr.setCell ⟨go5, (x5_1 : Int).toNat, none⟩ (.int .i64 x1_1))) ?hg ?ho ?hn ?hr ?_; (case ho => rfl); (case hg => rfl); (case hn => rfl); (case hr => exact m10_q); intro w8 hw; have hg : wr.grownBy w8 (some go5) := (by rw [hw]; exact HP7.2); have hp_ : Kd.R (Kd.int .i64) 3 w8 w0.heap.size (fun k_ => (P0_ k_ ∨ w.heap.size ≤ k_)) (.slice (some ⟨go5, 0, none⟩) x0_1.length co6) y182 := (by rw [hw, Ny182.out]; exact HP7.1); clear HP7; replace HB := Ae_q ((by rw [hw]; exact bS_q (HB.out) GB5.out : Below w0.heap.size w0 w8)); replace HK := Ae_q (Kept.of_grown (S := (fun k_ => P0_ k_)) hg m25_q (fun k_ e_ => (HO_0.out.1 k_ e_))); replace HO_0 := Ae_q (hp_); clear hg hw hp_))
   go_roundg k1
   case measure => have := HK1.out; omega
   case rel => exact ⟨(y182), (wrap64 (x1_1 + 1)), (wrap64 (x5_1 + 1)), m3_q, m3_q, H', ⟨m23_q⟩, ⟨rup HO_0.out⟩, ⟨m25_q⟩, ⟨bel HB.out⟩⟩

end Go.Proofs.Ytnckblolijkdaaa.PBt
