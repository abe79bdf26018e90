import Derived.Test.YtnckblolijkdaaaVJPBtx0
import Derived.Test.YtnckblolijkdaaaVJPBtx1
namespace Go.Proofs.Ytnckblolijkdaaa.PBt
open Go.RowKit Go.Proofs.YtnckblolijkdaaaW.PrintWords Go.Proofs.YtnckblolijkdaaaW.PrintLast Go.Proofs.YtnckblolijkdaaaW.PrintMore
attribute [local go_sem] max2_int min2_int max_two min_two max_three min_three max_four min_four
set_option linter.unusedVariables false
set_option linter.unusedSimpArgs false

def laws_eqBatchS.l0 : Nat → List (S39) → List (S39) → Int → Option (Bool)
 | 0, _, _, _ => none
 | k + 1, x0, x1, x5 => if x5 < (x0.length : Int) then (if 0 ≤ x5 then (if x5 < (x1.length : Int) then ((laws_eqBatch.f k ((rd_T39 x0 x5).f0) ((rd_T39 x0 x5).f1) ((rd_T39 x0 x5).f2) ((rd_T39 x0 x5).f3) ((rd_T39 x1 x5).f0) ((rd_T39 x1 x5).f1) ((rd_T39 x1 x5).f2) ((rd_T39 x1 x5).f3)).bind fun t134 => (if t134 = true then (laws_eqBatchS.l0 k x0 x1 (wrap64 (x5 + 1))) else (some false))) else (none)) else (none)) else (some true)
def laws_eqBatchS.f (k : Nat) (l0 : List (S39)) (l1 : List (S39)) : Option (Bool) := if (l0.length : Int) = (l1.length : Int) then (laws_eqBatchS.l0 k l0 l1 0) else (some false)
def laws_eqBatchS.T6 : Bool × List (List Nat × List Nat) := (true, [([], []), ([], []), ([0, 1], [0, 1]), ([2], [2]), ([], []), ([], []), ([4, 5], [4, 5]), ([6], [6]), ([3, 7], [3, 7]), ([8], [8])])
def laws_eqBatchS.B6 : List Nat := [0, 0, 3, 7, 0, 0, 48, 112, 255, 511]
theorem laws_eqBatchS.tab6 : rtab .any (opsOf Try.f19 6) = laws_eqBatchS.T6 := by kernel_rfl
theorem laws_eqBatchS.bits6 : waitsOk laws_eqBatchS.T6.2 laws_eqBatchS.B6 = true := by kernel_rfl
set_option maxHeartbeats 8000000 in
set_option maxRecDepth 100000 in
theorem laws_eqBatchS.calls (k : Nat) (A0 : Option Addr) (c0 : Nat) (l0 : List (S39)) (A1 : Option Addr) (c1 : Nat) (l1 : List (S39)) (r : Bool) (w : World) (hr0 : Kd.C k39 w A0 l0.length l0) (hc0 : l0.length ≤ c0) (hr1 : Kd.C k39 w A1 l1.length l1) (hc1 : l1.length ≤ c1) (h : laws_eqBatchS.f k l0 l1 = some r) :
    Calls Try.prog 19 #[.slice A0 l0.length c0, .slice A1 l1.length c1] w fun e w' => e = .returned (.bool r) ∧ Below w.heap.size w w' := by
 have hu39 := Try.underlying39
 have HR0 := Ae_q hr0
 have HC0 := Ae_q hc0
 clear hr0 hc0
 have HR1 := Ae_q hr1
 have HC1 := Ae_q hc1
 clear hr1 hc1
 have HB := Ae_q (bR_q w.heap.size w)
 have H : (if (l0.length : Int) = (l1.length : Int) then (laws_eqBatchS.l0 k l0 l1 0) else (some false)) = some r := h
 clear h
 by_cases c3 : (l0.length : Int) = (l1.length : Int)
 rotate_left
 ·rw [if_neg c3] at H
  have c3b0 : ((l0.length : Int) == (l1.length : Int)) = false := fN_q.mpr c3
  have c3b1 : ((l0.length : Int) != (l1.length : Int)) = true := nI_q.mpr c3
  have c3b2 : (l0.length == l1.length) = false := by first | simpa using c3 | (simp at c3 ⊢; omega)
  obtain rfl := oI_q H
  go_enter Try.func19, Try.ntmps19
  go_wp2
  go_ret
  exact ⟨m2_q, bel HB.out⟩
 rw [if_pos c3] at H
 have c3b0 : ((l0.length : Int) == (l1.length : Int)) = true := beq_iff_eq.mpr c3
 have c3b1 : ((l0.length : Int) != (l1.length : Int)) = false := nE_q.mpr c3
 have c3b2 : (l0.length == l1.length) = true := by first | simpa using c3 | (simp at c3 ⊢; omega)
 clear c3
 have H' := Ae_q H
 clear H
 go_enter Try.func19, Try.ntmps19
 go_wp2
 go_loopg [5] k (fun kq v5 w' => ∃ (x5_1 : Int), v5 = .int .i64 x5_1 ∧ Aside0 (laws_eqBatchS.l0 kq l0 l1 x5_1 = some r) ∧ Aside0 (kq ≤ k) ∧ Aside0 (Below w.heap.size w w'))
 case atStart => exact ⟨(0), m3_q, H', ⟨nR_q _⟩, ⟨bel HB.out⟩⟩
 case round =>
  clear H'
  try clear c1
  try clear p2
  try clear c3
  try clear c3b0
  try clear c3b1
  try clear c3b2
  obtain ⟨x5_1, rfl, HA, HK1, HB⟩ := hrel
  cases gk with
  | zero => exact absurd HA.out (by simp [laws_eqBatchS.l0])
  | succ k1 =>
   have H := HA.out
   clear HA
   simp only [laws_eqBatchS.l0] at H
   by_cases c4 : x5_1 < (l0.length : Int)
   rotate_left
   ·rw [if_neg c4] at H
    have c4b0 : decide (x5_1 < (l0.length : Int)) = false := dF_q c4
    clear c4
    obtain rfl := oI_q H
    go_wp2
    go_ret
    exact ⟨m2_q, bel HB.out⟩
   rw [if_pos c4] at H
   have c4b0 : decide (x5_1 < (l0.length : Int)) = true := dT_q c4
   clear c4
   by_cases c5 : 0 ≤ x5_1
   rotate_left
   ·rw [if_neg c5] at H
    exact absurd H (by simp)
   rw [if_pos c5] at H
   have c5b0 : decide (0 ≤ x5_1) = true := dT_q c5
   clear c5
   by_cases c6 : x5_1 < (l1.length : Int)
   rotate_left
   ·rw [if_neg c6] at H
    exact absurd H (by simp)
   rw [if_pos c6] at H
   have c6b0 : decide (x5_1 < (l1.length : Int)) = true := dT_q c6
   clear c6
   replace H := oB_q.mp H
   obtain ⟨t134, A70, H⟩ := H
   replace H : (if t134 = true then (laws_eqBatchS.l0 k1 l0 l1 (wrap64 (x5_1 + 1))) else (some false)) = some r := H
   have A7 := Ae_q A70
   clear A70
   by_cases c8 : t134 = true
   ·subst c8
    have H1 : (laws_eqBatchS.l0 k1 l0 l1 (wrap64 (x5_1 + 1))) = some r := by rw [if_pos rfl] at H; exact H
    clear H
    have H := H1
    clear H1
    have H' := Ae_q H
    clear H
    try go_wp2
    replace HB := Ae_q (bD_q HB.out)
    have p132 : 0 ≤ (x5_1 : Int) := oD_q (by assumption)
    have q132 : x5_1 < (l0.length : Int) := oD_q (by assumption)
    obtain ⟨ad132, A132_1, c132_1, e132, hx132_0, hx132_1, hx132_2, hx132_3, hl132_1, hi132_1⟩ := at_T39 HR0.out x5_1 p132 q132
    have hw132_3 := hx132_3
    have hw132_2 := hx132_2
    have hw132_1 := hx132_1
    have hw132_0 := hx132_0
    cases e132
    replace hx132_0 := cel HB.out hx132_0
    replace hx132_1 := cel HB.out hx132_1
    replace hx132_2 := cel HB.out hx132_2
    replace hx132_3 := cel HB.out hx132_3
    have HR132_1 := Ae_q hi132_1
    have HC132_1 := Ae_q hl132_1
    clear hi132_1 hl132_1
    replace p132 := eq_true p132
    replace q132 := eq_true q132
    have p133 : 0 ≤ (x5_1 : Int) := oD_q (by assumption)
    have q133 : x5_1 < (l1.length : Int) := oD_q (by assumption)
    obtain ⟨ad133, A133_1, c133_1, e133, hx133_0, hx133_1, hx133_2, hx133_3, hl133_1, hi133_1⟩ := at_T39 HR1.out x5_1 p133 q133
    have hw133_3 := hx133_3
    have hw133_2 := hx133_2
    have hw133_1 := hx133_1
    have hw133_0 := hx133_0
    cases e133
    replace hx133_0 := cel HB.out hx133_0
    replace hx133_1 := cel HB.out hx133_1
    replace hx133_2 := cel HB.out hx133_2
    replace hx133_3 := cel HB.out hx133_3
    have HR133_1 := Ae_q hi133_1
    have HC133_1 := Ae_q hl133_1
    clear hi133_1 hl133_1
    replace p133 := eq_true p133
    replace q133 := eq_true q133
    refine start_ (n := 10) (S := fun w' => w'.cell? (ad132.add ((x5_1).toNat * 4)) = some (.int .i64 ((rd_T39 l0 x5_1).f0)) ∧ w'.cell? ⟨(ad132.add ((x5_1).toNat * 4)).block, (ad132.add ((x5_1).toNat * 4)).off + 1, none⟩ = some (.slice A132_1 ((rd_T39 l0 x5_1).f1).length c132_1) ∧ w'.cell? ⟨(ad132.add ((x5_1).toNat * 4)).block, (ad132.add ((x5_1).toNat * 4)).off + 2, none⟩ = some (.int .i64 ((rd_T39 l0 x5_1).f2)) ∧ w'.cell? ⟨(ad132.add ((x5_1).toNat * 4)).block, (ad132.add ((x5_1).toNat * 4)).off + 3, none⟩ = some (.int .i64 ((rd_T39 l0 x5_1).f3)) ∧ w'.cell? (ad133.add ((x5_1).toNat * 4)) = some (.int .i64 ((rd_T39 l1 x5_1).f0)) ∧ w'.cell? ⟨(ad133.add ((x5_1).toNat * 4)).block, (ad133.add ((x5_1).toNat * 4)).off + 1, none⟩ = some (.slice A133_1 ((rd_T39 l1 x5_1).f1).length c133_1) ∧ w'.cell? ⟨(ad133.add ((x5_1).toNat * 4)).block, (ad133.add ((x5_1).toNat * 4)).off + 2, none⟩ = some (.int .i64 ((rd_T39 l1 x5_1).f2)) ∧ w'.cell? ⟨(ad133.add ((x5_1).toNat * 4)).block, (ad133.add ((x5_1).toNat * 4)).off + 3, none⟩ = some (.int .i64 ((rd_T39 l1 x5_1).f3))) (ds := []) #[false, false, false, false, false, false, false, false, false, false] m5_q rfl rfl ⟨(cel HB.out hw132_0), (cel HB.out hw132_1), (cel HB.out hw132_2), (cel HB.out hw132_3), (cel HB.out hw133_0), (cel HB.out hw133_1), (cel HB.out hw133_2), (cel HB.out hw133_3)⟩ (fun hHeld => ?_); refine with_tabW laws_eqBatchS.tab6 laws_eqBatchS.bits6 (fun HT_ HW_ => ?_)
    generalize wr.drew = w9 at HB HR132_1 HR133_1 hx132_0 hx132_1 hx132_2 hx132_3 hx133_0 hx133_1 hx133_2 hx133_3 hHeld ⊢
    refine pJ HT_ 0 17 rfl rfl ?_
    refine pJ HT_ 1 18 rfl rfl ?_
    refine pJ HT_ 2 19 rfl rfl ?_
    refine pJ HT_ 4 21 rfl rfl ?_
    refine pJ HT_ 5 22 rfl rfl ?_
    refine pJ HT_ 6 23 rfl rfl ?_
    refine take_ (i := 3) (N := some 20) (v := ?_) (a' := ?_) #[true, true, true, true, true, true, true, false, false, false] rfl rfl (take_ofW HT_.out HW_.out m5_q) (fun _ _ _ h => h) (Or.inl ⟨by rfl, ?_⟩) hHeld ?_ ?_
    rotate_left
    ·rintro w' ⟨s0, s1, s2, s3, s4, s5, s6, s7⟩
     go_simp
     with_reducible rfl
    rotate_left
    ·simp only [pS_q]
     rfl
    refine take_ (i := 7) (N := some 24) (v := ?_) (a' := ?_) #[true, true, true, true, true, true, true, true, false, false] rfl rfl (take_ofW HT_.out HW_.out m5_q) (fun _ _ _ h => h) (Or.inl ⟨by rfl, ?_⟩) hHeld ?_ ?_
    rotate_left
    ·rintro w' ⟨s0, s1, s2, s3, s4, s5, s6, s7⟩
     go_simp
     with_reducible rfl
    rotate_left
    ·simp only [pS_q]
     rfl
    refine one_ (i := 8) (N := some 25) #[true, true, true, true, true, true, true, true, true, false] rfl rfl (one_of HT_.out m5_q) (by decide) (fun K hK => ?_)
    refine goes_ Try.func51 m5_q rfl #[.agg #[.int .i64 ((rd_T39 l0 x5_1).f0), .slice A132_1 ((rd_T39 l0 x5_1).f1).length c132_1, .int .i64 ((rd_T39 l0 x5_1).f2), .int .i64 ((rd_T39 l0 x5_1).f3)], .agg #[.int .i64 ((rd_T39 l1 x5_1).f0), .slice A133_1 ((rd_T39 l1 x5_1).f1).length c133_1, .int .i64 ((rd_T39 l1 x5_1).f2), .int .i64 ((rd_T39 l1 x5_1).f3)]] (by rfl) rfl rfl m0_q ?_
    with_reducible refine (laws_eqBatch.calls k1 ((rd_T39 l0 x5_1).f0) _ _ ((rd_T39 l0 x5_1).f1) ((rd_T39 l0 x5_1).f2) ((rd_T39 l0 x5_1).f3) ((rd_T39 l1 x5_1).f0) _ _ ((rd_T39 l1 x5_1).f1) ((rd_T39 l1 x5_1).f2) ((rd_T39 l1 x5_1).f3) true _ ?side1 ?side2 ?side3 ?side4 A7.out).mono ?_
    (case side1 => exact cup (cB_q HR132_1.out HB.out))
    (case side2 => exact HC132_1.out)
    (case side3 => exact cup (cB_q HR133_1.out HB.out))
    (case side4 => exact HC133_1.out)
    rintro e w' ⟨rfl, hb⟩
    refine ⟨_, rfl, ?_⟩
    replace HB := Ae_q (bT_q (bel HB.out) hb)
    (try clear hb)
    (try clear hb2)
    (try clear hk)
    (try clear hi)
    refine hK.out _ _ ⟨(cel (bel HB.out) hw132_0), (cel (bel HB.out) hw132_1), (cel (bel HB.out) hw132_2), (cel (bel HB.out) hw132_3), (cel (bel HB.out) hw133_0), (cel (bel HB.out) hw133_1), (cel (bel HB.out) hw133_2), (cel (bel HB.out) hw133_3)⟩ (fun hHeld => ?_)
    clear hK K
    refine nJ_q ?_
    refine pJ HT_ 9 26 rfl rfl ?_
    refine done_ (done_of HT_.out m5_q) ?_
    try go_wp2
    go_roundg k1
    case measure => have := HK1.out; omega
    case rel => exact ⟨(wrap64 (x5_1 + 1)), m3_q, H', ⟨m28_q⟩, ⟨bel HB.out⟩⟩
   replace c8 := fM_q.mpr c8
   subst c8
   have H1 : (some false) = some r := by rw [if_neg (show ¬ (false = true) by decide)] at H; exact H
   clear H
   have H := H1
   clear H1
   obtain rfl := oI_q H
   try go_wp2
   replace HB := Ae_q (bD_q HB.out)
   have p132 : 0 ≤ (x5_1 : Int) := oD_q (by assumption)
   have q132 : x5_1 < (l0.length : Int) := oD_q (by assumption)
   obtain ⟨ad132, A132_1, c132_1, e132, hx132_0, hx132_1, hx132_2, hx132_3, hl132_1, hi132_1⟩ := at_T39 HR0.out x5_1 p132 q132
   have hw132_3 := hx132_3
   have hw132_2 := hx132_2
   have hw132_1 := hx132_1
   have hw132_0 := hx132_0
   cases e132
   replace hx132_0 := cel HB.out hx132_0
   replace hx132_1 := cel HB.out hx132_1
   replace hx132_2 := cel HB.out hx132_2
   replace hx132_3 := cel HB.out hx132_3
   have HR132_1 := Ae_q hi132_1
   have HC132_1 := Ae_q hl132_1
   clear hi132_1 hl132_1
   replace p132 := eq_true p132
   replace q132 := eq_true q132
   have p133 : 0 ≤ (x5_1 : Int) := oD_q (by assumption)
   have q133 : x5_1 < (l1.length : Int) := oD_q (by assumption)
   obtain ⟨ad133, A133_1, c133_1, e133, hx133_0, hx133_1, hx133_2, hx133_3, hl133_1, hi133_1⟩ := at_T39 HR1.out x5_1 p133 q133
   have hw133_3 := hx133_3
   have hw133_2 := hx133_2
   have hw133_1 := hx133_1
   have hw133_0 := hx133_0
   cases e133
   replace hx133_0 := cel HB.out hx133_0
   replace hx133_1 := cel HB.out hx133_1
   replace hx133_2 := cel HB.out hx133_2
   replace hx133_3 := cel HB.out hx133_3
   have HR133_1 := Ae_q hi133_1
   have HC133_1 := Ae_q hl133_1
   clear hi133_1 hl133_1
   replace p133 := eq_true p133
   replace q133 := eq_true q133
   refine start_ (n := 10) (S := fun w' => w'.cell? (ad132.add ((x5_1).toNat * 4)) = some (.int .i64 ((rd_T39 l0 x5_1).f0)) ∧ w'.cell? ⟨(ad132.add ((x5_1).toNat * 4)).block, (ad132.add ((x5_1).toNat * 4)).off + 1, none⟩ = some (.slice A132_1 ((rd_T39 l0 x5_1).f1).length c132_1) ∧ w'.cell? ⟨(ad132.add ((x5_1).toNat * 4)).block, (ad132.add ((x5_1).toNat * 4)).off + 2, none⟩ = some (.int .i64 ((rd_T39 l0 x5_1).f2)) ∧ w'.cell? ⟨(ad132.add ((x5_1).toNat * 4)).block, (ad132.add ((x5_1).toNat * 4)).off + 3, none⟩ = some (.int .i64 ((rd_T39 l0 x5_1).f3)) ∧ w'.cell? (ad133.add ((x5_1).toNat * 4)) = some (.int .i64 ((rd_T39 l1 x5_1).f0)) ∧ w'.cell? ⟨(ad133.add ((x5_1).toNat * 4)).block, (ad133.add ((x5_1).toNat * 4)).off + 1, none⟩ = some (.slice A133_1 ((rd_T39 l1 x5_1).f1).length c133_1) ∧ w'.cell? ⟨(ad133.add ((x5_1).toNat * 4)).block, (ad133.add ((x5_1).toNat * 4)).off + 2, none⟩ = some (.int .i64 ((rd_T39 l1 x5_1).f2)) ∧ w'.cell? ⟨(ad133.add ((x5_1).toNat * 4)).block, (ad133.add ((x5_1).toNat * 4)).off + 3, none⟩ = some (.int .i64 ((rd_T39 l1 x5_1).f3))) (ds := []) #[false, false, false, false, false, false, false, false, false, false] m5_q rfl rfl ⟨(cel HB.out hw132_0), (cel HB.out hw132_1), (cel HB.out hw132_2), (cel HB.out hw132_3), (cel HB.out hw133_0), (cel HB.out hw133_1), (cel HB.out hw133_2), (cel HB.out hw133_3)⟩ (fun hHeld => ?_); refine with_tabW laws_eqBatchS.tab6 laws_eqBatchS.bits6 (fun HT_ HW_ => ?_)
   generalize wr.drew = w11 at HB HR132_1 HR133_1 hx132_0 hx132_1 hx132_2 hx132_3 hx133_0 hx133_1 hx133_2 hx133_3 hHeld ⊢
   refine pJ HT_ 0 17 rfl rfl ?_
   refine pJ HT_ 1 18 rfl rfl ?_
   refine pJ HT_ 2 19 rfl rfl ?_
   refine pJ HT_ 4 21 rfl rfl ?_
   refine pJ HT_ 5 22 rfl rfl ?_
   refine pJ HT_ 6 23 rfl rfl ?_
   refine take_ (i := 3) (N := some 20) (v := ?_) (a' := ?_) #[true, true, true, true, true, true, true, false, false, false] rfl rfl (take_ofW HT_.out HW_.out m5_q) (fun _ _ _ h => h) (Or.inl ⟨by rfl, ?_⟩) hHeld ?_ ?_
   rotate_left
   ·rintro w' ⟨s0, s1, s2, s3, s4, s5, s6, s7⟩
    go_simp
    with_reducible rfl
   rotate_left
   ·simp only [pS_q]
    rfl
   refine take_ (i := 7) (N := some 24) (v := ?_) (a' := ?_) #[true, true, true, true, true, true, true, true, false, false] rfl rfl (take_ofW HT_.out HW_.out m5_q) (fun _ _ _ h => h) (Or.inl ⟨by rfl, ?_⟩) hHeld ?_ ?_
   rotate_left
   ·rintro w' ⟨s0, s1, s2, s3, s4, s5, s6, s7⟩
    go_simp
    with_reducible rfl
   rotate_left
   ·simp only [pS_q]
    rfl
   refine one_ (i := 8) (N := some 25) #[true, true, true, true, true, true, true, true, true, false] rfl rfl (one_of HT_.out m5_q) (by decide) (fun K hK => ?_)
   refine goes_ Try.func51 m5_q rfl #[.agg #[.int .i64 ((rd_T39 l0 x5_1).f0), .slice A132_1 ((rd_T39 l0 x5_1).f1).length c132_1, .int .i64 ((rd_T39 l0 x5_1).f2), .int .i64 ((rd_T39 l0 x5_1).f3)], .agg #[.int .i64 ((rd_T39 l1 x5_1).f0), .slice A133_1 ((rd_T39 l1 x5_1).f1).length c133_1, .int .i64 ((rd_T39 l1 x5_1).f2), .int .i64 ((rd_T39 l1 x5_1).f3)]] (by rfl) rfl rfl m0_q ?_
   with_reducible refine (laws_eqBatch.calls k1 ((rd_T39 l0 x5_1).f0) _ _ ((rd_T39 l0 x5_1).f1) ((rd_T39 l0 x5_1).f2) ((rd_T39 l0 x5_1).f3) ((rd_T39 l1 x5_1).f0) _ _ ((rd_T39 l1 x5_1).f1) ((rd_T39 l1 x5_1).f2) ((rd_T39 l1 x5_1).f3) false _ ?side1 ?side2 ?side3 ?side4 A7.out).mono ?_
   (case side1 => exact cup (cB_q HR132_1.out HB.out))
   (case side2 => exact HC132_1.out)
   (case side3 => exact cup (cB_q HR133_1.out HB.out))
   (case side4 => exact HC133_1.out)
   rintro e w' ⟨rfl, hb⟩
   refine ⟨_, rfl, ?_⟩
   replace HB := Ae_q (bT_q (bel HB.out) hb)
   (try clear hb)
   (try clear hb2)
   (try clear hk)
   (try clear hi)
   refine hK.out _ _ ⟨(cel (bel HB.out) hw132_0), (cel (bel HB.out) hw132_1), (cel (bel HB.out) hw132_2), (cel (bel HB.out) hw132_3), (cel (bel HB.out) hw133_0), (cel (bel HB.out) hw133_1), (cel (bel HB.out) hw133_2), (cel (bel HB.out) hw133_3)⟩ (fun hHeld => ?_)
   clear hK K
   refine nJ_q ?_
   refine pJ HT_ 9 26 rfl rfl ?_
   refine done_ (done_of HT_.out m5_q) ?_
   try go_wp2
   go_ret
   exact ⟨m2_q, bel HB.out⟩

def laws_markIntS.l0 : Nat → List Int → Int → Int → Option (Int × List Int)
 | 0, _, _, _ => none
 | k + 1, x0, x1, x5 => if x5 < (x0.length : Int) then (if 0 ≤ x5 then (laws_markIntS.l0 k (x0.set (x5 : Int).toNat x1) (wrap64 (x1 + 1)) (wrap64 (x5 + 1))) else (none)) else (some (x1, x0))
def laws_markIntS.f (k : Nat) (l0 : List Int) (a1 : Int) : Option (Int × List Int) := laws_markIntS.l0 k l0 a1 0
set_option maxHeartbeats 8000000 in
set_option maxRecDepth 100000 in
theorem laws_markIntS.calls (k : Nat) (P0_ : Nat → Prop) (u9000_ : Value) (l0 : List Int) (a1 : Int) (r1 : Int) (r2 : List Int) (w0 w : World) (hB : Below w0.heap.size w0 w) (ho0 : Kd.R kI_q 3 w w0.heap.size P0_ u9000_ l0) (h : laws_markIntS.f k l0 a1 = some (r1, r2)) :
    Calls Try.prog 27 #[u9000_, .int .i64 a1] w fun e w' => e = .returned (.int .i64 r1) ∧ Kd.R kI_q 3 w' w0.heap.size (fun k_ => (P0_ k_ ∨ w.heap.size ≤ k_)) u9000_ r2 ∧ Below w0.heap.size w0 w' ∧ Kept w w' (fun k_ => P0_ k_) := by
 have HO0 := Ae_q (show Kd.R kI_q 3 w w0.heap.size (fun k_ => (P0_ k_ ∨ w.heap.size ≤ k_)) u9000_ l0 from rM_q ho0 (fun k_ hk => (.inl hk)))
 have HK := Ae_q (Kept.refl w (fun k_ => P0_ k_))
 have HW0 := Ae_q hB.size
 have HB := Ae_q hB
 clear hB
 have H : (laws_markIntS.l0 k l0 a1 0) = some (r1, r2) := h
 clear h
 have H' := Ae_q H
 clear H
 go_enter Try.func27, Try.ntmps27
 go_wp2
 go_loopg [1, 5] k (fun kq v1 v5 w' => ∃ (x0_1 : List Int) (x1_1 : Int) (x5_1 : Int), v1 = .int .i64 x1_1 ∧ v5 = .int .i64 x5_1 ∧ Aside0 (laws_markIntS.l0 kq x0_1 x1_1 x5_1 = some (r1, r2)) ∧ Aside0 (kq ≤ k) ∧ Aside0 (Kd.R kI_q 3 w' w0.heap.size (fun k_ => (P0_ k_ ∨ w.heap.size ≤ k_)) u9000_ x0_1) ∧ Aside0 (Kept w w' (fun k_ => P0_ k_)) ∧ Aside0 (Below w0.heap.size w0 w'))
 case atStart => exact ⟨(l0), (a1), (0), m3_q, m3_q, H', ⟨nR_q _⟩, ⟨rup HO0.out⟩, ⟨m15_q⟩, ⟨bel HB.out⟩⟩
 case round =>
  clear H'
  try clear c2
  try clear p2
  obtain ⟨x0_1, x1_1, x5_1, rfl, rfl, HA, HK1, HO_0, HK, HB⟩ := hrel
  cases gk with
  | zero => exact absurd HA.out (by simp [laws_markIntS.l0])
  | succ k1 =>
   have H := HA.out
   clear HA
   simp only [laws_markIntS.l0] at H
   by_cases c3 : x5_1 < (x0_1.length : Int)
   rotate_left
   ·rw [if_neg c3] at H
    have c3b0 : decide (x5_1 < (x0_1.length : Int)) = false := dF_q c3
    clear c3
    simp only [oE_q, pE_q] at H
    obtain ⟨rfl, rfl⟩ := H
    obtain ⟨Ao9, co9, eo9⟩ := rS_q HO_0.out
    subst eo9
    go_wp2
    go_ret
    exact ⟨m2_q, rup HO_0.out, bel HB.out, m15_q⟩
   rw [if_pos c3] at H
   have c3b0 : decide (x5_1 < (x0_1.length : Int)) = true := dT_q c3
   clear c3
   by_cases c4 : 0 ≤ x5_1
   rotate_left
   ·rw [if_neg c4] at H
    exact absurd H (by simp)
   rw [if_pos c4] at H
   have c4b0 : decide (0 ≤ x5_1) = true := dT_q c4
   clear c4
   obtain ⟨y135, hy135⟩ : ∃ y_ : List Int, y_ = (x0_1.set (x5_1 : Int).toNat x1_1) := ⟨_, rfl⟩
   replace H : (laws_markIntS.l0 k1 y135 (wrap64 (x1_1 + 1)) (wrap64 (x5_1 + 1))) = some (r1, r2) := by first | (rw [hy135]; with_reducible exact H) | (have H2_ := (oS_q _ _).symm.trans H; rw [hy135]; with_reducible exact H2_) | (have H2_ := (oS_q _ _).symm.trans H; with_reducible exact H2_) | with_reducible exact H | (rw [hy135]; exact H) | exact H
   have Ny135 := Ae_q hy135
   clear hy135
   have H' := Ae_q H
   clear H
   obtain ⟨Ao6, co6, eo6⟩ := rS_q HO_0.out
   subst eo6
   have p5 : 0 ≤ (x5_1 : Int) := oD_q (by assumption)
   have q5 : (x5_1 : Int) < ((x0_1.length : Int) : Int) := oD_q (by assumption)
   obtain ⟨go5, co5, eo5, gb5, gl5, cl5, HG5⟩ := Kd.R_form HO_0.out (by omega)
   (first | cases eo5 | (injection eo5 with ea_ en_ ec_; (first | subst ea_ | (injection ea_ with ea_; subst ea_)); subst ec_; clear en_))
   have GB5 := Ae_q gb5
   have GG5 := Ae_q HG5
   clear gb5 gl5 HG5
   have HMgo5 := Ae_q (show (P0_ go5 ∨ w.heap.size ≤ go5) from (HO_0.out.1 _ rfl))
   obtain ⟨hx5_0, hf5_0⟩ := Kd.R_celln 0 HO_0.out (x5_1 : Int) p5 q5
   replace p5 := eq_true p5
   replace q5 := eq_true q5
   have HP7 := Kd.R_putg HO_0.out (x5_1 : Int) x1_1
   go_wp2_with (first | ((with_reducible refine gate_store (t := 3) (p := 15) rfl ?_); refine store_event (t := 3) (p := 15) (v := ?vo_w8) (w1 := (wr.setCell ⟨go5, (x5_1 : Int).toNat, none⟩ (.int .i64 x1_1))) ?hg ?ho ?hn ?hr ?_; (case ho => rfl); (case hg => rfl); (case hn => rfl); (case hr => exact m6_q); intro w8 hw; have hg : wr.grownBy w8 (some go5) := (by rw [hw]; exact HP7.2); have hp_ : Kd.R kI_q 3 w8 w0.heap.size (fun k_ => (P0_ k_ ∨ w.heap.size ≤ k_)) (.slice (some ⟨go5, 0, none⟩) x0_1.length co6) y135 := (by rw [hw, Ny135.out]; exact HP7.1); clear HP7; replace HB := Ae_q ((by rw [hw]; exact bS_q (HB.out) GB5.out : Below w0.heap.size w0 w8)); replace HK := Ae_q (Kept.of_grown (S := (fun k_ => P0_ k_)) hg m15_q (fun k_ e_ => (HO_0.out.1 k_ e_))); replace HO_0 := Ae_q (hp_); clear hg hw hp_))
   go_roundg k1
   case measure => have := HK1.out; omega
   case rel => exact ⟨(y135), (wrap64 (x1_1 + 1)), (wrap64 (x5_1 + 1)), m3_q, m3_q, H', ⟨m28_q⟩, ⟨rup HO_0.out⟩, ⟨m15_q⟩, ⟨bel HB.out⟩⟩

end Go.Proofs.Ytnckblolijkdaaa.PBt
