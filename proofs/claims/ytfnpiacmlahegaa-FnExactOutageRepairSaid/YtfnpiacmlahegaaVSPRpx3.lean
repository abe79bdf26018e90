import Derived.Test.YtfnpiacmlahegaaVSPRpx0
namespace Go.Proofs.Ytfnpiacmlahegaa.PRp
open Go.RowKit Go.Proofs.YtfnpiacmlahegaaW.PrintWords Go.Proofs.YtfnpiacmlahegaaW.PrintLast Go.Proofs.YtfnpiacmlahegaaW.PrintMore
attribute [local go_sem] max2_int min2_int max_two min_two max_three min_three max_four min_four
set_option linter.unusedVariables false
set_option linter.unusedSimpArgs false

def laws_toIntS.l0 : Nat → List Int → List Int → Int → Option (List Int)
 | 0, _, _, _ => none
 | k + 1, x0, x3, x4 => if x4 < (x0.length : Int) then (if 0 ≤ x4 then (if x4 < (x3.length : Int) then (laws_toIntS.l0 k x0 (x3.set (x4 : Int).toNat (rd x0 x4)) (wrap64 (x4 + 1))) else (none)) else (none)) else (some x3)
def laws_toIntS.f (k : Nat) (l0 : List Int) : Option (List Int) := if 0 ≤ (l0.length : Int) then (if ((l0.length : Int) : Int).toNat ≤ 35184372088832 then (laws_toIntS.l0 k l0 (List.replicate ((l0.length : Int) : Int).toNat 0) 0) else (none)) else (none)
set_option maxHeartbeats 8000000 in
set_option maxRecDepth 100000 in
theorem laws_toIntS.calls (k : Nat) (A0 : Option Addr) (c0 : Nat) (l0 : List Int) (r : List Int) (w : World) (hr0 : Kd.C kI_q w A0 l0.length l0) (hc0 : l0.length ≤ c0) (h : laws_toIntS.f k l0 = some r) :
    Calls Try.prog 13 #[.slice A0 l0.length c0] w fun e w' => ∃ v0_ : Value, e = .returned (v0_) ∧ Kd.R kI_q 3 w' w.heap.size (fun _ => True) v0_ r ∧ Below w.heap.size w w' := by
 have HR0 := Ae_q hr0
 have HC0 := Ae_q hc0
 clear hr0 hc0
 have HB := Ae_q (bR_q w.heap.size w)
 have H : (if 0 ≤ (l0.length : Int) then (if ((l0.length : Int) : Int).toNat ≤ 35184372088832 then (laws_toIntS.l0 k l0 (List.replicate ((l0.length : Int) : Int).toNat 0) 0) else (none)) else (none)) = some r := h
 clear h
 by_cases c2 : 0 ≤ (l0.length : Int)
 rotate_left
 ·rw [if_neg c2] at H
  exact absurd H (by simp)
 rw [if_pos c2] at H
 have c2b0 := eq_true c2
 have c2b1 : decide (0 ≤ (l0.length : Int)) = true := dT_q c2
 clear c2
 by_cases c3 : ((l0.length : Int) : Int).toNat ≤ 35184372088832
 rotate_left
 ·rw [if_neg c3] at H
  exact absurd H (by simp)
 rw [if_pos c3] at H
 have c3b0 := eq_true c3
 have c3b1 : decide (((l0.length : Int) : Int).toNat ≤ 35184372088832) = true := dT_q c3
 clear c3
 obtain ⟨y135, hy135⟩ : ∃ y_ : List Int, y_ = (List.replicate ((l0.length : Int) : Int).toNat 0) := ⟨_, rfl⟩
 replace H : (laws_toIntS.l0 k l0 y135 0) = some r := by first | (rw [hy135]; with_reducible exact H) | (have H2_ := (oS_q _ _).symm.trans H; rw [hy135]; with_reducible exact H2_) | (have H2_ := (oS_q _ _).symm.trans H; with_reducible exact H2_) | with_reducible exact H | (rw [hy135]; exact H) | exact H
 have Ny135 := Ae_q hy135
 clear hy135
 have H' := Ae_q H
 clear H
 go_enter Try.func13, Try.ntmps13
 go_wp2_with (first | ((with_reducible refine gD_q (N := 7) rfl ?_); refine Kd.R_make kI_q _ 3 rfl (N := 7) rfl 23 _ _ rfl (l0.length : Int) rfl rfl Try.underlying23 (.int .i64 0) 8 info3 rfl (by decide) (by omega) 0 (ok := fun _ => True) (okp := fun _ => True) rfl (fun _ hk => hk) trivial (oD_q (by assumption)) (nT_q (Nat.mul_le_mul_right _ (oD_q (by assumption) : (l0.length : Int).toNat ≤ 35184372088832)) (by omega)) (bR_q _ _) (nR_q _) ?_; intro v136 w4 ho5 hb hg_ hnew_; clear hg_ hnew_; (first | rw [← Ny135.out] at ho5 | (simp only [Int.reduceToNat] at ho5; rw [← Ny135.out] at ho5)); have HO137 := Ae_q (rL_q ho5 (bZ_q (bel HB.out))); replace HB := Ae_q (bT_q (bel HB.out) hb); clear hb ho5))
 go_loopg [4] k (fun kq v4 w' => ∃ (x3_1 : List Int) (x4_1 : Int), v4 = .int .i64 x4_1 ∧ Aside0 (laws_toIntS.l0 kq l0 x3_1 x4_1 = some r) ∧ Aside0 (kq ≤ k) ∧ Aside0 (Kd.R kI_q 3 w' w.heap.size (fun _ => True) v136 x3_1) ∧ Aside0 (Below w.heap.size w w'))
 case atStart => exact ⟨(y135), (0), m5_q, H', ⟨nR_q _⟩, ⟨rup HO137.out⟩, ⟨bel HB.out⟩⟩
 case round =>
  clear H'
  try clear c1
  try clear c2
  try clear c2b0
  try clear c2b1
  try clear p2
  try clear c3
  try clear c3b0
  try clear c3b1
  obtain ⟨x3_1, x4_1, rfl, HA, HK1, HO_3, HB⟩ := hrel
  cases gk with
  | zero => exact absurd HA.out (by simp [laws_toIntS.l0])
  | succ k1 =>
   have H := HA.out
   clear HA
   simp only [laws_toIntS.l0] at H
   by_cases c6 : x4_1 < (l0.length : Int)
   rotate_left
   ·rw [if_neg c6] at H
    have c6b0 : decide (x4_1 < (l0.length : Int)) = false := dF_q c6
    clear c6
    obtain rfl := oI_q H
    go_wp2
    go_ret
    exact ⟨_, m4_q, rup HO_3.out, bel HB.out⟩
   rw [if_pos c6] at H
   have c6b0 : decide (x4_1 < (l0.length : Int)) = true := dT_q c6
   clear c6
   by_cases c7 : 0 ≤ x4_1
   rotate_left
   ·rw [if_neg c7] at H
    exact absurd H (by simp)
   rw [if_pos c7] at H
   have c7b0 : decide (0 ≤ x4_1) = true := dT_q c7
   clear c7
   by_cases c8 : x4_1 < (x3_1.length : Int)
   rotate_left
   ·rw [if_neg c8] at H
    exact absurd H (by simp)
   rw [if_pos c8] at H
   have c8b0 : decide (x4_1 < (x3_1.length : Int)) = true := dT_q c8
   clear c8
   obtain ⟨y139, hy139⟩ : ∃ y_ : List Int, y_ = (x3_1.set (x4_1 : Int).toNat (rd l0 x4_1)) := ⟨_, rfl⟩
   replace H : (laws_toIntS.l0 k1 l0 y139 (wrap64 (x4_1 + 1))) = some r := by first | (rw [hy139]; with_reducible exact H) | (have H2_ := (oS_q _ _).symm.trans H; rw [hy139]; with_reducible exact H2_) | (have H2_ := (oS_q _ _).symm.trans H; with_reducible exact H2_) | with_reducible exact H | (rw [hy139]; exact H) | exact H
   have Ny139 := Ae_q hy139
   clear hy139
   have H' := Ae_q H
   clear H
   have p138 : 0 ≤ (x4_1 : Int) := oD_q (by assumption)
   have q138 : x4_1 < (l0.length : Int) := oD_q (by assumption)
   obtain ⟨ad138, e138, hx138_0⟩ := aI_q HR0.out x4_1 p138 q138
   cases e138
   replace hx138_0 := cel HB.out hx138_0
   replace p138 := eq_true p138
   replace q138 := eq_true q138
   have p9 : 0 ≤ (x4_1 : Int) := oD_q (by assumption)
   have q9 : (x4_1 : Int) < ((x3_1.length : Int) : Int) := oD_q (by assumption)
   obtain ⟨go9, co9, eo9, gb9, gl9, cl9, HG9⟩ := Kd.R_form HO_3.out (by omega)
   (first | cases eo9 | (injection eo9 with ea_ en_ ec_; (first | subst ea_ | (injection ea_ with ea_; subst ea_)); subst ec_; clear en_))
   have GB9 := Ae_q gb9
   have GG9 := Ae_q HG9
   clear gb9 gl9 HG9
   obtain ⟨hx9_0, hf9_0⟩ := Kd.R_celln 0 HO_3.out (x4_1 : Int) p9 q9
   replace p9 := eq_true p9
   replace q9 := eq_true q9
   have HP10 := Kd.R_putg HO_3.out (x4_1 : Int) (rd l0 x4_1)
   go_wp2_with (first | ((with_reducible refine gate_store (t := 3) (p := 20) rfl ?_); refine store_event (t := 3) (p := 20) (v := ?vo_w11) (w1 := (wr.setCell ⟨go9, (x4_1 : Int).toNat, none⟩ (.int .i64 (rd l0 x4_1)))) ?hg ?ho ?hn ?hr ?_; (case ho => rfl); (case hg => rfl); (case hn => rfl); (case hr => exact m6_q); intro w11 hw; have hg : wr.grownBy w11 (some go9) := (by rw [hw]; exact HP10.2); have hp_ : Kd.R kI_q 3 w11 w.heap.size (fun _ => True) (.slice (some ⟨go9, 0, none⟩) x3_1.length co9) y139 := (by rw [hw, Ny139.out]; exact HP10.1); clear HP10; replace HO_3 := Ae_q (hp_); replace HB := Ae_q ((by rw [hw]; exact bS_q (HB.out) GB9.out : Below w.heap.size w w11)); clear hg hw hp_))
   go_roundg k1
   case measure => have := HK1.out; omega
   case rel => exact ⟨(y139), (wrap64 (x4_1 + 1)), m5_q, H', ⟨m74_q⟩, ⟨rup HO_3.out⟩, ⟨bel HB.out⟩⟩

def laws_toStep.f (k : Nat) (a0_0 : Int) (a0_1 : Int) (a0_2 : Int) (l0_3 : List Int) : Option (Int × Int × Int × List Int) := (laws_toIntS.f k l0_3).bind fun t143 => (some (a0_0, a0_1, a0_2, t143))
set_option maxHeartbeats 8000000 in
set_option maxRecDepth 100000 in
theorem laws_toStep.calls (k : Nat) (a0_0 : Int) (a0_1 : Int) (a0_2 : Int) (A0_3 : Option Addr) (c0_3 : Nat) (l0_3 : List Int) (r1 : Int) (r2 : Int) (r3 : Int) (r4 : List Int) (w : World) (hr0_3 : Kd.C kI_q w A0_3 l0_3.length l0_3) (hc0_3 : l0_3.length ≤ c0_3) (h : laws_toStep.f k a0_0 a0_1 a0_2 l0_3 = some (r1, r2, r3, r4)) :
    Calls Try.prog 37 #[.agg #[.int .i64 a0_0, .int .i64 a0_1, .int .i64 a0_2, .slice A0_3 l0_3.length c0_3]] w fun e w' => ∃ v3_ : Value, e = .returned (.agg #[.int .i64 r1, .int .i64 r2, .int .i64 r3, v3_]) ∧ Kd.R kI_q 3 w' w.heap.size (fun _ => True) v3_ r4 ∧ Below w.heap.size w w' := by
 have hu59 := Try.underlying59
 have hu63 := Try.underlying63
 have HR0_3 := Ae_q hr0_3
 have HC0_3 := Ae_q hc0_3
 clear hr0_3 hc0_3
 have HB := Ae_q (bR_q w.heap.size w)
 have H : ((laws_toIntS.f k l0_3).bind fun t143 => (some (a0_0, a0_1, a0_2, t143))) = some (r1, r2, r3, r4) := h
 clear h
 replace H := oB_q.mp H
 obtain ⟨t143, A20, H⟩ := H
 replace H : (some (a0_0, a0_1, a0_2, t143)) = some (r1, r2, r3, r4) := H
 have A2 := Ae_q A20
 clear A20
 simp only [oE_q, pE_q] at H
 obtain ⟨rfl, rfl, rfl, rfl⟩ := H
 go_enter Try.func37, Try.ntmps37
 go_wp2_with (first | ((first | ((with_reducible refine gD_q (N := 1) rfl ?_); refine bE_q ?hg (N := 1) ?hd (cs := #[.int .i64 a0_0, .int .i64 a0_1, .int .i64 a0_2, .slice A0_3 l0_3.length c0_3]) (t := 59) ?hr ?_; (case hd => rfl); (case hg => rfl); (case hr => exact m6_q); intro gb140 hg w' hbox hb; have BK140 := Ae_q (hbox); have GW140 := Ae_q ((by rw [hg]; exact (bZ_q (bel HB.out)) : w.heap.size ≤ gb140)); have GE140 := Ae_q ((by rw [hg]; exact (bZ_q (bel HB.out)) : w.heap.size ≤ gb140)); replace HB := Ae_q (bT_q (bel HB.out) hb)) | ((with_reducible refine gD_q (N := 2) rfl ?_); refine bE_q ?hg (N := 2) ?hd (cs := #[.int .i64 0, .int .i64 0, .int .i64 0, .slice none 0 0]) (t := 63) ?hr ?_; (case hd => rfl); (case hg => rfl); (case hr => exact m6_q); intro gb141 hg w4 hbox hb; have BK141 := Ae_q (hbox); have GW141 := Ae_q ((by rw [hg]; exact (bZ_q m82_q) : w.heap.size ≤ gb141)); have GE141 := Ae_q ((by rw [hg]; exact (bZ_q m82_q) : w.heap.size ≤ gb141)); replace HB := Ae_q (bT_q m82_q hb); have NB140_141 := Ae_q ((by rw [hg]; exact nL_q (blk_lt (g := gb140) (o := .cells #[.int .i64 a0_0, .int .i64 a0_1, .int .i64 a0_2, .slice A0_3 l0_3.length c0_3] 59 (0, 0)) (bup BK140.out)) : gb140 ≠ gb141)); have NB141_140 := Ae_q ((by rw [hg]; exact nG_q (blk_lt (g := gb140) (o := .cells #[.int .i64 a0_0, .int .i64 a0_1, .int .i64 a0_2, .slice A0_3 l0_3.length c0_3] 59 (0, 0)) (bup BK140.out)) : gb141 ≠ gb140)); replace BK140 := Ae_q (bB_q (g := gb140) (o := .cells #[.int .i64 a0_0, .int .i64 a0_1, .int .i64 a0_2, .slice A0_3 l0_3.length c0_3] 59 (0, 0)) (bup BK140.out) hb))); clear hb hbox hg) | ((with_reducible refine gD_q (N := 3) rfl ?_); refine bE_q ?hg (N := 3) ?hd (cs := #[.int .i64 0, .int .i64 0, .int .i64 0, .slice none 0 0]) (t := 63) ?hr ?_; (case hd => rfl); (case hg => rfl); (case hr => exact m6_q); intro gb142 hg w5 hbox hb; have BK142 := Ae_q (hbox); have GW142 := Ae_q ((by rw [hg]; exact (bZ_q m66_q) : w.heap.size ≤ gb142)); have GE142 := Ae_q ((by rw [hg]; exact (bZ_q m66_q) : w.heap.size ≤ gb142)); replace HB := Ae_q (bT_q m66_q hb); have NB140_142 := Ae_q ((by rw [hg]; exact nL_q (blk_lt (g := gb140) (o := .cells #[.int .i64 a0_0, .int .i64 a0_1, .int .i64 a0_2, .slice A0_3 l0_3.length c0_3] 59 (0, 0)) (bup BK140.out)) : gb140 ≠ gb142)); have NB142_140 := Ae_q ((by rw [hg]; exact nG_q (blk_lt (g := gb140) (o := .cells #[.int .i64 a0_0, .int .i64 a0_1, .int .i64 a0_2, .slice A0_3 l0_3.length c0_3] 59 (0, 0)) (bup BK140.out)) : gb142 ≠ gb140)); replace BK140 := Ae_q (bB_q (g := gb140) (o := .cells #[.int .i64 a0_0, .int .i64 a0_1, .int .i64 a0_2, .slice A0_3 l0_3.length c0_3] 59 (0, 0)) (bup BK140.out) hb); have NB141_142 := Ae_q ((by rw [hg]; exact nL_q (blk_lt (g := gb141) (o := .cells #[.int .i64 0, .int .i64 0, .int .i64 0, .slice none 0 0] 63 (0, 0)) (bup BK141.out)) : gb141 ≠ gb142)); have NB142_141 := Ae_q ((by rw [hg]; exact nG_q (blk_lt (g := gb141) (o := .cells #[.int .i64 0, .int .i64 0, .int .i64 0, .slice none 0 0] 63 (0, 0)) (bup BK141.out)) : gb142 ≠ gb141)); replace BK141 := Ae_q (bB_q (g := gb141) (o := .cells #[.int .i64 0, .int .i64 0, .int .i64 0, .slice none 0 0] 63 (0, 0)) (bup BK141.out) hb); clear hb hbox hg; have hnb6 := NB140_141.out; have hnc6 := NB141_140.out; have hnb7 := NB140_142.out; have hnc7 := NB142_140.out; have hcz8_0 : cI w5 gb140 0 a0_0 := cZ BK140 0 rfl; have hcz8_1 : cI w5 gb140 1 a0_1 := cZ BK140 1 rfl; have hcz8_2 : cI w5 gb140 2 a0_2 := cZ BK140 2 rfl; have hcz8_3 : w5.cell? ⟨gb140, 3, none⟩ = some (.slice A0_3 l0_3.length c0_3) := (bC_q BK140.out 3).trans rfl; have hfz8_0 := bF_q BK140.out 0; have hfz8_1 := bF_q BK140.out 1; have hfz8_2 := bF_q BK140.out 2; have hfz8_3 := bF_q BK140.out 3; have hnb9 := NB142_141.out; have hnc9 := NB141_142.out; have hcz10_0 : cI w5 gb142 0 0 := cZ BK142 0 rfl; have hcz10_1 : cI w5 gb142 1 0 := cZ BK142 1 rfl; have hcz10_2 : cI w5 gb142 2 0 := cZ BK142 2 rfl; have hcz10_3 : w5.cell? ⟨gb142, 3, none⟩ = some (.slice none 0 0) := (bC_q BK142.out 3).trans rfl; have hfz10_0 := bF_q BK142.out 0; have hfz10_1 := bF_q BK142.out 1; have hfz10_2 := bF_q BK142.out 2; have hfz10_3 := bF_q BK142.out 3) | ((with_reducible refine gC_q (f := 13) rfl ?_); refine gL_q (some 15) rfl rfl Try.func13 m7_q rfl #[.slice A0_3 l0_3.length c0_3] rfl m1_q ?_; (with_reducible refine (laws_toIntS.calls k _ _ l0_3 t143 _ ?side1 ?side2 A2.out).mono ?_); (case side1 => exact cB_q HR0_3.out m53_q); (case side2 => exact HC0_3.out); rintro e w11 ⟨v144, rfl, ho0, hb⟩; refine ⟨_, rfl, ?_⟩; have HO145 := Ae_q (rL_q ho0 (bZ_q m53_q)); replace BK140 := Ae_q (bB_q (g := gb140) (o := .cells #[.int .i64 a0_0, .int .i64 a0_1, .int .i64 a0_2, .slice A0_3 l0_3.length c0_3] 59 (0, 0)) (by (with_reducible repeat (first | refine bN_q ?_ _ | refine bW_q ?_ | refine bL_q ?_ _)); refine blk_far ?_ NB140_142.out _; (with_reducible repeat (first | refine bN_q ?_ _ | refine bW_q ?_ | refine bL_q ?_ _)); refine blk_far ?_ NB140_142.out _; (with_reducible repeat (first | refine bN_q ?_ _ | refine bW_q ?_ | refine bL_q ?_ _)); refine blk_far ?_ NB140_142.out _; (with_reducible repeat (first | refine bN_q ?_ _ | refine bW_q ?_ | refine bL_q ?_ _)); exact BK140.out) hb); replace BK141 := Ae_q (bB_q (g := gb141) (o := .cells #[.int .i64 0, .int .i64 0, .int .i64 0, .slice none 0 0] 63 (0, 0)) (by (with_reducible repeat (first | refine bN_q ?_ _ | refine bW_q ?_ | refine bL_q ?_ _)); refine blk_far ?_ NB141_142.out _; (with_reducible repeat (first | refine bN_q ?_ _ | refine bW_q ?_ | refine bL_q ?_ _)); refine blk_far ?_ NB141_142.out _; (with_reducible repeat (first | refine bN_q ?_ _ | refine bW_q ?_ | refine bL_q ?_ _)); refine blk_far ?_ NB141_142.out _; (with_reducible repeat (first | refine bN_q ?_ _ | refine bW_q ?_ | refine bL_q ?_ _)); exact BK141.out) hb); replace BK142 := Ae_q (bB_q (g := gb142) (o := .cells #[.int .i64 a0_0, .int .i64 a0_1, .int .i64 a0_2, .slice none 0 0] 63 (0, 0)) (by (with_reducible repeat (first | refine bN_q ?_ _ | refine bW_q ?_ | refine bL_q ?_ _)); refine blk_put (cs := #[.int .i64 a0_0, .int .i64 a0_1, .int .i64 0, .slice none 0 0]) ?_ 2 _ rfl; (with_reducible repeat (first | refine bN_q ?_ _ | refine bW_q ?_ | refine bL_q ?_ _)); refine blk_put (cs := #[.int .i64 a0_0, .int .i64 0, .int .i64 0, .slice none 0 0]) ?_ 1 _ rfl; (with_reducible repeat (first | refine bN_q ?_ _ | refine bW_q ?_ | refine bL_q ?_ _)); refine blk_put (cs := #[.int .i64 0, .int .i64 0, .int .i64 0, .slice none 0 0]) ?_ 0 _ rfl; (with_reducible repeat (first | refine bN_q ?_ _ | refine bW_q ?_ | refine bL_q ?_ _)); exact BK142.out) hb); replace HB := Ae_q (bT_q m53_q hb); (try clear hb); (try clear hb2); (try clear hk); (try clear hi); (try clear ho0); obtain ⟨Ao12, co12, eo12⟩ := rS_q HO145.out; subst eo12; have hcz13_0 : cI w11 gb142 0 a0_0 := cZ BK142 0 rfl; have hcz13_1 : cI w11 gb142 1 a0_1 := cZ BK142 1 rfl; have hcz13_2 : cI w11 gb142 2 a0_2 := cZ BK142 2 rfl; have hcz13_3 : w11.cell? ⟨gb142, 3, none⟩ = some (.slice none 0 0) := (bC_q BK142.out 3).trans rfl; have hfz13_0 := bF_q BK142.out 0; have hfz13_1 := bF_q BK142.out 1; have hfz13_2 := bF_q BK142.out 2; have hfz13_3 := bF_q BK142.out 3; have hcz14_0 : cI w11 gb141 0 0 := cZ BK141 0 rfl; have hcz14_1 : cI w11 gb141 1 0 := cZ BK141 1 rfl; have hcz14_2 : cI w11 gb141 2 0 := cZ BK141 2 rfl; have hcz14_3 : w11.cell? ⟨gb141, 3, none⟩ = some (.slice none 0 0) := (bC_q BK141.out 3).trans rfl; have hfz14_0 := bF_q BK141.out 0; have hfz14_1 := bF_q BK141.out 1; have hfz14_2 := bF_q BK141.out 2; have hfz14_3 := bF_q BK141.out 3))
 refine bodyPost_ret (results_cell_row rfl _ _ gb141 63 #[.int .i64 a0_0, .int .i64 a0_1, .int .i64 a0_2, .slice Ao12 t143.length co12] (0, 0) _ rfl (by (with_reducible repeat (first | refine bN_q ?_ _ | refine bW_q ?_ | refine bL_q ?_ _)); refine blk_put (cs := #[.int .i64 a0_0, .int .i64 a0_1, .int .i64 a0_2, .slice none 0 0]) ?_ 3 _ rfl; (with_reducible repeat (first | refine bN_q ?_ _ | refine bW_q ?_ | refine bL_q ?_ _)); refine blk_put (cs := #[.int .i64 a0_0, .int .i64 a0_1, .int .i64 0, .slice none 0 0]) ?_ 2 _ rfl; (with_reducible repeat (first | refine bN_q ?_ _ | refine bW_q ?_ | refine bL_q ?_ _)); refine blk_put (cs := #[.int .i64 a0_0, .int .i64 0, .int .i64 0, .slice none 0 0]) ?_ 1 _ rfl; (with_reducible repeat (first | refine bN_q ?_ _ | refine bW_q ?_ | refine bL_q ?_ _)); refine blk_put (cs := #[.int .i64 0, .int .i64 0, .int .i64 0, .slice none 0 0]) ?_ 0 _ rfl; (with_reducible repeat (first | refine bN_q ?_ _ | refine bW_q ?_ | refine bL_q ?_ _)); refine blk_far ?_ NB141_142.out _; (with_reducible repeat (first | refine bN_q ?_ _ | refine bW_q ?_ | refine bL_q ?_ _)); exact BK141.out) Try.underlying63 rfl m7_q) rfl ?_
 exact ⟨_, m4_q, by (with_reducible repeat (first | apply rA_q | apply rN_q | apply rD_q)); exact rM_q (Kd.R_far (p := ⟨gb141, 3, none⟩) (Kd.R_far (p := ⟨gb141, 2, none⟩) (Kd.R_far (p := ⟨gb141, 1, none⟩) (Kd.R_far (p := ⟨gb141, 0, none⟩) (Kd.R_far (p := ⟨gb142, 3, none⟩) (Kd.R_types (Kd.R_types HO145.out BK142.out (by decide)) BK141.out (by decide)) (fun _ hk => hk.1.2) (.slice Ao12 t143.length co12)) (fun _ hk => hk.2) (.int .i64 a0_0)) (fun _ hk => hk.2) (.int .i64 a0_1)) (fun _ hk => hk.2) (.int .i64 a0_2)) (fun _ hk => hk.2) (.slice Ao12 t143.length co12)) (fun _ hk => trivial), m53_q⟩

def laws_toStepS.l0 : Nat → List (S59) → List (S63) → Int → Option ((List (S63)))
 | 0, _, _, _ => none
 | k + 1, x0, x3, x4 => if x4 < (x0.length : Int) then (if 0 ≤ x4 then ((laws_toStep.f k ((rd_T59 x0 x4).f0) ((rd_T59 x0 x4).f1) ((rd_T59 x0 x4).f2) ((rd_T59 x0 x4).f3)).bind fun bt150 => (if x4 < (x3.length : Int) then (laws_toStepS.l0 k x0 (x3.set (x4 : Int).toNat (⟨bt150.1, bt150.2.1, bt150.2.2.1, bt150.2.2.2⟩ : S63)) (wrap64 (x4 + 1))) else (none))) else (none)) else (some x3)
def laws_toStepS.f (k : Nat) (l0 : List (S59)) : Option ((List (S63))) := if 0 ≤ (l0.length : Int) then (if ((l0.length : Int) : Int).toNat ≤ 5864062014805 then (laws_toStepS.l0 k l0 (List.replicate ((l0.length : Int) : Int).toNat z63) 0) else (none)) else (none)
set_option maxHeartbeats 8000000 in
set_option maxRecDepth 100000 in
theorem laws_toStepS.calls (k : Nat) (A0 : Option Addr) (c0 : Nat) (l0 : List (S59)) (r : List (S63)) (w : World) (hr0 : Kd.C k59 w A0 l0.length l0) (hc0 : l0.length ≤ c0) (h : laws_toStepS.f k l0 = some r) :
    Calls Try.prog 12 #[.slice A0 l0.length c0] w fun e w' => ∃ v0_ : Value, e = .returned (v0_) ∧ Kd.S k63 63 w' w.heap.size (fun _ => True) v0_ r ∧ Below w.heap.size w w' := by
 have hu59 := Try.underlying59
 have hu63 := Try.underlying63
 have HR0 := Ae_q hr0
 have HC0 := Ae_q hc0
 clear hr0 hc0
 have HB := Ae_q (bR_q w.heap.size w)
 have H : (if 0 ≤ (l0.length : Int) then (if ((l0.length : Int) : Int).toNat ≤ 5864062014805 then (laws_toStepS.l0 k l0 (List.replicate ((l0.length : Int) : Int).toNat z63) 0) else (none)) else (none)) = some r := h
 clear h
 by_cases c2 : 0 ≤ (l0.length : Int)
 rotate_left
 ·rw [if_neg c2] at H
  exact absurd H (by simp)
 rw [if_pos c2] at H
 have c2b0 := eq_true c2
 have c2b1 : decide (0 ≤ (l0.length : Int)) = true := dT_q c2
 clear c2
 by_cases c3 : ((l0.length : Int) : Int).toNat ≤ 5864062014805
 rotate_left
 ·rw [if_neg c3] at H
  exact absurd H (by simp)
 rw [if_pos c3] at H
 have c3b0 := eq_true c3
 have c3b1 : decide (((l0.length : Int) : Int).toNat ≤ 5864062014805) = true := dT_q c3
 clear c3
 obtain ⟨y146, hy146⟩ : ∃ y_ : List (S63), y_ = (List.replicate ((l0.length : Int) : Int).toNat z63) := ⟨_, rfl⟩
 replace H : (laws_toStepS.l0 k l0 y146 0) = some r := by first | (rw [hy146]; with_reducible exact H) | (have H2_ := (oS_q _ _).symm.trans H; rw [hy146]; with_reducible exact H2_) | (have H2_ := (oS_q _ _).symm.trans H; with_reducible exact H2_) | with_reducible exact H | (rw [hy146]; exact H) | exact H
 have Ny146 := Ae_q hy146
 clear hy146
 have H' := Ae_q H
 clear H
 go_enter Try.func12, Try.ntmps12
 go_wp2_with (first | ((with_reducible refine gD_q (N := 7) rfl ?_); refine Kd.S_make k63 _ 63 rfl (N := 7) rfl 28 _ _ rfl (l0.length : Int) rfl rfl Try.underlying28 (.agg #[(.int .i64 0), (.int .i64 0), (.int .i64 0), (.slice none 0 0)]) 48 info63 rfl (by decide) (by omega) z63 (ok := fun _ => True) (okp := fun _ => True) (k63_mkM _ _ _ z63 (Kd.R_nil _ _ _ _ _)) (fun _ hk => hk) trivial (oD_q (by assumption)) (nT_q (Nat.mul_le_mul_right _ (oD_q (by assumption) : (l0.length : Int).toNat ≤ 5864062014805)) (by omega)) (bR_q _ _) (nR_q _) ?_; intro v147 w4 ho5 hb hg_ hnew_; clear hg_ hnew_; (first | rw [← Ny146.out] at ho5 | (simp only [Int.reduceToNat] at ho5; rw [← Ny146.out] at ho5)); have HO148 := Ae_q (Kd.S_lower ho5 (bZ_q (bel HB.out))); replace HB := Ae_q (bT_q (bel HB.out) hb); clear hb ho5))
 go_loopg [4] k (fun kq v4 w' => ∃ (x3_1 : List (S63)) (x4_1 : Int), v4 = .int .i64 x4_1 ∧ Aside0 (laws_toStepS.l0 kq l0 x3_1 x4_1 = some r) ∧ Aside0 (kq ≤ k) ∧ Aside0 (Kd.S k63 63 w' w.heap.size (fun _ => True) v147 x3_1) ∧ Aside0 (Below w.heap.size w w'))
 case atStart => exact ⟨(y146), (0), m5_q, H', ⟨nR_q _⟩, ⟨by (with_reducible repeat (first | apply tA_q | apply tN_q | apply tD_q)); exact HO148.out⟩, ⟨bel HB.out⟩⟩
 case round =>
  clear H'
  try clear c1
  try clear c2
  try clear c2b0
  try clear c2b1
  try clear p2
  try clear c3
  try clear c3b0
  try clear c3b1
  obtain ⟨x3_1, x4_1, rfl, HA, HK1, HO_3, HB⟩ := hrel
  cases gk with
  | zero => exact absurd HA.out (by simp [laws_toStepS.l0])
  | succ k1 =>
   have H := HA.out
   clear HA
   simp only [laws_toStepS.l0] at H
   by_cases c6 : x4_1 < (l0.length : Int)
   rotate_left
   ·rw [if_neg c6] at H
    have c6b0 : decide (x4_1 < (l0.length : Int)) = false := dF_q c6
    clear c6
    obtain rfl := oI_q H
    go_wp2
    go_ret
    exact ⟨_, m4_q, m101_q, bel HB.out⟩
   rw [if_pos c6] at H
   have c6b0 : decide (x4_1 < (l0.length : Int)) = true := dT_q c6
   clear c6
   by_cases c7 : 0 ≤ x4_1
   rotate_left
   ·rw [if_neg c7] at H
    exact absurd H (by simp)
   rw [if_pos c7] at H
   have c7b0 : decide (0 ≤ x4_1) = true := dT_q c7
   clear c7
   replace H := oB_q.mp H
   obtain ⟨⟨t150, t151, t152, t153⟩, A80, H⟩ := H
   replace H : (if x4_1 < (x3_1.length : Int) then (laws_toStepS.l0 k1 l0 (x3_1.set (x4_1 : Int).toNat (⟨t150, t151, t152, t153⟩ : S63)) (wrap64 (x4_1 + 1))) else (none)) = some r := H
   have A8 := Ae_q A80
   clear A80
   by_cases c9 : x4_1 < (x3_1.length : Int)
   rotate_left
   ·rw [if_neg c9] at H
    exact absurd H (by simp)
   rw [if_pos c9] at H
   have c9b0 : decide (x4_1 < (x3_1.length : Int)) = true := dT_q c9
   clear c9
   obtain ⟨y156, hy156⟩ : ∃ y_ : List (S63), y_ = (x3_1.set (x4_1 : Int).toNat (⟨t150, t151, t152, t153⟩ : S63)) := ⟨_, rfl⟩
   replace H : (laws_toStepS.l0 k1 l0 y156 (wrap64 (x4_1 + 1))) = some r := by first | (rw [hy156]; with_reducible exact H) | (have H2_ := (oS_q _ _).symm.trans H; rw [hy156]; with_reducible exact H2_) | (have H2_ := (oS_q _ _).symm.trans H; with_reducible exact H2_) | with_reducible exact H | (rw [hy156]; exact H) | exact H
   have Ny156 := Ae_q hy156
   clear hy156
   have H' := Ae_q H
   clear H
   have p149 : 0 ≤ (x4_1 : Int) := oD_q (by assumption)
   have q149 : x4_1 < (l0.length : Int) := oD_q (by assumption)
   obtain ⟨ad149, A149_3, c149_3, e149, hx149_0, hx149_1, hx149_2, hx149_3, hl149_3, hi149_3⟩ := at_T59 HR0.out x4_1 p149 q149
   cases e149
   replace hx149_0 := cel HB.out hx149_0
   replace hx149_1 := cel HB.out hx149_1
   replace hx149_2 := cel HB.out hx149_2
   replace hx149_3 := cel HB.out hx149_3
   have HR149_3 := Ae_q hi149_3
   have HC149_3 := Ae_q hl149_3
   clear hi149_3 hl149_3
   replace p149 := eq_true p149
   replace q149 := eq_true q149
   go_wp2_with (first | ((with_reducible refine gC_q (f := 37) rfl ?_); refine gL_q (some 20) rfl rfl Try.func37 m7_q rfl #[.agg #[.int .i64 ((rd_T59 l0 x4_1).f0), .int .i64 ((rd_T59 l0 x4_1).f1), .int .i64 ((rd_T59 l0 x4_1).f2), .slice A149_3 ((rd_T59 l0 x4_1).f3).length c149_3]] rfl m1_q ?_; (with_reducible refine (laws_toStep.calls k1 ((rd_T59 l0 x4_1).f0) ((rd_T59 l0 x4_1).f1) ((rd_T59 l0 x4_1).f2) _ _ ((rd_T59 l0 x4_1).f3) t150 t151 t152 t153 _ ?side1 ?side2 A8.out).mono ?_); (case side1 => exact cup (cB_q HR149_3.out HB.out)); (case side2 => exact HC149_3.out); rintro e w11 ⟨v154, rfl, ho0, hb⟩; refine ⟨_, rfl, ?_⟩; have hst_v154 := fun (W : World) (a : Addr) (m : Mode) => run_store Try.prog W a v154 m (by obtain ⟨A_, c_, e_⟩ := rS_q ho0; rw [e_]; rfl); replace HO_3 := Ae_q (Kd.S_elder' m101_q (rB_q ho0) hb); have HO155 := Ae_q (rL_q ho0 (bZ_q (bel HB.out))); replace HB := Ae_q (bT_q (bel HB.out) hb); (try clear hb); (try clear hb2); (try clear hk); (try clear hi); (try clear ho0); have p10 : 0 ≤ (x4_1 : Int) := oD_q (by assumption); have q10 : (x4_1 : Int) < ((x3_1.length : Int) : Int) := oD_q (by assumption); obtain ⟨go10, co10, eo10, gb10, gl10, cl10, HG10⟩ := Kd.S_form HO_3.out (by omega); (first | cases eo10 | (injection eo10 with ea_ en_ ec_; (first | subst ea_ | (injection ea_ with ea_; subst ea_)); subst ec_; clear en_)); have GB10 := Ae_q gb10; have GG10 := Ae_q HG10; clear gb10 gl10 HG10; obtain ⟨_, ce10, hcl10, hM10, hcc10, hfr10, _, _⟩ := Kd.S_elem HO_3.out z63 (x4_1 : Int) p10 q10; obtain ⟨ve10_3, rfl, ge10_3⟩ := k63_openM hM10; have hx10_0 : w11.cell? ⟨go10, (x4_1 : Int).toNat * 4, none⟩ = some (.int .i64 ((rd_T63 x3_1 x4_1).f0)) := hcc10 0 _ rfl; have hx10_1 : w11.cell? ⟨go10, (x4_1 : Int).toNat * 4 + 1, none⟩ = some (.int .i64 ((rd_T63 x3_1 x4_1).f1)) := hcc10 1 _ rfl; have hx10_2 : w11.cell? ⟨go10, (x4_1 : Int).toNat * 4 + 2, none⟩ = some (.int .i64 ((rd_T63 x3_1 x4_1).f2)) := hcc10 2 _ rfl; have hx10_3 : w11.cell? ⟨go10, (x4_1 : Int).toNat * 4 + 3, none⟩ = some (ve10_3) := hcc10 3 _ rfl; have hf10_0 : w11.frozen? ⟨go10, (x4_1 : Int).toNat * 4, none⟩ = false := hfr10 0; have hf10_1 : w11.frozen? ⟨go10, (x4_1 : Int).toNat * 4 + 1, none⟩ = false := hfr10 1; have hf10_2 : w11.frozen? ⟨go10, (x4_1 : Int).toNat * 4 + 2, none⟩ = false := hfr10 2; have hf10_3 : w11.frozen? ⟨go10, (x4_1 : Int).toNat * 4 + 3, none⟩ = false := hfr10 3; clear hcl10 hcc10 hfr10 hM10; replace p10 := eq_true p10; replace q10 := eq_true q10; have n_ := Ae_q (Kd.S_mono (ok' := (fun k_ => some k_ ≠ (v154 : Value).ownBlock)) HO_3.out (fun k_ hk => hk.2)); clear HO_3; have HO_3 := n_; clear n_; have HX12 := Ae_q (show Kd.S k63 63 w11 w.heap.size (fun k_ => ((fun _ => True)) k_ ∧ ¬ ((fun k_ => some k_ = (v154 : Value).ownBlock)) k_) (.slice (some ⟨go10, 0, none⟩) x3_1.length co10) x3_1 from (by (with_reducible repeat (first | apply tA_q | apply tN_q | apply tD_q)); exact Kd.S_mono HO_3.out (fun k_ hk => ⟨trivial, fun e_ => hk e_⟩))); obtain ⟨oki12, ce12, hcl12, hM12, hcc12, hfr12, hoki12, hH12⟩ := Kd.S_elem HX12.out z63 (x4_1 : Int) (oD_q (by assumption)) (by have h_ : (x4_1 : Int) < ((x3_1.length : Int) : Int) := oD_q (by assumption); first | exact h_ | (have e_ := (Kd.S_reads' HO_3.out).1; omega) | simpa using h_); obtain ⟨ve12_3, rfl, ge12_3⟩ := k63_openM hM12; have HP12 := Kd.S_seg hH12 (oD_q (by assumption)) (by have h_ : (x4_1 : Int) < ((x3_1.length : Int) : Int) := oD_q (by assumption); first | exact h_ | (have e_ := (Kd.S_reads' HO_3.out).1; omega) | simpa using h_) (seg := [.int .i64 t150, .int .i64 t151, .int .i64 t152, v154]) (j := 0) (show 4 ≤ 4 from by decide) (x' := (⟨t150, t151, t152, t153⟩ : S63)) (k63_mkM _ _ _ (⟨t150, t151, t152, t153⟩ : S63) (rM_q (Kd.R_tight rfl (rM_q (ok' := fun k_ => ((fun _ => True)) k_ ∧ k_ ≠ go10) (Kd.R_apart' (HO155.out) (Kd.S_typed HO_3.out) (by decide)) (fun k_ hk => ⟨trivial, fun e_ => (hk.2) (by rw [e_]; rfl)⟩))) (fun _ h_ => Or.inr (h_)))) (fun _ hk => hk) (fun k_ hk_ => ((rM_q (ok' := fun k_ => ((fun _ => True)) k_ ∧ k_ ≠ go10) (Kd.R_apart' (HO155.out) (Kd.S_typed HO_3.out) (by decide)) (fun k_ hk => ⟨trivial, fun e_ => (hk.2) (by rw [e_]; rfl)⟩))).1 k_ hk_.symm); have hx12_0 := hcc12 0 _ rfl; (try simp only [show (k63).sz = 4 from rfl, Nat.mul_one, Nat.add_zero] at hx12_0); have hf12_0 := hfr12 0; (try simp only [show (k63).sz = 4 from rfl, Nat.mul_one, Nat.add_zero] at hf12_0); have hx12_1 := hcc12 1 _ rfl; (try simp only [show (k63).sz = 4 from rfl, Nat.mul_one, Nat.add_zero] at hx12_1); have hf12_1 := hfr12 1; (try simp only [show (k63).sz = 4 from rfl, Nat.mul_one, Nat.add_zero] at hf12_1); have hx12_2 := hcc12 2 _ rfl; (try simp only [show (k63).sz = 4 from rfl, Nat.mul_one, Nat.add_zero] at hx12_2); have hf12_2 := hfr12 2; (try simp only [show (k63).sz = 4 from rfl, Nat.mul_one, Nat.add_zero] at hf12_2); have hx12_3 := hcc12 3 _ rfl; (try simp only [show (k63).sz = 4 from rfl, Nat.mul_one, Nat.add_zero] at hx12_3); have hf12_3 := hfr12 3; (try simp only [show (k63).sz = 4 from rfl, Nat.mul_one, Nat.add_zero] at hf12_3); clear hcl12 hcc12 hfr12 hM12 hoki12 hH12) | ((with_reducible refine gate_store (t := 63) (p := 21) rfl ?_); refine store_event (t := 63) (p := 21) (v := ?vo_w13) (w1 := ((((w11.setCell ⟨go10, (x4_1 : Int).toNat * 4, none⟩ (.int .i64 t150)).setCell ⟨go10, (x4_1 : Int).toNat * 4 + 1, none⟩ (.int .i64 t151)).setCell ⟨go10, (x4_1 : Int).toNat * 4 + 2, none⟩ (.int .i64 t152)).setCell ⟨go10, (x4_1 : Int).toNat * 4 + 3, none⟩ (v154))) ?hg ?ho ?hn ?hr ?_; (case ho => rfl); (case hg => rfl); (case hn => rfl); (case hr => exact m6_q); intro w13 hw; have hg : w11.grownBy w13 (some go10) := (by rw [hw]; exact HP12.2); have hp_ : Kd.S k63 63 w13 w.heap.size (fun _ => True) (.slice (some ⟨go10, 0, none⟩) x3_1.length co10) y156 := (by rw [hw, Ny156.out]; exact HP12.1); clear HP12; replace HO_3 := Ae_q (hp_); replace HB := Ae_q ((by rw [hw]; exact bS_q (bS_q (bS_q (bS_q (HB.out) GB10.out) GB10.out) GB10.out) GB10.out : Below w.heap.size w w13)); clear HO155; clear hg hw hp_))
   go_roundg k1
   case measure => have := HK1.out; omega
   case rel => exact ⟨(y156), (wrap64 (x4_1 + 1)), m5_q, H', ⟨m74_q⟩, ⟨m101_q⟩, ⟨bel HB.out⟩⟩

def laws_toOutage.f (a0_0 : Int) (a0_1 : Int) (a0_2 : Int) : Option (Int × Int × Int) := some (a0_0, a0_1, a0_2)
set_option maxHeartbeats 8000000 in
set_option maxRecDepth 100000 in
theorem laws_toOutage.calls (a0_0 : Int) (a0_1 : Int) (a0_2 : Int) (r1 : Int) (r2 : Int) (r3 : Int) (w : World) (h : laws_toOutage.f a0_0 a0_1 a0_2 = some (r1, r2, r3)) :
    Calls Try.prog 14 #[.agg #[.int .i64 a0_0, .int .i64 a0_1, .int .i64 a0_2]] w fun e w' => e = .returned (.agg #[.int .i64 r1, .int .i64 r2, .int .i64 r3]) ∧ Below w.heap.size w w' := by
 have hu25 := Try.underlying25
 have hu31 := Try.underlying31
 have HB := Ae_q (bR_q w.heap.size w)
 have H : (some (a0_0, a0_1, a0_2)) = some (r1, r2, r3) := h
 clear h
 simp only [oE_q, pE_q] at H
 obtain ⟨rfl, rfl, rfl⟩ := H
 go_enter Try.func14, Try.ntmps14
 go_wp2_with (first | ((first | ((with_reducible refine gD_q (N := 1) rfl ?_); refine bE_q ?hg (N := 1) ?hd (cs := #[.int .i64 a0_0, .int .i64 a0_1, .int .i64 a0_2]) (t := 25) ?hr ?_; (case hd => rfl); (case hg => rfl); (case hr => exact m6_q); intro gb157 hg w' hbox hb; have BK157 := Ae_q (hbox); have GW157 := Ae_q ((by rw [hg]; exact (bZ_q (bel HB.out)) : w.heap.size ≤ gb157)); have GE157 := Ae_q ((by rw [hg]; exact (bZ_q (bel HB.out)) : w.heap.size ≤ gb157)); replace HB := Ae_q (bT_q (bel HB.out) hb)) | ((with_reducible refine gD_q (N := 2) rfl ?_); refine bE_q ?hg (N := 2) ?hd (cs := #[.int .i64 0, .int .i64 0, .int .i64 0]) (t := 31) ?hr ?_; (case hd => rfl); (case hg => rfl); (case hr => exact m6_q); intro gb158 hg w' hbox hb; have BK158 := Ae_q (hbox); have GW158 := Ae_q ((by rw [hg]; exact (bZ_q m83_q) : w.heap.size ≤ gb158)); have GE158 := Ae_q ((by rw [hg]; exact (bZ_q m83_q) : w.heap.size ≤ gb158)); replace HB := Ae_q (bT_q m83_q hb); have NB157_158 := Ae_q ((by rw [hg]; exact nL_q (blk_lt (g := gb157) (o := .cells #[.int .i64 a0_0, .int .i64 a0_1, .int .i64 a0_2] 25 (0, 0)) (bup BK157.out)) : gb157 ≠ gb158)); have NB158_157 := Ae_q ((by rw [hg]; exact nG_q (blk_lt (g := gb157) (o := .cells #[.int .i64 a0_0, .int .i64 a0_1, .int .i64 a0_2] 25 (0, 0)) (bup BK157.out)) : gb158 ≠ gb157)); replace BK157 := Ae_q (bB_q (g := gb157) (o := .cells #[.int .i64 a0_0, .int .i64 a0_1, .int .i64 a0_2] 25 (0, 0)) (bup BK157.out) hb))); clear hb hbox hg) | ((with_reducible refine gD_q (N := 3) rfl ?_); refine bE_q ?hg (N := 3) ?hd (cs := #[.int .i64 0, .int .i64 0, .int .i64 0]) (t := 31) ?hr ?_; (case hd => rfl); (case hg => rfl); (case hr => exact m6_q); intro gb159 hg w4 hbox hb; have BK159 := Ae_q (hbox); have GW159 := Ae_q ((by rw [hg]; exact (bZ_q m67_q) : w.heap.size ≤ gb159)); have GE159 := Ae_q ((by rw [hg]; exact (bZ_q m67_q) : w.heap.size ≤ gb159)); replace HB := Ae_q (bT_q m67_q hb); have NB157_159 := Ae_q ((by rw [hg]; exact nL_q (blk_lt (g := gb157) (o := .cells #[.int .i64 a0_0, .int .i64 a0_1, .int .i64 a0_2] 25 (0, 0)) (bup BK157.out)) : gb157 ≠ gb159)); have NB159_157 := Ae_q ((by rw [hg]; exact nG_q (blk_lt (g := gb157) (o := .cells #[.int .i64 a0_0, .int .i64 a0_1, .int .i64 a0_2] 25 (0, 0)) (bup BK157.out)) : gb159 ≠ gb157)); replace BK157 := Ae_q (bB_q (g := gb157) (o := .cells #[.int .i64 a0_0, .int .i64 a0_1, .int .i64 a0_2] 25 (0, 0)) (bup BK157.out) hb); have NB158_159 := Ae_q ((by rw [hg]; exact nL_q (blk_lt (g := gb158) (o := .cells #[.int .i64 0, .int .i64 0, .int .i64 0] 31 (0, 0)) (bup BK158.out)) : gb158 ≠ gb159)); have NB159_158 := Ae_q ((by rw [hg]; exact nG_q (blk_lt (g := gb158) (o := .cells #[.int .i64 0, .int .i64 0, .int .i64 0] 31 (0, 0)) (bup BK158.out)) : gb159 ≠ gb158)); replace BK158 := Ae_q (bB_q (g := gb158) (o := .cells #[.int .i64 0, .int .i64 0, .int .i64 0] 31 (0, 0)) (bup BK158.out) hb); clear hb hbox hg; have hnb5 := NB157_158.out; have hnc5 := NB158_157.out; have hnb6 := NB157_159.out; have hnc6 := NB159_157.out; have hcz7_0 : cI w4 gb157 0 a0_0 := cZ BK157 0 rfl; have hcz7_1 : cI w4 gb157 1 a0_1 := cZ BK157 1 rfl; have hcz7_2 : cI w4 gb157 2 a0_2 := cZ BK157 2 rfl; have hfz7_0 := bF_q BK157.out 0; have hfz7_1 := bF_q BK157.out 1; have hfz7_2 := bF_q BK157.out 2; have hnb8 := NB159_158.out; have hnc8 := NB158_159.out; have hcz9_0 : cI w4 gb159 0 0 := cZ BK159 0 rfl; have hcz9_1 : cI w4 gb159 1 0 := cZ BK159 1 rfl; have hcz9_2 : cI w4 gb159 2 0 := cZ BK159 2 rfl; have hfz9_0 := bF_q BK159.out 0; have hfz9_1 := bF_q BK159.out 1; have hfz9_2 := bF_q BK159.out 2; have hcz10_0 : cI w4 gb158 0 0 := cZ BK158 0 rfl; have hcz10_1 : cI w4 gb158 1 0 := cZ BK158 1 rfl; have hcz10_2 : cI w4 gb158 2 0 := cZ BK158 2 rfl; have hfz10_0 := bF_q BK158.out 0; have hfz10_1 := bF_q BK158.out 1; have hfz10_2 := bF_q BK158.out 2))
 refine bodyPost_ret (results_cell_row rfl _ _ gb158 31 #[.int .i64 a0_0, .int .i64 a0_1, .int .i64 a0_2] (0, 0) _ rfl (by (with_reducible repeat (first | refine bN_q ?_ _ | refine bW_q ?_ | refine bL_q ?_ _)); refine blk_put (cs := #[.int .i64 a0_0, .int .i64 a0_1, .int .i64 0]) ?_ 2 _ rfl; (with_reducible repeat (first | refine bN_q ?_ _ | refine bW_q ?_ | refine bL_q ?_ _)); refine blk_put (cs := #[.int .i64 a0_0, .int .i64 0, .int .i64 0]) ?_ 1 _ rfl; (with_reducible repeat (first | refine bN_q ?_ _ | refine bW_q ?_ | refine bL_q ?_ _)); refine blk_put (cs := #[.int .i64 0, .int .i64 0, .int .i64 0]) ?_ 0 _ rfl; (with_reducible repeat (first | refine bN_q ?_ _ | refine bW_q ?_ | refine bL_q ?_ _)); refine blk_far ?_ NB158_159.out _; (with_reducible repeat (first | refine bN_q ?_ _ | refine bW_q ?_ | refine bL_q ?_ _)); refine blk_far ?_ NB158_159.out _; (with_reducible repeat (first | refine bN_q ?_ _ | refine bW_q ?_ | refine bL_q ?_ _)); refine blk_far ?_ NB158_159.out _; (with_reducible repeat (first | refine bN_q ?_ _ | refine bW_q ?_ | refine bL_q ?_ _)); exact BK158.out) Try.underlying31 rfl m7_q) rfl ?_
 exact ⟨m4_q, by repeat (with_reducible first | exact HB.out | apply bA_q | apply pB_q | apply bD_q | refine bS_q ?_ GE157.out | refine bS_q ?_ GE158.out | refine bS_q ?_ GE159.out)⟩

def impl_within.f (a0 : Int) (a1 : Int) (a2 : Int) : Option (Bool) := if a0 ≥ a1 then (some (decide (a0 ≤ a2))) else (some false)
set_option maxHeartbeats 8000000 in
set_option maxRecDepth 100000 in
theorem impl_within.calls (a0 : Int) (a1 : Int) (a2 : Int) (r : Bool) (w : World) (h : impl_within.f a0 a1 a2 = some r) :
    Calls Try.prog 63 #[.int .i64 a0, .int .i64 a1, .int .i64 a2] w fun e w' => e = .returned (.bool r) ∧ Drawn0 w w' := by
 have H : (if a0 ≥ a1 then (some (decide (a0 ≤ a2))) else (some false)) = some r := h
 clear h
 by_cases c4 : a0 ≥ a1
 ·rw [if_pos c4] at H
  have c4b0 : decide (a1 ≤ a0) = true := dT_q c4
  clear c4
  obtain rfl := oI_q H
  go_enter Try.func63, Try.ntmps63
  go_wp2
  go_ret
  exact ⟨m5_q, m37_q⟩
 rw [if_neg c4] at H
 have c4b0 : decide (a1 ≤ a0) = false := dF_q c4
 clear c4
 obtain rfl := oI_q H
 go_enter Try.func63, Try.ntmps63
 go_wp2
 go_ret
 exact ⟨m5_q, m37_q⟩

mutual
def impl_StepsValid.l0 : Nat → List (S63) → List (S63) → Int → Int → Option (Bool)
 | 0, _, _, _, _ => none
 | k + 1, x0, x7, x8, x9 => if x9 < x8 then (if 0 ≤ x9 then (if x9 < (x7.length : Int) then ((impl_within.f ((rd_T63 x7 x9).f0) 1 99).bind fun t162 => (if t162 = true then ((impl_within.f ((rd_T63 x7 x9).f1) 0 4).bind fun t163 => (if t163 = true then ((impl_within.f ((rd_T63 x7 x9).f2) 0 4).bind fun t164 => (impl_StepsValid.j1 k x0 x9 x7 x8 x9 (!t164) ((rd_T63 x7 x9).f0) ((rd_T63 x7 x9).f1) ((rd_T63 x7 x9).f2) ((rd_T63 x7 x9).f3))) else (impl_StepsValid.j1 k x0 x9 x7 x8 x9 true ((rd_T63 x7 x9).f0) ((rd_T63 x7 x9).f1) ((rd_T63 x7 x9).f2) ((rd_T63 x7 x9).f3)))) else (impl_StepsValid.j1 k x0 x9 x7 x8 x9 true ((rd_T63 x7 x9).f0) ((rd_T63 x7 x9).f1) ((rd_T63 x7 x9).f2) ((rd_T63 x7 x9).f3)))) else (none)) else (none)) else (some (decide ((x0.length : Int) ≤ 8)))
def impl_StepsValid.j1 : Nat → List (S63) → Int → List (S63) → Int → Int → Bool → Int → Int → Int → List Int → Option (Bool)
 | 0, _, _, _, _, _, _, _, _, _, _ => none
 | k + 1, x0, x3, x7, x8, x9, x29, x162000, x162001, x162002, x162003 => if x29 = true then (some false) else (impl_StepsValid.l1 k x0 x3 x7 x8 x9 x162003 (x162003.length : Int) 0 x162000 x162001 x162002 x162003)
def impl_StepsValid.l1 : Nat → List (S63) → Int → List (S63) → Int → Int → List Int → Int → Int → Int → Int → Int → List Int → Option (Bool)
 | 0, _, _, _, _, _, _, _, _, _, _, _, _ => none
 | k + 1, x0, x3, x7, x8, x9, x31, x32, x33, x162000, x162001, x162002, x162003 => if x33 < x32 then (if 0 ≤ x33 then (if x33 < (x31.length : Int) then ((impl_within.f (rd x31 x33) 0 (wrap64 (x3 - 1))).bind fun t166 => (if t166 = true then (if x33 > 0 then (if 0 ≤ (wrap64 (x33 - 1)) then (if (wrap64 (x33 - 1)) < (x162003.length : Int) then (if (rd x162003 (wrap64 (x33 - 1))) ≥ (rd x31 x33) then (some false) else (impl_StepsValid.l1 k x0 x3 x7 x8 x9 x31 x32 (wrap64 (x33 + 1)) x162000 x162001 x162002 x162003)) else (none)) else (none)) else (impl_StepsValid.l1 k x0 x3 x7 x8 x9 x31 x32 (wrap64 (x33 + 1)) x162000 x162001 x162002 x162003)) else (some false))) else (none)) else (none)) else (impl_StepsValid.l0 k x0 x7 x8 (wrap64 (x9 + 1)))
end
def impl_StepsValid.f (k : Nat) (l0 : List (S63)) : Option (Bool) := impl_StepsValid.l0 k l0 l0 (l0.length : Int) 0
set_option maxHeartbeats 8000000 in
set_option maxRecDepth 100000 in
theorem impl_StepsValid.calls (k : Nat) (A0 : Option Addr) (c0 : Nat) (l0 : List (S63)) (r : Bool) (w : World) (hr0 : Kd.C k63 w A0 l0.length l0) (hc0 : l0.length ≤ c0) (h : impl_StepsValid.f k l0 = some r) :
    Calls Try.prog 48 #[.slice A0 l0.length c0] w fun e w' => e = .returned (.bool r) ∧ Below w.heap.size w w' := by
 have hu63 := Try.underlying63
 have HR0 := Ae_q hr0
 have HC0 := Ae_q hc0
 clear hr0 hc0
 have HB := Ae_q (bR_q w.heap.size w)
 have H : (impl_StepsValid.l0 k l0 l0 (l0.length : Int) 0) = some r := h
 clear h
 have H' := Ae_q H
 clear H
 go_enter Try.func48, Try.ntmps48
 go_wp2
 go_loopg [9] k (fun kq v9 w' => ∃ (x9_1 : Int), v9 = .int .i64 x9_1 ∧ Aside0 (impl_StepsValid.l0 kq l0 l0 (l0.length : Int) x9_1 = some r) ∧ Aside0 (kq ≤ k) ∧ Aside0 (Below w.heap.size w w'))
 case atStart => exact ⟨(0), m5_q, H', ⟨nR_q _⟩, ⟨bel HB.out⟩⟩
 case round =>
  clear H'
  obtain ⟨x9_1, rfl, HA, HK1, HB⟩ := hrel
  cases gk with
  | zero => exact absurd HA.out (by simp [impl_StepsValid.l0])
  | succ k1 =>
   have H := HA.out
   clear HA
   simp only [impl_StepsValid.l0] at H
   by_cases c2 : x9_1 < (l0.length : Int)
   rotate_left
   ·rw [if_neg c2] at H
    have c2b0 : decide (x9_1 < (l0.length : Int)) = false := dF_q c2
    clear c2
    obtain rfl := oI_q H
    go_wp2
    go_ret
    exact ⟨m4_q, bel HB.out⟩
   rw [if_pos c2] at H
   have c2b0 : decide (x9_1 < (l0.length : Int)) = true := dT_q c2
   clear c2
   by_cases c3 : 0 ≤ x9_1
   rotate_left
   ·rw [if_neg c3] at H
    exact absurd H (by simp)
   rw [if_pos c3] at H
   have c3b0 : decide (0 ≤ x9_1) = true := dT_q c3
   clear c3
   by_cases c4 : x9_1 < (l0.length : Int)
   rotate_left
   ·rw [if_neg c4] at H
    exact absurd H (by simp)
   rw [if_pos c4] at H
   have c4b0 : decide (x9_1 < (l0.length : Int)) = true := dT_q c4
   clear c4
   have HC5 := Ae_q H
   clear H
   have p160 : 0 ≤ (x9_1 : Int) := oD_q (by assumption)
   have q160 : x9_1 < (l0.length : Int) := oD_q (by assumption)
   obtain ⟨ad160, A160_3, c160_3, e160, hx160_0, hx160_1, hx160_2, hx160_3, hl160_3, hi160_3⟩ := at_T63 HR0.out x9_1 p160 q160
   cases e160
   replace hx160_0 := cel HB.out hx160_0
   replace hx160_1 := cel HB.out hx160_1
   replace hx160_2 := cel HB.out hx160_2
   replace hx160_3 := cel HB.out hx160_3
   have HR160_3 := Ae_q hi160_3
   have HC160_3 := Ae_q hl160_3
   clear hi160_3 hl160_3
   replace p160 := eq_true p160
   replace q160 := eq_true q160
   go_upto_region 4 with (first | ((with_reducible refine gD_q (N := 4) rfl ?_); refine bE_q ?hg (N := 4) ?hd (cs := #[.int .i64 0, .int .i64 0, .int .i64 0, .slice none 0 0]) (t := 63) ?hr ?_; (case hd => rfl); (case hg => rfl); (case hr => exact m6_q); intro gb161 hg w6 hbox hb; have BK161 := Ae_q (hbox); have GW161 := Ae_q ((by rw [hg]; exact (bZ_q (bel HB.out)) : w.heap.size ≤ gb161)); have GE161 := Ae_q ((by rw [hg]; exact (bZ_q (bel HB.out)) : w.heap.size ≤ gb161)); replace HB := Ae_q (bT_q (bel HB.out) hb); clear hb hbox hg; have hcz7_0 : cI w6 gb161 0 0 := cZ BK161 0 rfl; have hcz7_1 : cI w6 gb161 1 0 := cZ BK161 1 rfl; have hcz7_2 : cI w6 gb161 2 0 := cZ BK161 2 rfl; have hcz7_3 : w6.cell? ⟨gb161, 3, none⟩ = some (.slice none 0 0) := (bC_q BK161.out 3).trans rfl; have hfz7_0 := bF_q BK161.out 0; have hfz7_1 := bF_q BK161.out 1; have hfz7_2 := bF_q BK161.out 2; have hfz7_3 := bF_q BK161.out 3))
   (try simp only [Act.put, sA_q, sZ_q, sS_q])
   go_cut [29] (fun v29 wc => ∃ (kq : Nat) (x29_4 : Bool), v29 = .bool x29_4 ∧ Aside0 (impl_StepsValid.j1 kq l0 x9_1 l0 (l0.length : Int) x9_1 x29_4 ((rd_T63 l0 x9_1).f0) ((rd_T63 l0 x9_1).f1) ((rd_T63 l0 x9_1).f2) ((rd_T63 l0 x9_1).f3) = some r) ∧ Aside0 (kq ≤ k1) ∧ Aside0 (wc.heap[gb161]? = some (.cells #[.int .i64 ((rd_T63 l0 x9_1).f0), .int .i64 ((rd_T63 l0 x9_1).f1), .int .i64 ((rd_T63 l0 x9_1).f2), (.slice A160_3 ((rd_T63 l0 x9_1).f3).length c160_3)] 63 (0, 0))) ∧ Aside0 (Below w.heap.size w wc))
   case first =>
    have H := HC5.out
    clear HC5
    replace H := oB_q.mp H
    obtain ⟨t162, A80, H⟩ := H
    replace H : (if t162 = true then ((impl_within.f ((rd_T63 l0 x9_1).f1) 0 4).bind fun t163 => (if t163 = true then ((impl_within.f ((rd_T63 l0 x9_1).f2) 0 4).bind fun t164 => (impl_StepsValid.j1 k1 l0 x9_1 l0 (l0.length : Int) x9_1 (!t164) ((rd_T63 l0 x9_1).f0) ((rd_T63 l0 x9_1).f1) ((rd_T63 l0 x9_1).f2) ((rd_T63 l0 x9_1).f3))) else (impl_StepsValid.j1 k1 l0 x9_1 l0 (l0.length : Int) x9_1 true ((rd_T63 l0 x9_1).f0) ((rd_T63 l0 x9_1).f1) ((rd_T63 l0 x9_1).f2) ((rd_T63 l0 x9_1).f3)))) else (impl_StepsValid.j1 k1 l0 x9_1 l0 (l0.length : Int) x9_1 true ((rd_T63 l0 x9_1).f0) ((rd_T63 l0 x9_1).f1) ((rd_T63 l0 x9_1).f2) ((rd_T63 l0 x9_1).f3))) = some r := H
    have A8 := Ae_q A80
    clear A80
    by_cases c9 : t162 = true
    rotate_left
    ·replace c9 := fM_q.mpr c9
     subst c9
     have H1 : (impl_StepsValid.j1 k1 l0 x9_1 l0 (l0.length : Int) x9_1 true ((rd_T63 l0 x9_1).f0) ((rd_T63 l0 x9_1).f1) ((rd_T63 l0 x9_1).f2) ((rd_T63 l0 x9_1).f3)) = some r := by rw [if_neg (show ¬ (false = true) by decide)] at H; exact H
     clear H
     have H := H1
     clear H1
     have H' := Ae_q H
     clear H
     have hcz15_0 : cI w6 gb161 0 0 := cZ BK161 0 rfl
     have hcz15_1 : cI w6 gb161 1 0 := cZ BK161 1 rfl
     have hcz15_2 : cI w6 gb161 2 0 := cZ BK161 2 rfl
     have hcz15_3 : w6.cell? ⟨gb161, 3, none⟩ = some (.slice none 0 0) := (bC_q BK161.out 3).trans rfl
     have hfz15_0 := bF_q BK161.out 0
     have hfz15_1 := bF_q BK161.out 1
     have hfz15_2 := bF_q BK161.out 2
     have hfz15_3 := bF_q BK161.out 3
     go_wp2_with (first | ((with_reducible refine gC_q (f := 63) rfl ?_); refine gL_q (some 16) rfl rfl Try.func63 m7_q rfl #[.int .i64 ((rd_T63 l0 x9_1).f0), .int .i64 1, .int .i64 99] rfl m1_q ?_; (with_reducible refine (impl_within.calls ((rd_T63 l0 x9_1).f0) 1 99 false _ A8.out).mono ?_); rintro e w' ⟨rfl, ⟨nd, rfl⟩⟩; refine ⟨_, rfl, ?_⟩))
     go_meet
     case rel => exact ⟨_, (true), m5_q, H', ⟨m78_q⟩, ⟨m10_q⟩, ⟨m27_q⟩⟩
    subst c9
    have H1 : ((impl_within.f ((rd_T63 l0 x9_1).f1) 0 4).bind fun t163 => (if t163 = true then ((impl_within.f ((rd_T63 l0 x9_1).f2) 0 4).bind fun t164 => (impl_StepsValid.j1 k1 l0 x9_1 l0 (l0.length : Int) x9_1 (!t164) ((rd_T63 l0 x9_1).f0) ((rd_T63 l0 x9_1).f1) ((rd_T63 l0 x9_1).f2) ((rd_T63 l0 x9_1).f3))) else (impl_StepsValid.j1 k1 l0 x9_1 l0 (l0.length : Int) x9_1 true ((rd_T63 l0 x9_1).f0) ((rd_T63 l0 x9_1).f1) ((rd_T63 l0 x9_1).f2) ((rd_T63 l0 x9_1).f3)))) = some r := by rw [if_pos rfl] at H; exact H
    clear H
    have H := H1
    clear H1
    replace H := oB_q.mp H
    obtain ⟨t163, A100, H⟩ := H
    replace H : (if t163 = true then ((impl_within.f ((rd_T63 l0 x9_1).f2) 0 4).bind fun t164 => (impl_StepsValid.j1 k1 l0 x9_1 l0 (l0.length : Int) x9_1 (!t164) ((rd_T63 l0 x9_1).f0) ((rd_T63 l0 x9_1).f1) ((rd_T63 l0 x9_1).f2) ((rd_T63 l0 x9_1).f3))) else (impl_StepsValid.j1 k1 l0 x9_1 l0 (l0.length : Int) x9_1 true ((rd_T63 l0 x9_1).f0) ((rd_T63 l0 x9_1).f1) ((rd_T63 l0 x9_1).f2) ((rd_T63 l0 x9_1).f3))) = some r := H
    have A10 := Ae_q A100
    clear A100
    by_cases c11 : t163 = true
    rotate_left
    ·replace c11 := fM_q.mpr c11
     subst c11
     have H1 : (impl_StepsValid.j1 k1 l0 x9_1 l0 (l0.length : Int) x9_1 true ((rd_T63 l0 x9_1).f0) ((rd_T63 l0 x9_1).f1) ((rd_T63 l0 x9_1).f2) ((rd_T63 l0 x9_1).f3)) = some r := by rw [if_neg (show ¬ (false = true) by decide)] at H; exact H
     clear H
     have H := H1
     clear H1
     have H' := Ae_q H
     clear H
     have hcz14_0 : cI w6 gb161 0 0 := cZ BK161 0 rfl
     have hcz14_1 : cI w6 gb161 1 0 := cZ BK161 1 rfl
     have hcz14_2 : cI w6 gb161 2 0 := cZ BK161 2 rfl
     have hcz14_3 : w6.cell? ⟨gb161, 3, none⟩ = some (.slice none 0 0) := (bC_q BK161.out 3).trans rfl
     have hfz14_0 := bF_q BK161.out 0
     have hfz14_1 := bF_q BK161.out 1
     have hfz14_2 := bF_q BK161.out 2
     have hfz14_3 := bF_q BK161.out 3
     go_wp2_with (first | ((with_reducible refine gC_q (f := 63) rfl ?_); refine gL_q (some 16) rfl rfl Try.func63 m7_q rfl #[.int .i64 ((rd_T63 l0 x9_1).f0), .int .i64 1, .int .i64 99] rfl m1_q ?_; (with_reducible refine (impl_within.calls ((rd_T63 l0 x9_1).f0) 1 99 true _ A8.out).mono ?_); rintro e w' ⟨rfl, ⟨nd, rfl⟩⟩; refine ⟨_, rfl, ?_⟩) | (go_at_call 63; (with_reducible refine (impl_within.calls ((rd_T63 l0 x9_1).f1) 0 4 false _ A10.out).mono ?_); rintro e w' ⟨rfl, ⟨nd, rfl⟩⟩))
     go_meet
     case rel => exact ⟨_, (true), m5_q, H', ⟨m78_q⟩, ⟨m10_q⟩, ⟨m27_q⟩⟩
    subst c11
    have H1 : ((impl_within.f ((rd_T63 l0 x9_1).f2) 0 4).bind fun t164 => (impl_StepsValid.j1 k1 l0 x9_1 l0 (l0.length : Int) x9_1 (!t164) ((rd_T63 l0 x9_1).f0) ((rd_T63 l0 x9_1).f1) ((rd_T63 l0 x9_1).f2) ((rd_T63 l0 x9_1).f3))) = some r := by rw [if_pos rfl] at H; exact H
    clear H
    have H := H1
    clear H1
    replace H := oB_q.mp H
    obtain ⟨t164, A120, H⟩ := H
    replace H : (impl_StepsValid.j1 k1 l0 x9_1 l0 (l0.length : Int) x9_1 (!t164) ((rd_T63 l0 x9_1).f0) ((rd_T63 l0 x9_1).f1) ((rd_T63 l0 x9_1).f2) ((rd_T63 l0 x9_1).f3)) = some r := H
    have A12 := Ae_q A120
    clear A120
    have H' := Ae_q H
    clear H
    have hcz13_0 : cI w6 gb161 0 0 := cZ BK161 0 rfl
    have hcz13_1 : cI w6 gb161 1 0 := cZ BK161 1 rfl
    have hcz13_2 : cI w6 gb161 2 0 := cZ BK161 2 rfl
    have hcz13_3 : w6.cell? ⟨gb161, 3, none⟩ = some (.slice none 0 0) := (bC_q BK161.out 3).trans rfl
    have hfz13_0 := bF_q BK161.out 0
    have hfz13_1 := bF_q BK161.out 1
    have hfz13_2 := bF_q BK161.out 2
    have hfz13_3 := bF_q BK161.out 3
    go_wp2_with (first | ((with_reducible refine gC_q (f := 63) rfl ?_); refine gL_q (some 16) rfl rfl Try.func63 m7_q rfl #[.int .i64 ((rd_T63 l0 x9_1).f0), .int .i64 1, .int .i64 99] rfl m1_q ?_; (with_reducible refine (impl_within.calls ((rd_T63 l0 x9_1).f0) 1 99 true _ A8.out).mono ?_); rintro e w' ⟨rfl, ⟨nd, rfl⟩⟩; refine ⟨_, rfl, ?_⟩) | (go_at_call 63; (first | (with_reducible refine (impl_within.calls ((rd_T63 l0 x9_1).f1) 0 4 true _ A10.out).mono ?_) | (with_reducible refine (impl_within.calls ((rd_T63 l0 x9_1).f2) 0 4 t164 _ A12.out).mono ?_)); rintro e w' ⟨rfl, ⟨nd, rfl⟩⟩))
    go_meet
    case rel => exact ⟨_, (!t164), m5_q, H', ⟨m78_q⟩, ⟨m10_q⟩, ⟨m27_q⟩⟩
   case rest =>
    clear HC5
    try clear c1
    try clear p1
    try clear q1
    try clear hx1
    try clear c2
    try clear c2b0
    try clear p2
    try clear c3
    try clear c3b0
    try clear c4
    try clear c4b0
    try clear c6
    try clear c9
    try clear c11
    try clear hcz13_0
    try clear hcz13_1
    try clear hcz13_2
    try clear hcz13_3
    try clear hcz14_0
    try clear hcz14_1
    try clear hcz14_2
    try clear hcz14_3
    try clear hcz15_0
    try clear hcz15_1
    try clear hcz15_2
    try clear hcz15_3
    try clear hcz7_0
    try clear hcz7_1
    try clear hcz7_2
    try clear hcz7_3
    try clear hfz13_0
    try clear hfz13_1
    try clear hfz13_2
    try clear hfz13_3
    try clear hfz14_0
    try clear hfz14_1
    try clear hfz14_2
    try clear hfz14_3
    try clear hfz15_0
    try clear hfz15_1
    try clear hfz15_2
    try clear hfz15_3
    try clear hfz7_0
    try clear hfz7_1
    try clear hfz7_2
    try clear hfz7_3
    try clear hx160_0
    try clear hx160_1
    try clear hx160_2
    try clear hx160_3
    try clear p160
    try clear q160
    obtain ⟨kq, x29_4, rfl, HA, HJ4, BK161, HB⟩ := hcut
    cases kq with
    | zero => exact absurd HA.out (by simp [impl_StepsValid.j1])
    | succ kj4 =>
     have H := HA.out
     clear HA
     simp only [impl_StepsValid.j1] at H
     by_cases c16 : x29_4 = true
     ·subst c16
      have H1 : (some false) = some r := by rw [if_pos rfl] at H; exact H
      clear H
      have H := H1
      clear H1
      obtain rfl := oI_q H
      go_wp2
      go_ret
      exact ⟨m4_q, m27_q⟩
     replace c16 := fM_q.mpr c16
     subst c16
     have H1 : (impl_StepsValid.l1 kj4 l0 x9_1 l0 (l0.length : Int) x9_1 ((rd_T63 l0 x9_1).f3) (((rd_T63 l0 x9_1).f3).length : Int) 0 ((rd_T63 l0 x9_1).f0) ((rd_T63 l0 x9_1).f1) ((rd_T63 l0 x9_1).f2) ((rd_T63 l0 x9_1).f3)) = some r := by rw [if_neg (show ¬ (false = true) by decide)] at H; exact H
     clear H
     have H := H1
     clear H1
     have H' := Ae_q H
     clear H
     have hcz17_0 : cI wc gb161 0 ((rd_T63 l0 x9_1).f0) := cZ BK161 0 rfl
     have hcz17_1 : cI wc gb161 1 ((rd_T63 l0 x9_1).f1) := cZ BK161 1 rfl
     have hcz17_2 : cI wc gb161 2 ((rd_T63 l0 x9_1).f2) := cZ BK161 2 rfl
     have hcz17_3 : wc.cell? ⟨gb161, 3, none⟩ = some (.slice A160_3 ((rd_T63 l0 x9_1).f3).length c160_3) := (bC_q BK161.out 3).trans rfl
     have hfz17_0 := bF_q BK161.out 0
     have hfz17_1 := bF_q BK161.out 1
     have hfz17_2 := bF_q BK161.out 2
     have hfz17_3 := bF_q BK161.out 3
     go_wp2
     go_loopg [33] kj4 (fun kq v33 w' => ∃ (x33_3 : Int), v33 = .int .i64 x33_3 ∧ Aside0 (impl_StepsValid.l1 kq l0 x9_1 l0 (l0.length : Int) x9_1 ((rd_T63 l0 x9_1).f3) (((rd_T63 l0 x9_1).f3).length : Int) x33_3 ((rd_T63 l0 x9_1).f0) ((rd_T63 l0 x9_1).f1) ((rd_T63 l0 x9_1).f2) ((rd_T63 l0 x9_1).f3) = some r) ∧ Aside0 (kq ≤ kj4) ∧ Aside0 (w'.heap[gb161]? = some (.cells #[.int .i64 ((rd_T63 l0 x9_1).f0), .int .i64 ((rd_T63 l0 x9_1).f1), .int .i64 ((rd_T63 l0 x9_1).f2), (.slice A160_3 ((rd_T63 l0 x9_1).f3).length c160_3)] 63 (0, 0))) ∧ Aside0 (Below w.heap.size w w'))
     case atStart => exact ⟨(0), m5_q, H', ⟨nR_q _⟩, ⟨bup BK161.out⟩, ⟨m27_q⟩⟩
     case round =>
      clear H'
      try clear c1
      try clear p1
      try clear q1
      try clear hx1
      try clear c2
      try clear c2b0
      try clear p2
      try clear c3
      try clear c3b0
      try clear c4
      try clear c4b0
      try clear c6
      try clear c9
      try clear c11
      try clear c16
      try clear p16
      try clear q16
      try clear hx16
      try clear hcz13_0
      try clear hcz13_1
      try clear hcz13_2
      try clear hcz13_3
      try clear hcz14_0
      try clear hcz14_1
      try clear hcz14_2
      try clear hcz14_3
      try clear hcz15_0
      try clear hcz15_1
      try clear hcz15_2
      try clear hcz15_3
      try clear hcz17_0
      try clear hcz17_1
      try clear hcz17_2
      try clear hcz17_3
      try clear hcz7_0
      try clear hcz7_1
      try clear hcz7_2
      try clear hcz7_3
      try clear hfz13_0
      try clear hfz13_1
      try clear hfz13_2
      try clear hfz13_3
      try clear hfz14_0
      try clear hfz14_1
      try clear hfz14_2
      try clear hfz14_3
      try clear hfz15_0
      try clear hfz15_1
      try clear hfz15_2
      try clear hfz15_3
      try clear hfz17_0
      try clear hfz17_1
      try clear hfz17_2
      try clear hfz17_3
      try clear hfz7_0
      try clear hfz7_1
      try clear hfz7_2
      try clear hfz7_3
      try clear hx160_0
      try clear hx160_1
      try clear hx160_2
      try clear hx160_3
      try clear p1
      try clear p160
      try clear p2
      try clear q1
      try clear q160
      obtain ⟨x33_3, rfl, HA, HK3, BK161, HB⟩ := hrel
      cases gk with
      | zero => exact absurd HA.out (by simp [impl_StepsValid.l1])
      | succ k3 =>
       have H := HA.out
       clear HA
       simp only [impl_StepsValid.l1] at H
       by_cases c18 : x33_3 < (((rd_T63 l0 x9_1).f3).length : Int)
       rotate_left
       ·rw [if_neg c18] at H
        have c18b0 : decide (x33_3 < (((rd_T63 l0 x9_1).f3).length : Int)) = false := dF_q c18
        clear c18
        have H' := Ae_q H
        clear H
        go_wp2
        go_roundg k3
        case measure => have := HK1.out; have := HJ4.out; have := HK3.out; omega
        case rel => exact ⟨(wrap64 (x9_1 + 1)), m5_q, H', ⟨m115_q⟩, ⟨m27_q⟩⟩
       rw [if_pos c18] at H
       have c18b0 : decide (x33_3 < (((rd_T63 l0 x9_1).f3).length : Int)) = true := dT_q c18
       clear c18
       by_cases c19 : 0 ≤ x33_3
       rotate_left
       ·rw [if_neg c19] at H
        exact absurd H (by simp)
       rw [if_pos c19] at H
       have c19b0 : decide (0 ≤ x33_3) = true := dT_q c19
       clear c19
       by_cases c20 : x33_3 < (((rd_T63 l0 x9_1).f3).length : Int)
       rotate_left
       ·rw [if_neg c20] at H
        exact absurd H (by simp)
       rw [if_pos c20] at H
       have c20b0 : decide (x33_3 < (((rd_T63 l0 x9_1).f3).length : Int)) = true := dT_q c20
       clear c20
       replace H := oB_q.mp H
       obtain ⟨t166, A210, H⟩ := H
       replace H : (if t166 = true then (if x33_3 > 0 then (if 0 ≤ (wrap64 (x33_3 - 1)) then (if (wrap64 (x33_3 - 1)) < (((rd_T63 l0 x9_1).f3).length : Int) then (if (rd ((rd_T63 l0 x9_1).f3) (wrap64 (x33_3 - 1))) ≥ (rd ((rd_T63 l0 x9_1).f3) x33_3) then (some false) else (impl_StepsValid.l1 k3 l0 x9_1 l0 (l0.length : Int) x9_1 ((rd_T63 l0 x9_1).f3) (((rd_T63 l0 x9_1).f3).length : Int) (wrap64 (x33_3 + 1)) ((rd_T63 l0 x9_1).f0) ((rd_T63 l0 x9_1).f1) ((rd_T63 l0 x9_1).f2) ((rd_T63 l0 x9_1).f3))) else (none)) else (none)) else (impl_StepsValid.l1 k3 l0 x9_1 l0 (l0.length : Int) x9_1 ((rd_T63 l0 x9_1).f3) (((rd_T63 l0 x9_1).f3).length : Int) (wrap64 (x33_3 + 1)) ((rd_T63 l0 x9_1).f0) ((rd_T63 l0 x9_1).f1) ((rd_T63 l0 x9_1).f2) ((rd_T63 l0 x9_1).f3))) else (some false)) = some r := H
       have A21 := Ae_q A210
       clear A210
       by_cases c22 : t166 = true
       rotate_left
       ·replace c22 := fM_q.mpr c22
        subst c22
        have H1 : (some false) = some r := by rw [if_neg (show ¬ (false = true) by decide)] at H; exact H
        clear H
        have H := H1
        clear H1
        obtain rfl := oI_q H
        have p165 : 0 ≤ (x33_3 : Int) := oD_q (by assumption)
        have q165 : x33_3 < (((rd_T63 l0 x9_1).f3).length : Int) := oD_q (by assumption)
        obtain ⟨ad165, e165, hx165_0⟩ := aI_q HR160_3.out x33_3 p165 q165
        cases e165
        replace hx165_0 := cel HB.out hx165_0
        replace p165 := eq_true p165
        replace q165 := eq_true q165
        go_wp2_with (first | ((with_reducible refine gC_q (f := 63) rfl ?_); refine gL_q (some 41) rfl rfl Try.func63 m7_q rfl #[.int .i64 (rd ((rd_T63 l0 x9_1).f3) x33_3), .int .i64 0, .int .i64 (wrap64 (x9_1 - 1))] rfl m1_q ?_; (with_reducible refine (impl_within.calls (rd ((rd_T63 l0 x9_1).f3) x33_3) 0 (wrap64 (x9_1 - 1)) false _ A21.out).mono ?_); rintro e w' ⟨rfl, ⟨nd, rfl⟩⟩; refine ⟨_, rfl, ?_⟩))
        go_ret
        exact ⟨m4_q, m27_q⟩
       subst c22
       have H1 : (if x33_3 > 0 then (if 0 ≤ (wrap64 (x33_3 - 1)) then (if (wrap64 (x33_3 - 1)) < (((rd_T63 l0 x9_1).f3).length : Int) then (if (rd ((rd_T63 l0 x9_1).f3) (wrap64 (x33_3 - 1))) ≥ (rd ((rd_T63 l0 x9_1).f3) x33_3) then (some false) else (impl_StepsValid.l1 k3 l0 x9_1 l0 (l0.length : Int) x9_1 ((rd_T63 l0 x9_1).f3) (((rd_T63 l0 x9_1).f3).length : Int) (wrap64 (x33_3 + 1)) ((rd_T63 l0 x9_1).f0) ((rd_T63 l0 x9_1).f1) ((rd_T63 l0 x9_1).f2) ((rd_T63 l0 x9_1).f3))) else (none)) else (none)) else (impl_StepsValid.l1 k3 l0 x9_1 l0 (l0.length : Int) x9_1 ((rd_T63 l0 x9_1).f3) (((rd_T63 l0 x9_1).f3).length : Int) (wrap64 (x33_3 + 1)) ((rd_T63 l0 x9_1).f0) ((rd_T63 l0 x9_1).f1) ((rd_T63 l0 x9_1).f2) ((rd_T63 l0 x9_1).f3))) = some r := by rw [if_pos rfl] at H; exact H
       clear H
       have H := H1
       clear H1
       by_cases c23 : x33_3 > 0
       rotate_left
       ·rw [if_neg c23] at H
        have c23b0 : decide (0 < x33_3) = false := dF_q c23
        clear c23
        have H' := Ae_q H
        clear H
        have p165 : 0 ≤ (x33_3 : Int) := oD_q (by assumption)
        have q165 : x33_3 < (((rd_T63 l0 x9_1).f3).length : Int) := oD_q (by assumption)
        obtain ⟨ad165, e165, hx165_0⟩ := aI_q HR160_3.out x33_3 p165 q165
        cases e165
        replace hx165_0 := cel HB.out hx165_0
        replace p165 := eq_true p165
        replace q165 := eq_true q165
        go_wp2_with (first | ((with_reducible refine gC_q (f := 63) rfl ?_); refine gL_q (some 41) rfl rfl Try.func63 m7_q rfl #[.int .i64 (rd ((rd_T63 l0 x9_1).f3) x33_3), .int .i64 0, .int .i64 (wrap64 (x9_1 - 1))] rfl m1_q ?_; (with_reducible refine (impl_within.calls (rd ((rd_T63 l0 x9_1).f3) x33_3) 0 (wrap64 (x9_1 - 1)) true _ A21.out).mono ?_); rintro e w' ⟨rfl, ⟨nd, rfl⟩⟩; refine ⟨_, rfl, ?_⟩))
        go_roundg k3
        case measure => have := HK1.out; have := HJ4.out; have := HK3.out; omega
        case rel => exact ⟨(wrap64 (x33_3 + 1)), m5_q, H', ⟨m115_q⟩, ⟨bup BK161.out⟩, ⟨m27_q⟩⟩
       rw [if_pos c23] at H
       have c23b0 : decide (0 < x33_3) = true := dT_q c23
       clear c23
       obtain ⟨ji24, hji24⟩ : ∃ j_ : Int, (wrap64 (x33_3 - 1)) = j_ := ⟨_, rfl⟩
       replace H : (if 0 ≤ (ji24) then (if (ji24) < (((rd_T63 l0 x9_1).f3).length : Int) then (if (rd ((rd_T63 l0 x9_1).f3) (ji24)) ≥ (rd ((rd_T63 l0 x9_1).f3) x33_3) then (some false) else (impl_StepsValid.l1 k3 l0 x9_1 l0 (l0.length : Int) x9_1 ((rd_T63 l0 x9_1).f3) (((rd_T63 l0 x9_1).f3).length : Int) (wrap64 (x33_3 + 1)) ((rd_T63 l0 x9_1).f0) ((rd_T63 l0 x9_1).f1) ((rd_T63 l0 x9_1).f2) ((rd_T63 l0 x9_1).f3))) else (none)) else (none)) = some r := by first | (rw [hji24] at H; exact H) | (simp only [hji24] at H ⊢; exact H)
       (try rw [hji24] at A21)
       have hji24w : (IntKind.i64.wrap (x33_3 - 1)) = ji24 := (i64_w _).trans hji24
       by_cases c25 : 0 ≤ (ji24)
       rotate_left
       ·rw [if_neg c25] at H
        exact absurd H (by simp)
       rw [if_pos c25] at H
       have c25b0 : decide (0 ≤ (ji24)) = true := dT_q c25
       clear c25
       by_cases c26 : (ji24) < (((rd_T63 l0 x9_1).f3).length : Int)
       rotate_left
       ·rw [if_neg c26] at H
        exact absurd H (by simp)
       rw [if_pos c26] at H
       have c26b0 : decide ((ji24) < (((rd_T63 l0 x9_1).f3).length : Int)) = true := dT_q c26
       clear c26
       by_cases c27 : (rd ((rd_T63 l0 x9_1).f3) (ji24)) ≥ (rd ((rd_T63 l0 x9_1).f3) x33_3)
       ·rw [if_pos c27] at H
        have c27b0 : decide ((rd ((rd_T63 l0 x9_1).f3) x33_3) ≤ (rd ((rd_T63 l0 x9_1).f3) (ji24))) = true := dT_q c27
        clear c27
        obtain rfl := oI_q H
        have p165 : 0 ≤ (x33_3 : Int) := oD_q (by assumption)
        have q165 : x33_3 < (((rd_T63 l0 x9_1).f3).length : Int) := oD_q (by assumption)
        obtain ⟨ad165, e165, hx165_0⟩ := aI_q HR160_3.out x33_3 p165 q165
        cases e165
        replace hx165_0 := cel HB.out hx165_0
        replace p165 := eq_true p165
        replace q165 := eq_true q165
        go_wp2_with (first | ((with_reducible refine gC_q (f := 63) rfl ?_); refine gL_q (some 41) rfl rfl Try.func63 m7_q rfl #[.int .i64 (rd ((rd_T63 l0 x9_1).f3) x33_3), .int .i64 0, .int .i64 (wrap64 (x9_1 - 1))] rfl m1_q ?_; (with_reducible refine (impl_within.calls (rd ((rd_T63 l0 x9_1).f3) x33_3) 0 (wrap64 (x9_1 - 1)) true _ A21.out).mono ?_); rintro e w' ⟨rfl, ⟨nd, rfl⟩⟩; refine ⟨_, rfl, ?_⟩; have hcz28_0 : cI wr gb161 0 ((rd_T63 l0 x9_1).f0) := cZ BK161 0 rfl; have hcz28_1 : cI wr gb161 1 ((rd_T63 l0 x9_1).f1) := cZ BK161 1 rfl; have hcz28_2 : cI wr gb161 2 ((rd_T63 l0 x9_1).f2) := cZ BK161 2 rfl; have hcz28_3 : wr.cell? ⟨gb161, 3, none⟩ = some (.slice (some ad165) ((rd_T63 l0 x9_1).f3).length c160_3) := (bC_q BK161.out 3).trans rfl; have hfz28_0 := bF_q BK161.out 0; have hfz28_1 := bF_q BK161.out 1; have hfz28_2 := bF_q BK161.out 2; have hfz28_3 := bF_q BK161.out 3; have p167 : 0 ≤ ((ji24) : Int) := oD_q (by assumption); have q167 : (ji24) < (((rd_T63 l0 x9_1).f3).length : Int) := oD_q (by assumption); obtain ⟨ad167, e167, hx167_0⟩ := aI_q HR160_3.out (ji24) p167 q167; obtain rfl : ad165 = ad167 := (by injection e167); replace hx167_0 := cel HB.out hx167_0; replace p167 := eq_true p167; replace q167 := eq_true q167))
        go_ret
        exact ⟨by first | rfl | (simp [eN_q, eS_q] <;> rfl) | (simp only [← hji24]; first | rfl | (simp [eN_q, eS_q] <;> rfl)) | (simp [*, eN_q, eS_q] <;> rfl), m27_q⟩
       rw [if_neg c27] at H
       have c27b0 : decide ((rd ((rd_T63 l0 x9_1).f3) x33_3) ≤ (rd ((rd_T63 l0 x9_1).f3) (ji24))) = false := dF_q c27
       clear c27
       have H' := Ae_q H
       clear H
       have p165 : 0 ≤ (x33_3 : Int) := oD_q (by assumption)
       have q165 : x33_3 < (((rd_T63 l0 x9_1).f3).length : Int) := oD_q (by assumption)
       obtain ⟨ad165, e165, hx165_0⟩ := aI_q HR160_3.out x33_3 p165 q165
       cases e165
       replace hx165_0 := cel HB.out hx165_0
       replace p165 := eq_true p165
       replace q165 := eq_true q165
       go_wp2_with (first | ((with_reducible refine gC_q (f := 63) rfl ?_); refine gL_q (some 41) rfl rfl Try.func63 m7_q rfl #[.int .i64 (rd ((rd_T63 l0 x9_1).f3) x33_3), .int .i64 0, .int .i64 (wrap64 (x9_1 - 1))] rfl m1_q ?_; (with_reducible refine (impl_within.calls (rd ((rd_T63 l0 x9_1).f3) x33_3) 0 (wrap64 (x9_1 - 1)) true _ A21.out).mono ?_); rintro e w' ⟨rfl, ⟨nd, rfl⟩⟩; refine ⟨_, rfl, ?_⟩; have hcz29_0 : cI wr gb161 0 ((rd_T63 l0 x9_1).f0) := cZ BK161 0 rfl; have hcz29_1 : cI wr gb161 1 ((rd_T63 l0 x9_1).f1) := cZ BK161 1 rfl; have hcz29_2 : cI wr gb161 2 ((rd_T63 l0 x9_1).f2) := cZ BK161 2 rfl; have hcz29_3 : wr.cell? ⟨gb161, 3, none⟩ = some (.slice (some ad165) ((rd_T63 l0 x9_1).f3).length c160_3) := (bC_q BK161.out 3).trans rfl; have hfz29_0 := bF_q BK161.out 0; have hfz29_1 := bF_q BK161.out 1; have hfz29_2 := bF_q BK161.out 2; have hfz29_3 := bF_q BK161.out 3; have p167 : 0 ≤ ((ji24) : Int) := oD_q (by assumption); have q167 : (ji24) < (((rd_T63 l0 x9_1).f3).length : Int) := oD_q (by assumption); obtain ⟨ad167, e167, hx167_0⟩ := aI_q HR160_3.out (ji24) p167 q167; obtain rfl : ad165 = ad167 := (by injection e167); replace hx167_0 := cel HB.out hx167_0; replace p167 := eq_true p167; replace q167 := eq_true q167))
       go_roundg k3
       case measure => have := HK1.out; have := HJ4.out; have := HK3.out; omega
       case rel => exact ⟨(wrap64 (x33_3 + 1)), m5_q, H', ⟨m115_q⟩, ⟨bup BK161.out⟩, ⟨m27_q⟩⟩

-- NOT PRINTED: function 72 (slices_IndexFunc_int_int)

-- NOT PRINTED: function 60 (slices_ContainsFunc_int_int)

end Go.Proofs.Ytfnpiacmlahegaa.PRp
