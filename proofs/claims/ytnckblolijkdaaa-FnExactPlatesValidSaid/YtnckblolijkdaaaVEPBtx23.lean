import Derived.Test.YtnckblolijkdaaaVEPBtx0
namespace Go.Proofs.Ytnckblolijkdaaa.PBt
open Go.RowKit Go.Proofs.YtnckblolijkdaaaW.PrintWords Go.Proofs.YtnckblolijkdaaaW.PrintLast Go.Proofs.YtnckblolijkdaaaW.PrintMore
attribute [local go_sem] max2_int min2_int max_two min_two max_three min_three max_four min_four
set_option linter.unusedVariables false
set_option linter.unusedSimpArgs false

def laws_szPlateS.f (l0 : List (S77)) (a1 : Int) : Option (Int) := if (wrap64 (a1 - (l0.length : Int))) < 0 then (some (-1)) else (some (wrap64 (a1 - (l0.length : Int))))
set_option maxHeartbeats 8000000 in
set_option maxRecDepth 100000 in
theorem laws_szPlateS.calls (A0 : Option Addr) (c0 : Nat) (l0 : List (S77)) (a1 : Int) (r : Int) (w : World) (hr0 : Kd.C k77 w A0 l0.length l0) (hc0 : l0.length ≤ c0) (h : laws_szPlateS.f l0 a1 = some r) :
    Calls Try.prog 35 #[.slice A0 l0.length c0, .int .i64 a1] w fun e w' => e = .returned (.int .i64 r) ∧ Drawn0 w w' := by
 have HR0 := Ae_q hr0
 have HC0 := Ae_q hc0
 clear hr0 hc0
 have H : (if (wrap64 (a1 - (l0.length : Int))) < 0 then (some (-1)) else (some (wrap64 (a1 - (l0.length : Int))))) = some r := h
 clear h
 by_cases c3 : (wrap64 (a1 - (l0.length : Int))) < 0
 ·rw [if_pos c3] at H
  have c3b0 : decide ((wrap64 (a1 - (l0.length : Int))) < 0) = true := dT_q c3
  clear c3
  obtain rfl := oI_q H
  go_enter Try.func35, Try.ntmps35
  go_wp2
  go_ret
  exact ⟨m4_q, m10_q⟩
 rw [if_neg c3] at H
 have c3b0 : decide ((wrap64 (a1 - (l0.length : Int))) < 0) = false := dF_q c3
 clear c3
 obtain rfl := oI_q H
 go_enter Try.func35, Try.ntmps35
 go_wp2
 go_ret
 exact ⟨m4_q, m10_q⟩

def laws_toPlate.f (a0_0 : Int) (a0_1 : Int) (a0_2 : Int) : Option (Int × Int × Int) := some (a0_0, a0_1, a0_2)
set_option maxHeartbeats 8000000 in
set_option maxRecDepth 100000 in
theorem laws_toPlate.calls (a0_0 : Int) (a0_1 : Int) (a0_2 : Int) (r1 : Int) (r2 : Int) (r3 : Int) (w : World) (h : laws_toPlate.f a0_0 a0_1 a0_2 = some (r1, r2, r3)) :
    Calls Try.prog 61 #[.agg #[.int .i64 a0_0, .int .i64 a0_1, .int .i64 a0_2]] w fun e w' => e = .returned (.agg #[.int .i64 r1, .int .i64 r2, .int .i64 r3]) ∧ Below w.heap.size w w' := by
 have hu77 := Try.underlying77
 have hu49 := Try.underlying49
 have HB := Ae_q (bR_q w.heap.size w)
 have H : (some (a0_0, a0_1, a0_2)) = some (r1, r2, r3) := h
 clear h
 simp only [oE_q, pE_q] at H
 obtain ⟨rfl, rfl, rfl⟩ := H
 go_enter Try.func61, Try.ntmps61
 go_wp2_with (first | ((first | ((with_reducible refine gD_q (N := 1) rfl ?_); refine bE_q ?hg (N := 1) ?hd (cs := #[.int .i64 a0_0, .int .i64 a0_1, .int .i64 a0_2]) (t := 77) ?hr ?_; (case hd => rfl); (case hg => rfl); (case hr => exact m8_q); intro gb445 hg w' hbox hb; have BK445 := Ae_q (hbox); have GW445 := Ae_q ((by rw [hg]; exact (bZ_q (bel HB.out)) : w.heap.size ≤ gb445)); have GE445 := Ae_q ((by rw [hg]; exact (bZ_q (bel HB.out)) : w.heap.size ≤ gb445)); replace HB := Ae_q (bT_q (bel HB.out) hb)) | ((with_reducible refine gD_q (N := 2) rfl ?_); refine bE_q ?hg (N := 2) ?hd (cs := #[.int .i64 0, .int .i64 0, .int .i64 0]) (t := 49) ?hr ?_; (case hd => rfl); (case hg => rfl); (case hr => exact m8_q); intro gb446 hg w' hbox hb; have BK446 := Ae_q (hbox); have GW446 := Ae_q ((by rw [hg]; exact (bZ_q m28_q) : w.heap.size ≤ gb446)); have GE446 := Ae_q ((by rw [hg]; exact (bZ_q m28_q) : w.heap.size ≤ gb446)); replace HB := Ae_q (bT_q m28_q hb); have NB445_446 := Ae_q ((by rw [hg]; exact nL_q (blk_lt (g := gb445) (o := .cells #[.int .i64 a0_0, .int .i64 a0_1, .int .i64 a0_2] 77 (0, 0)) (bup BK445.out)) : gb445 ≠ gb446)); have NB446_445 := Ae_q ((by rw [hg]; exact nG_q (blk_lt (g := gb445) (o := .cells #[.int .i64 a0_0, .int .i64 a0_1, .int .i64 a0_2] 77 (0, 0)) (bup BK445.out)) : gb446 ≠ gb445)); replace BK445 := Ae_q (bB_q (g := gb445) (o := .cells #[.int .i64 a0_0, .int .i64 a0_1, .int .i64 a0_2] 77 (0, 0)) (bup BK445.out) hb))); clear hb hbox hg) | ((with_reducible refine gD_q (N := 3) rfl ?_); refine bE_q ?hg (N := 3) ?hd (cs := #[.int .i64 0, .int .i64 0, .int .i64 0]) (t := 49) ?hr ?_; (case hd => rfl); (case hg => rfl); (case hr => exact m8_q); intro gb447 hg w4 hbox hb; have BK447 := Ae_q (hbox); have GW447 := Ae_q ((by rw [hg]; exact (bZ_q m25_q) : w.heap.size ≤ gb447)); have GE447 := Ae_q ((by rw [hg]; exact (bZ_q m25_q) : w.heap.size ≤ gb447)); replace HB := Ae_q (bT_q m25_q hb); have NB445_447 := Ae_q ((by rw [hg]; exact nL_q (blk_lt (g := gb445) (o := .cells #[.int .i64 a0_0, .int .i64 a0_1, .int .i64 a0_2] 77 (0, 0)) (bup BK445.out)) : gb445 ≠ gb447)); have NB447_445 := Ae_q ((by rw [hg]; exact nG_q (blk_lt (g := gb445) (o := .cells #[.int .i64 a0_0, .int .i64 a0_1, .int .i64 a0_2] 77 (0, 0)) (bup BK445.out)) : gb447 ≠ gb445)); replace BK445 := Ae_q (bB_q (g := gb445) (o := .cells #[.int .i64 a0_0, .int .i64 a0_1, .int .i64 a0_2] 77 (0, 0)) (bup BK445.out) hb); have NB446_447 := Ae_q ((by rw [hg]; exact nL_q (blk_lt (g := gb446) (o := .cells #[.int .i64 0, .int .i64 0, .int .i64 0] 49 (0, 0)) (bup BK446.out)) : gb446 ≠ gb447)); have NB447_446 := Ae_q ((by rw [hg]; exact nG_q (blk_lt (g := gb446) (o := .cells #[.int .i64 0, .int .i64 0, .int .i64 0] 49 (0, 0)) (bup BK446.out)) : gb447 ≠ gb446)); replace BK446 := Ae_q (bB_q (g := gb446) (o := .cells #[.int .i64 0, .int .i64 0, .int .i64 0] 49 (0, 0)) (bup BK446.out) hb); clear hb hbox hg; have hnb5 := NB445_446.out; have hnc5 := NB446_445.out; have hnb6 := NB445_447.out; have hnc6 := NB447_445.out; have hcz7_0 : cI w4 gb445 0 a0_0 := cZ BK445 0 rfl; have hcz7_1 : cI w4 gb445 1 a0_1 := cZ BK445 1 rfl; have hcz7_2 : cI w4 gb445 2 a0_2 := cZ BK445 2 rfl; have hfz7_0 := bF_q BK445.out 0; have hfz7_1 := bF_q BK445.out 1; have hfz7_2 := bF_q BK445.out 2; have hnb8 := NB447_446.out; have hnc8 := NB446_447.out; have hcz9_0 : cI w4 gb447 0 0 := cZ BK447 0 rfl; have hcz9_1 : cI w4 gb447 1 0 := cZ BK447 1 rfl; have hcz9_2 : cI w4 gb447 2 0 := cZ BK447 2 rfl; have hfz9_0 := bF_q BK447.out 0; have hfz9_1 := bF_q BK447.out 1; have hfz9_2 := bF_q BK447.out 2; have hcz10_0 : cI w4 gb446 0 0 := cZ BK446 0 rfl; have hcz10_1 : cI w4 gb446 1 0 := cZ BK446 1 rfl; have hcz10_2 : cI w4 gb446 2 0 := cZ BK446 2 rfl; have hfz10_0 := bF_q BK446.out 0; have hfz10_1 := bF_q BK446.out 1; have hfz10_2 := bF_q BK446.out 2))
 refine bodyPost_ret (results_cell_row rfl _ _ gb446 49 #[.int .i64 a0_0, .int .i64 a0_1, .int .i64 a0_2] (0, 0) _ rfl (by (with_reducible repeat (first | refine bN_q ?_ _ | refine bW_q ?_ | refine bL_q ?_ _)); refine blk_put (cs := #[.int .i64 a0_0, .int .i64 a0_1, .int .i64 0]) ?_ 2 _ rfl; (with_reducible repeat (first | refine bN_q ?_ _ | refine bW_q ?_ | refine bL_q ?_ _)); refine blk_put (cs := #[.int .i64 a0_0, .int .i64 0, .int .i64 0]) ?_ 1 _ rfl; (with_reducible repeat (first | refine bN_q ?_ _ | refine bW_q ?_ | refine bL_q ?_ _)); refine blk_put (cs := #[.int .i64 0, .int .i64 0, .int .i64 0]) ?_ 0 _ rfl; (with_reducible repeat (first | refine bN_q ?_ _ | refine bW_q ?_ | refine bL_q ?_ _)); refine blk_far ?_ NB446_447.out _; (with_reducible repeat (first | refine bN_q ?_ _ | refine bW_q ?_ | refine bL_q ?_ _)); refine blk_far ?_ NB446_447.out _; (with_reducible repeat (first | refine bN_q ?_ _ | refine bW_q ?_ | refine bL_q ?_ _)); refine blk_far ?_ NB446_447.out _; (with_reducible repeat (first | refine bN_q ?_ _ | refine bW_q ?_ | refine bL_q ?_ _)); exact BK446.out) Try.underlying49 rfl m6_q) rfl ?_
 exact ⟨m2_q, by repeat (with_reducible first | exact HB.out | apply bA_q | apply pB_q | apply bD_q | refine bS_q ?_ GE445.out | refine bS_q ?_ GE446.out | refine bS_q ?_ GE447.out)⟩

def laws_toPlateS.l0 : Nat → List (S77) → List (S49) → Int → Option ((List (S49)))
 | 0, _, _, _ => none
 | k + 1, x0, x3, x4 => if x4 < (x0.length : Int) then (if 0 ≤ x4 then ((laws_toPlate.f ((rd_T77 x0 x4).f0) ((rd_T77 x0 x4).f1) ((rd_T77 x0 x4).f2)).bind fun bt452 => (if x4 < (x3.length : Int) then (laws_toPlateS.l0 k x0 (x3.set (x4 : Int).toNat (⟨bt452.1, bt452.2.1, bt452.2.2⟩ : S49)) (wrap64 (x4 + 1))) else (none))) else (none)) else (some x3)
def laws_toPlateS.f (k : Nat) (l0 : List (S77)) : Option ((List (S49))) := if 0 ≤ (l0.length : Int) then (if ((l0.length : Int) : Int).toNat ≤ 11728124029610 then (laws_toPlateS.l0 k l0 (List.replicate ((l0.length : Int) : Int).toNat z49) 0) else (none)) else (none)
set_option maxHeartbeats 8000000 in
set_option maxRecDepth 100000 in
theorem laws_toPlateS.calls (k : Nat) (A0 : Option Addr) (c0 : Nat) (l0 : List (S77)) (r : List (S49)) (w : World) (hr0 : Kd.C k77 w A0 l0.length l0) (hc0 : l0.length ≤ c0) (h : laws_toPlateS.f k l0 = some r) :
    Calls Try.prog 36 #[.slice A0 l0.length c0] w fun e w' => ∃ v0_ : Value, e = .returned (v0_) ∧ Kd.R k49 49 w' w.heap.size (fun _ => True) v0_ r ∧ Below w.heap.size w w' := by
 have hu77 := Try.underlying77
 have hu49 := Try.underlying49
 have HR0 := Ae_q hr0
 have HC0 := Ae_q hc0
 clear hr0 hc0
 have HB := Ae_q (bR_q w.heap.size w)
 have H : (if 0 ≤ (l0.length : Int) then (if ((l0.length : Int) : Int).toNat ≤ 11728124029610 then (laws_toPlateS.l0 k l0 (List.replicate ((l0.length : Int) : Int).toNat z49) 0) else (none)) else (none)) = some r := h
 clear h
 by_cases c2 : 0 ≤ (l0.length : Int)
 rotate_left
 ·rw [if_neg c2] at H
  exact absurd H (by simp)
 rw [if_pos c2] at H
 have c2b0 := eq_true c2
 have c2b1 : decide (0 ≤ (l0.length : Int)) = true := dT_q c2
 clear c2
 by_cases c3 : ((l0.length : Int) : Int).toNat ≤ 11728124029610
 rotate_left
 ·rw [if_neg c3] at H
  exact absurd H (by simp)
 rw [if_pos c3] at H
 have c3b0 := eq_true c3
 have c3b1 : decide (((l0.length : Int) : Int).toNat ≤ 11728124029610) = true := dT_q c3
 clear c3
 obtain ⟨y448, hy448⟩ : ∃ y_ : List (S49), y_ = (List.replicate ((l0.length : Int) : Int).toNat z49) := ⟨_, rfl⟩
 replace H : (laws_toPlateS.l0 k l0 y448 0) = some r := by first | (rw [hy448]; with_reducible exact H) | (have H2_ := (oS_q _ _).symm.trans H; rw [hy448]; with_reducible exact H2_) | (have H2_ := (oS_q _ _).symm.trans H; with_reducible exact H2_) | with_reducible exact H | (rw [hy448]; exact H) | exact H
 have Ny448 := Ae_q hy448
 clear hy448
 have H' := Ae_q H
 clear H
 go_enter Try.func36, Try.ntmps36
 go_wp2_with (first | ((with_reducible refine gD_q (N := 7) rfl ?_); refine Kd.R_make k49 _ 49 rfl (N := 7) rfl 44 _ _ rfl (l0.length : Int) rfl rfl Try.underlying44 (.agg #[(.int .i64 0), (.int .i64 0), (.int .i64 0)]) 24 info49 rfl (by decide) (by omega) z49 (ok := fun _ => True) (okp := fun _ => True) (k49_mkM _ _ _ z49 ) (fun _ hk => hk) trivial (oD_q (by assumption)) (nT_q (Nat.mul_le_mul_right _ (oD_q (by assumption) : (l0.length : Int).toNat ≤ 11728124029610)) (by omega)) (bR_q _ _) (nR_q _) ?_; intro v449 w4 ho5 hb hg_ hnew_; clear hg_ hnew_; (first | rw [← Ny448.out] at ho5 | (simp only [Int.reduceToNat] at ho5; rw [← Ny448.out] at ho5)); have HO450 := Ae_q (rL_q ho5 (bZ_q (bel HB.out))); replace HB := Ae_q (bT_q (bel HB.out) hb); clear hb ho5))
 go_loopg [4] k (fun kq v4 w' => ∃ (x3_1 : List (S49)) (x4_1 : Int), v4 = .int .i64 x4_1 ∧ Aside0 (laws_toPlateS.l0 kq l0 x3_1 x4_1 = some r) ∧ Aside0 (kq ≤ k) ∧ Aside0 (Kd.R k49 49 w' w.heap.size (fun _ => True) v449 x3_1) ∧ Aside0 (Below w.heap.size w w'))
 case atStart => exact ⟨(y448), (0), m4_q, H', ⟨nR_q _⟩, ⟨rup HO450.out⟩, ⟨bel HB.out⟩⟩
 case round =>
  clear H'
  try clear c2
  try clear c2b0
  try clear c2b1
  try clear p2
  try clear c3
  try clear c3b0
  try clear c3b1
  obtain ⟨x3_1, x4_1, rfl, HA, HK1, HO_3, HB⟩ := hrel
  cases gk with
  | zero => exact absurd HA.out (by simp [laws_toPlateS.l0])
  | succ k1 =>
   have H := HA.out
   clear HA
   simp only [laws_toPlateS.l0] at H
   by_cases c6 : x4_1 < (l0.length : Int)
   rotate_left
   ·rw [if_neg c6] at H
    have c6b0 : decide (x4_1 < (l0.length : Int)) = false := dF_q c6
    clear c6
    obtain rfl := oI_q H
    go_wp2
    go_ret
    exact ⟨_, m2_q, rup HO_3.out, bel HB.out⟩
   rw [if_pos c6] at H
   have c6b0 : decide (x4_1 < (l0.length : Int)) = true := dT_q c6
   clear c6
   by_cases c7 : 0 ≤ x4_1
   rotate_left
   ·rw [if_neg c7] at H
    exact absurd H (by simp)
   rw [if_pos c7] at H
   have c7b0 : decide (0 ≤ x4_1) = true := dT_q c7
   clear c7
   replace H := oB_q.mp H
   obtain ⟨⟨t452, t453, t454⟩, A80, H⟩ := H
   replace H : (if x4_1 < (x3_1.length : Int) then (laws_toPlateS.l0 k1 l0 (x3_1.set (x4_1 : Int).toNat (⟨t452, t453, t454⟩ : S49)) (wrap64 (x4_1 + 1))) else (none)) = some r := H
   have A8 := Ae_q A80
   clear A80
   by_cases c9 : x4_1 < (x3_1.length : Int)
   rotate_left
   ·rw [if_neg c9] at H
    exact absurd H (by simp)
   rw [if_pos c9] at H
   have c9b0 : decide (x4_1 < (x3_1.length : Int)) = true := dT_q c9
   clear c9
   obtain ⟨y455, hy455⟩ : ∃ y_ : List (S49), y_ = (x3_1.set (x4_1 : Int).toNat (⟨t452, t453, t454⟩ : S49)) := ⟨_, rfl⟩
   replace H : (laws_toPlateS.l0 k1 l0 y455 (wrap64 (x4_1 + 1))) = some r := by first | (rw [hy455]; with_reducible exact H) | (have H2_ := (oS_q _ _).symm.trans H; rw [hy455]; with_reducible exact H2_) | (have H2_ := (oS_q _ _).symm.trans H; with_reducible exact H2_) | with_reducible exact H | (rw [hy455]; exact H) | exact H
   have Ny455 := Ae_q hy455
   clear hy455
   have H' := Ae_q H
   clear H
   have p451 : 0 ≤ (x4_1 : Int) := oD_q (by assumption)
   have q451 : x4_1 < (l0.length : Int) := oD_q (by assumption)
   obtain ⟨ad451, e451, hx451_0, hx451_1, hx451_2⟩ := at_T77 HR0.out x4_1 p451 q451
   cases e451
   replace hx451_0 := cel HB.out hx451_0
   replace hx451_1 := cel HB.out hx451_1
   replace hx451_2 := cel HB.out hx451_2
   replace p451 := eq_true p451
   replace q451 := eq_true q451
   go_wp2_with (first | ((with_reducible refine gC_q (f := 61) rfl ?_); refine gL_q (some 20) rfl rfl Try.func61 m6_q rfl #[.agg #[.int .i64 ((rd_T77 l0 x4_1).f0), .int .i64 ((rd_T77 l0 x4_1).f1), .int .i64 ((rd_T77 l0 x4_1).f2)]] rfl m0_q ?_; (with_reducible refine (laws_toPlate.calls ((rd_T77 l0 x4_1).f0) ((rd_T77 l0 x4_1).f1) ((rd_T77 l0 x4_1).f2) t452 t453 t454 _ A8.out).mono ?_); rintro e w11 ⟨rfl, hb⟩; refine ⟨_, rfl, ?_⟩; replace HO_3 := Ae_q (rO_q (rup HO_3.out) hb); replace HB := Ae_q (bT_q (bel HB.out) hb); (try clear hb); (try clear hb2); (try clear hk); (try clear hi); have p10 : 0 ≤ (x4_1 : Int) := oD_q (by assumption); have q10 : (x4_1 : Int) < ((x3_1.length : Int) : Int) := oD_q (by assumption); obtain ⟨go10, co10, eo10, gb10, gl10, cl10, HG10⟩ := Kd.R_form HO_3.out (by omega); (first | cases eo10 | (injection eo10 with ea_ en_ ec_; (first | subst ea_ | (injection ea_ with ea_; subst ea_)); subst ec_; clear en_)); have GB10 := Ae_q gb10; have GG10 := Ae_q HG10; clear gb10 gl10 HG10; obtain ⟨ce10, hcl10, hM10, hcc10, hfr10⟩ := Kd.R_elem HO_3.out z49 (x4_1 : Int) p10 q10; obtain rfl := k49_openM hM10; have hx10_0 : w11.cell? ⟨go10, (x4_1 : Int).toNat * 3, none⟩ = some (.int .i64 ((rd_T49 x3_1 x4_1).f0)) := hcc10 0 _ rfl; have hx10_1 : w11.cell? ⟨go10, (x4_1 : Int).toNat * 3 + 1, none⟩ = some (.int .i64 ((rd_T49 x3_1 x4_1).f1)) := hcc10 1 _ rfl; have hx10_2 : w11.cell? ⟨go10, (x4_1 : Int).toNat * 3 + 2, none⟩ = some (.int .i64 ((rd_T49 x3_1 x4_1).f2)) := hcc10 2 _ rfl; have hf10_0 : w11.frozen? ⟨go10, (x4_1 : Int).toNat * 3, none⟩ = false := hfr10 0; have hf10_1 : w11.frozen? ⟨go10, (x4_1 : Int).toNat * 3 + 1, none⟩ = false := hfr10 1; have hf10_2 : w11.frozen? ⟨go10, (x4_1 : Int).toNat * 3 + 2, none⟩ = false := hfr10 2; clear hcl10 hcc10 hfr10 hM10; replace p10 := eq_true p10; replace q10 := eq_true q10; have HX12 := Ae_q (show Kd.R k49 49 w11 w.heap.size (fun _ => True) (.slice (some ⟨go10, 0, none⟩) x3_1.length co10) x3_1 from (rup HO_3.out)); obtain ⟨ce12, hcl12, hM12, hcc12, hfr12⟩ := Kd.R_elem HX12.out z49 (x4_1 : Int) (oD_q (by assumption)) (by have h_ : (x4_1 : Int) < ((x3_1.length : Int) : Int) := oD_q (by assumption); first | exact h_ | (have e_ := (rR_q HO_3.out).1; omega) | simpa using h_); obtain rfl := k49_openM hM12; have HP12 := Kd.R_seg HX12.out (x4_1 : Int) (oD_q (by assumption)) (by have h_ : (x4_1 : Int) < ((x3_1.length : Int) : Int) := oD_q (by assumption); first | exact h_ | (have e_ := (rR_q HO_3.out).1; omega) | simpa using h_) (seg := [.int .i64 t452, .int .i64 t453, .int .i64 t454]) (j := 0) hcl12 hcc12 (show 3 ≤ 3 from by decide) (x' := (⟨t452, t453, t454⟩ : S49)) (k49_mkM _ _ _ (⟨t452, t453, t454⟩ : S49) ) (fun _ hk => hk); have hx12_0 := hcc12 0 _ rfl; (try simp only [show (k49).sz = 3 from rfl, Nat.mul_one, Nat.add_zero] at hx12_0); have hf12_0 := hfr12 0; (try simp only [show (k49).sz = 3 from rfl, Nat.mul_one, Nat.add_zero] at hf12_0); have hx12_1 := hcc12 1 _ rfl; (try simp only [show (k49).sz = 3 from rfl, Nat.mul_one, Nat.add_zero] at hx12_1); have hf12_1 := hfr12 1; (try simp only [show (k49).sz = 3 from rfl, Nat.mul_one, Nat.add_zero] at hf12_1); have hx12_2 := hcc12 2 _ rfl; (try simp only [show (k49).sz = 3 from rfl, Nat.mul_one, Nat.add_zero] at hx12_2); have hf12_2 := hfr12 2; (try simp only [show (k49).sz = 3 from rfl, Nat.mul_one, Nat.add_zero] at hf12_2); clear hcl12 hcc12 hfr12 hM12) | ((with_reducible refine gate_store (t := 49) (p := 21) rfl ?_); refine store_event (t := 49) (p := 21) (v := ?vo_w13) (w1 := (((w11.setCell ⟨go10, (x4_1 : Int).toNat * 3, none⟩ (.int .i64 t452)).setCell ⟨go10, (x4_1 : Int).toNat * 3 + 1, none⟩ (.int .i64 t453)).setCell ⟨go10, (x4_1 : Int).toNat * 3 + 2, none⟩ (.int .i64 t454))) ?hg ?ho ?hn ?hr ?_; (case ho => rfl); (case hg => rfl); (case hn => rfl); (case hr => exact m8_q); intro w13 hw; have hg : w11.grownBy w13 (some go10) := (by rw [hw]; exact HP12.2); have hp_ : Kd.R k49 49 w13 w.heap.size (fun _ => True) (.slice (some ⟨go10, 0, none⟩) x3_1.length co10) y455 := (by rw [hw, Ny455.out]; exact HP12.1); clear HP12; replace HO_3 := Ae_q (hp_); replace HB := Ae_q ((by rw [hw]; exact bS_q (bS_q (bS_q (HB.out) GB10.out) GB10.out) GB10.out : Below w.heap.size w w13)); clear hg hw hp_))
   go_roundg k1
   case measure => have := HK1.out; omega
   case rel => exact ⟨(y455), (wrap64 (x4_1 + 1)), m4_q, H', ⟨m26_q⟩, ⟨rup HO_3.out⟩, ⟨bel HB.out⟩⟩

def laws_eqPlate.f (a0_0 : Int) (a0_1 : Int) (a0_2 : Int) (a1_0 : Int) (a1_1 : Int) (a1_2 : Int) : Option (Bool) := if a0_0 = a1_0 then (if a0_1 = a1_1 then (if a0_2 = a1_2 then (some true) else (some false)) else (some false)) else (some false)
set_option maxHeartbeats 8000000 in
set_option maxRecDepth 100000 in
theorem laws_eqPlate.calls (a0_0 : Int) (a0_1 : Int) (a0_2 : Int) (a1_0 : Int) (a1_1 : Int) (a1_2 : Int) (r : Bool) (w : World) (h : laws_eqPlate.f a0_0 a0_1 a0_2 a1_0 a1_1 a1_2 = some r) :
    Calls Try.prog 62 #[.agg #[.int .i64 a0_0, .int .i64 a0_1, .int .i64 a0_2], .agg #[.int .i64 a1_0, .int .i64 a1_1, .int .i64 a1_2]] w fun e w' => e = .returned (.bool r) ∧ Below w.heap.size w w' := by
 have hu49 := Try.underlying49
 have HB := Ae_q (bR_q w.heap.size w)
 have H : (if a0_0 = a1_0 then (if a0_1 = a1_1 then (if a0_2 = a1_2 then (some true) else (some false)) else (some false)) else (some false)) = some r := h
 clear h
 by_cases c3 : a0_0 = a1_0
 rotate_left
 ·rw [if_neg c3] at H
  have c3b0 : (a0_0 == a1_0) = false := fN_q.mpr c3
  have c3b1 : (a0_0 != a1_0) = true := nI_q.mpr c3
  obtain rfl := oI_q H
  go_enter Try.func62, Try.ntmps62
  go_wp2_with (first | ((with_reducible refine gD_q (N := 2) rfl ?_); refine bE_q ?hg (N := 2) ?hd (cs := #[.int .i64 a0_0, .int .i64 a0_1, .int .i64 a0_2]) (t := 49) ?hr ?_; (case hd => rfl); (case hg => rfl); (case hr => exact m8_q); intro gb456 hg w' hbox hb; have BK456 := Ae_q (hbox); have GW456 := Ae_q ((by rw [hg]; exact (bZ_q (bel HB.out)) : w.heap.size ≤ gb456)); have GE456 := Ae_q ((by rw [hg]; exact (bZ_q (bel HB.out)) : w.heap.size ≤ gb456)); replace HB := Ae_q (bT_q (bel HB.out) hb); clear hb hbox hg) | ((with_reducible refine gD_q (N := 3) rfl ?_); refine bE_q ?hg (N := 3) ?hd (cs := #[.int .i64 a1_0, .int .i64 a1_1, .int .i64 a1_2]) (t := 49) ?hr ?_; (case hd => rfl); (case hg => rfl); (case hr => exact m8_q); intro gb457 hg w22 hbox hb; have BK457 := Ae_q (hbox); have GW457 := Ae_q ((by rw [hg]; exact (bZ_q m11_q) : w.heap.size ≤ gb457)); have GE457 := Ae_q ((by rw [hg]; exact (bZ_q m11_q) : w.heap.size ≤ gb457)); replace HB := Ae_q (bT_q m11_q hb); have NB456_457 := Ae_q ((by rw [hg]; exact nL_q (blk_lt (g := gb456) (o := .cells #[.int .i64 a0_0, .int .i64 a0_1, .int .i64 a0_2] 49 (0, 0)) (bup BK456.out)) : gb456 ≠ gb457)); have NB457_456 := Ae_q ((by rw [hg]; exact nG_q (blk_lt (g := gb456) (o := .cells #[.int .i64 a0_0, .int .i64 a0_1, .int .i64 a0_2] 49 (0, 0)) (bup BK456.out)) : gb457 ≠ gb456)); replace BK456 := Ae_q (bB_q (g := gb456) (o := .cells #[.int .i64 a0_0, .int .i64 a0_1, .int .i64 a0_2] 49 (0, 0)) (bup BK456.out) hb); clear hb hbox hg; have hnb23 := NB456_457.out; have hnc23 := NB457_456.out; have hcz24_0 : cI w22 gb456 0 a0_0 := cZ BK456 0 rfl; have hcz24_1 : cI w22 gb456 1 a0_1 := cZ BK456 1 rfl; have hcz24_2 : cI w22 gb456 2 a0_2 := cZ BK456 2 rfl; have hfz24_0 := bF_q BK456.out 0; have hfz24_1 := bF_q BK456.out 1; have hfz24_2 := bF_q BK456.out 2; have hcz25_0 : cI w22 gb457 0 a1_0 := cZ BK457 0 rfl; have hcz25_1 : cI w22 gb457 1 a1_1 := cZ BK457 1 rfl; have hcz25_2 : cI w22 gb457 2 a1_2 := cZ BK457 2 rfl; have hfz25_0 := bF_q BK457.out 0; have hfz25_1 := bF_q BK457.out 1; have hfz25_2 := bF_q BK457.out 2))
  go_ret
  exact ⟨m2_q, m21_q⟩
 rw [if_pos c3] at H
 have c3b0 : (a0_0 == a1_0) = true := beq_iff_eq.mpr c3
 have c3b1 : (a0_0 != a1_0) = false := nE_q.mpr c3
 clear c3
 by_cases c4 : a0_1 = a1_1
 rotate_left
 ·rw [if_neg c4] at H
  have c4b0 : (a0_1 == a1_1) = false := fN_q.mpr c4
  have c4b1 : (a0_1 != a1_1) = true := nI_q.mpr c4
  obtain rfl := oI_q H
  go_enter Try.func62, Try.ntmps62
  go_wp2_with (first | ((with_reducible refine gD_q (N := 2) rfl ?_); refine bE_q ?hg (N := 2) ?hd (cs := #[.int .i64 a0_0, .int .i64 a0_1, .int .i64 a0_2]) (t := 49) ?hr ?_; (case hd => rfl); (case hg => rfl); (case hr => exact m8_q); intro gb456 hg w' hbox hb; have BK456 := Ae_q (hbox); have GW456 := Ae_q ((by rw [hg]; exact (bZ_q (bel HB.out)) : w.heap.size ≤ gb456)); have GE456 := Ae_q ((by rw [hg]; exact (bZ_q (bel HB.out)) : w.heap.size ≤ gb456)); replace HB := Ae_q (bT_q (bel HB.out) hb); clear hb hbox hg) | ((with_reducible refine gD_q (N := 3) rfl ?_); refine bE_q ?hg (N := 3) ?hd (cs := #[.int .i64 a1_0, .int .i64 a1_1, .int .i64 a1_2]) (t := 49) ?hr ?_; (case hd => rfl); (case hg => rfl); (case hr => exact m8_q); intro gb457 hg w17 hbox hb; have BK457 := Ae_q (hbox); have GW457 := Ae_q ((by rw [hg]; exact (bZ_q m11_q) : w.heap.size ≤ gb457)); have GE457 := Ae_q ((by rw [hg]; exact (bZ_q m11_q) : w.heap.size ≤ gb457)); replace HB := Ae_q (bT_q m11_q hb); have NB456_457 := Ae_q ((by rw [hg]; exact nL_q (blk_lt (g := gb456) (o := .cells #[.int .i64 a0_0, .int .i64 a0_1, .int .i64 a0_2] 49 (0, 0)) (bup BK456.out)) : gb456 ≠ gb457)); have NB457_456 := Ae_q ((by rw [hg]; exact nG_q (blk_lt (g := gb456) (o := .cells #[.int .i64 a0_0, .int .i64 a0_1, .int .i64 a0_2] 49 (0, 0)) (bup BK456.out)) : gb457 ≠ gb456)); replace BK456 := Ae_q (bB_q (g := gb456) (o := .cells #[.int .i64 a0_0, .int .i64 a0_1, .int .i64 a0_2] 49 (0, 0)) (bup BK456.out) hb); clear hb hbox hg; have hnb18 := NB456_457.out; have hnc18 := NB457_456.out; have hcz19_0 : cI w17 gb456 0 a0_0 := cZ BK456 0 rfl; have hcz19_1 : cI w17 gb456 1 a0_1 := cZ BK456 1 rfl; have hcz19_2 : cI w17 gb456 2 a0_2 := cZ BK456 2 rfl; have hfz19_0 := bF_q BK456.out 0; have hfz19_1 := bF_q BK456.out 1; have hfz19_2 := bF_q BK456.out 2; have hcz20_0 : cI w17 gb457 0 a1_0 := cZ BK457 0 rfl; have hcz20_1 : cI w17 gb457 1 a1_1 := cZ BK457 1 rfl; have hcz20_2 : cI w17 gb457 2 a1_2 := cZ BK457 2 rfl; have hfz20_0 := bF_q BK457.out 0; have hfz20_1 := bF_q BK457.out 1; have hfz20_2 := bF_q BK457.out 2))
  go_ret
  exact ⟨m2_q, m21_q⟩
 rw [if_pos c4] at H
 have c4b0 : (a0_1 == a1_1) = true := beq_iff_eq.mpr c4
 have c4b1 : (a0_1 != a1_1) = false := nE_q.mpr c4
 clear c4
 by_cases c5 : a0_2 = a1_2
 ·rw [if_pos c5] at H
  have c5b0 : (a0_2 == a1_2) = true := beq_iff_eq.mpr c5
  have c5b1 : (a0_2 != a1_2) = false := nE_q.mpr c5
  clear c5
  obtain rfl := oI_q H
  go_enter Try.func62, Try.ntmps62
  go_wp2_with (first | ((with_reducible refine gD_q (N := 2) rfl ?_); refine bE_q ?hg (N := 2) ?hd (cs := #[.int .i64 a0_0, .int .i64 a0_1, .int .i64 a0_2]) (t := 49) ?hr ?_; (case hd => rfl); (case hg => rfl); (case hr => exact m8_q); intro gb456 hg w' hbox hb; have BK456 := Ae_q (hbox); have GW456 := Ae_q ((by rw [hg]; exact (bZ_q (bel HB.out)) : w.heap.size ≤ gb456)); have GE456 := Ae_q ((by rw [hg]; exact (bZ_q (bel HB.out)) : w.heap.size ≤ gb456)); replace HB := Ae_q (bT_q (bel HB.out) hb); clear hb hbox hg) | ((with_reducible refine gD_q (N := 3) rfl ?_); refine bE_q ?hg (N := 3) ?hd (cs := #[.int .i64 a1_0, .int .i64 a1_1, .int .i64 a1_2]) (t := 49) ?hr ?_; (case hd => rfl); (case hg => rfl); (case hr => exact m8_q); intro gb457 hg w7 hbox hb; have BK457 := Ae_q (hbox); have GW457 := Ae_q ((by rw [hg]; exact (bZ_q m11_q) : w.heap.size ≤ gb457)); have GE457 := Ae_q ((by rw [hg]; exact (bZ_q m11_q) : w.heap.size ≤ gb457)); replace HB := Ae_q (bT_q m11_q hb); have NB456_457 := Ae_q ((by rw [hg]; exact nL_q (blk_lt (g := gb456) (o := .cells #[.int .i64 a0_0, .int .i64 a0_1, .int .i64 a0_2] 49 (0, 0)) (bup BK456.out)) : gb456 ≠ gb457)); have NB457_456 := Ae_q ((by rw [hg]; exact nG_q (blk_lt (g := gb456) (o := .cells #[.int .i64 a0_0, .int .i64 a0_1, .int .i64 a0_2] 49 (0, 0)) (bup BK456.out)) : gb457 ≠ gb456)); replace BK456 := Ae_q (bB_q (g := gb456) (o := .cells #[.int .i64 a0_0, .int .i64 a0_1, .int .i64 a0_2] 49 (0, 0)) (bup BK456.out) hb); clear hb hbox hg; have hnb8 := NB456_457.out; have hnc8 := NB457_456.out; have hcz9_0 : cI w7 gb456 0 a0_0 := cZ BK456 0 rfl; have hcz9_1 : cI w7 gb456 1 a0_1 := cZ BK456 1 rfl; have hcz9_2 : cI w7 gb456 2 a0_2 := cZ BK456 2 rfl; have hfz9_0 := bF_q BK456.out 0; have hfz9_1 := bF_q BK456.out 1; have hfz9_2 := bF_q BK456.out 2; have hcz10_0 : cI w7 gb457 0 a1_0 := cZ BK457 0 rfl; have hcz10_1 : cI w7 gb457 1 a1_1 := cZ BK457 1 rfl; have hcz10_2 : cI w7 gb457 2 a1_2 := cZ BK457 2 rfl; have hfz10_0 := bF_q BK457.out 0; have hfz10_1 := bF_q BK457.out 1; have hfz10_2 := bF_q BK457.out 2))
  go_ret
  exact ⟨m2_q, m21_q⟩
 rw [if_neg c5] at H
 have c5b0 : (a0_2 == a1_2) = false := fN_q.mpr c5
 have c5b1 : (a0_2 != a1_2) = true := nI_q.mpr c5
 obtain rfl := oI_q H
 go_enter Try.func62, Try.ntmps62
 go_wp2_with (first | ((with_reducible refine gD_q (N := 2) rfl ?_); refine bE_q ?hg (N := 2) ?hd (cs := #[.int .i64 a0_0, .int .i64 a0_1, .int .i64 a0_2]) (t := 49) ?hr ?_; (case hd => rfl); (case hg => rfl); (case hr => exact m8_q); intro gb456 hg w11 hbox hb; have BK456 := Ae_q (hbox); have GW456 := Ae_q ((by rw [hg]; exact (bZ_q (bel HB.out)) : w.heap.size ≤ gb456)); have GE456 := Ae_q ((by rw [hg]; exact (bZ_q (bel HB.out)) : w.heap.size ≤ gb456)); replace HB := Ae_q (bT_q (bel HB.out) hb); clear hb hbox hg) | ((with_reducible refine gD_q (N := 3) rfl ?_); refine bE_q ?hg (N := 3) ?hd (cs := #[.int .i64 a1_0, .int .i64 a1_1, .int .i64 a1_2]) (t := 49) ?hr ?_; (case hd => rfl); (case hg => rfl); (case hr => exact m8_q); intro gb457 hg w12 hbox hb; have BK457 := Ae_q (hbox); have GW457 := Ae_q ((by rw [hg]; exact (bZ_q m11_q) : w.heap.size ≤ gb457)); have GE457 := Ae_q ((by rw [hg]; exact (bZ_q m11_q) : w.heap.size ≤ gb457)); replace HB := Ae_q (bT_q m11_q hb); have NB456_457 := Ae_q ((by rw [hg]; exact nL_q (blk_lt (g := gb456) (o := .cells #[.int .i64 a0_0, .int .i64 a0_1, .int .i64 a0_2] 49 (0, 0)) (bup BK456.out)) : gb456 ≠ gb457)); have NB457_456 := Ae_q ((by rw [hg]; exact nG_q (blk_lt (g := gb456) (o := .cells #[.int .i64 a0_0, .int .i64 a0_1, .int .i64 a0_2] 49 (0, 0)) (bup BK456.out)) : gb457 ≠ gb456)); replace BK456 := Ae_q (bB_q (g := gb456) (o := .cells #[.int .i64 a0_0, .int .i64 a0_1, .int .i64 a0_2] 49 (0, 0)) (bup BK456.out) hb); clear hb hbox hg; have hnb13 := NB456_457.out; have hnc13 := NB457_456.out; have hcz14_0 : cI w12 gb456 0 a0_0 := cZ BK456 0 rfl; have hcz14_1 : cI w12 gb456 1 a0_1 := cZ BK456 1 rfl; have hcz14_2 : cI w12 gb456 2 a0_2 := cZ BK456 2 rfl; have hfz14_0 := bF_q BK456.out 0; have hfz14_1 := bF_q BK456.out 1; have hfz14_2 := bF_q BK456.out 2; have hcz15_0 : cI w12 gb457 0 a1_0 := cZ BK457 0 rfl; have hcz15_1 : cI w12 gb457 1 a1_1 := cZ BK457 1 rfl; have hcz15_2 : cI w12 gb457 2 a1_2 := cZ BK457 2 rfl; have hfz15_0 := bF_q BK457.out 0; have hfz15_1 := bF_q BK457.out 1; have hfz15_2 := bF_q BK457.out 2))
 go_ret
 exact ⟨m2_q, m21_q⟩

def laws_eqPlateS.l0 : Nat → List (S49) → List (S49) → Int → Option (Bool)
 | 0, _, _, _ => none
 | k + 1, x0, x1, x5 => if x5 < (x0.length : Int) then (if 0 ≤ x5 then (if x5 < (x1.length : Int) then ((laws_eqPlate.f ((rd_T49 x0 x5).f0) ((rd_T49 x0 x5).f1) ((rd_T49 x0 x5).f2) ((rd_T49 x1 x5).f0) ((rd_T49 x1 x5).f1) ((rd_T49 x1 x5).f2)).bind fun t460 => (if t460 = true then (laws_eqPlateS.l0 k x0 x1 (wrap64 (x5 + 1))) else (some false))) else (none)) else (none)) else (some true)
def laws_eqPlateS.f (k : Nat) (l0 : List (S49)) (l1 : List (S49)) : Option (Bool) := if (l0.length : Int) = (l1.length : Int) then (laws_eqPlateS.l0 k l0 l1 0) else (some false)
def laws_eqPlateS.T6 : Bool × List (List Nat × List Nat) := (true, [([], []), ([], []), ([0, 1], [0, 1]), ([2], [2]), ([], []), ([], []), ([4, 5], [4, 5]), ([6], [6]), ([3, 7], [3, 7]), ([8], [8])])
def laws_eqPlateS.B6 : List Nat := [0, 0, 3, 7, 0, 0, 48, 112, 255, 511]
theorem laws_eqPlateS.tab6 : rtab .any (opsOf Try.f37 6) = laws_eqPlateS.T6 := by kernel_rfl
theorem laws_eqPlateS.bits6 : waitsOk laws_eqPlateS.T6.2 laws_eqPlateS.B6 = true := by kernel_rfl
set_option maxHeartbeats 8000000 in
set_option maxRecDepth 100000 in
theorem laws_eqPlateS.calls (k : Nat) (A0 : Option Addr) (c0 : Nat) (l0 : List (S49)) (A1 : Option Addr) (c1 : Nat) (l1 : List (S49)) (r : Bool) (w : World) (hr0 : Kd.C k49 w A0 l0.length l0) (hc0 : l0.length ≤ c0) (hr1 : Kd.C k49 w A1 l1.length l1) (hc1 : l1.length ≤ c1) (h : laws_eqPlateS.f k l0 l1 = some r) :
    Calls Try.prog 37 #[.slice A0 l0.length c0, .slice A1 l1.length c1] w fun e w' => e = .returned (.bool r) ∧ Below w.heap.size w w' := by
 have hu49 := Try.underlying49
 have HR0 := Ae_q hr0
 have HC0 := Ae_q hc0
 clear hr0 hc0
 have HR1 := Ae_q hr1
 have HC1 := Ae_q hc1
 clear hr1 hc1
 have HB := Ae_q (bR_q w.heap.size w)
 have H : (if (l0.length : Int) = (l1.length : Int) then (laws_eqPlateS.l0 k l0 l1 0) else (some false)) = some r := h
 clear h
 by_cases c3 : (l0.length : Int) = (l1.length : Int)
 rotate_left
 ·rw [if_neg c3] at H
  have c3b0 : ((l0.length : Int) == (l1.length : Int)) = false := fN_q.mpr c3
  have c3b1 : ((l0.length : Int) != (l1.length : Int)) = true := nI_q.mpr c3
  have c3b2 : (l0.length == l1.length) = false := by first | simpa using c3 | (simp at c3 ⊢; omega)
  obtain rfl := oI_q H
  go_enter Try.func37, Try.ntmps37
  go_wp2
  go_ret
  exact ⟨m2_q, bel HB.out⟩
 rw [if_pos c3] at H
 have c3b0 : ((l0.length : Int) == (l1.length : Int)) = true := beq_iff_eq.mpr c3
 have c3b1 : ((l0.length : Int) != (l1.length : Int)) = false := nE_q.mpr c3
 have c3b2 : (l0.length == l1.length) = true := by first | simpa using c3 | (simp at c3 ⊢; omega)
 clear c3
 have H' := Ae_q H
 clear H
 go_enter Try.func37, Try.ntmps37
 go_wp2
 go_loopg [5] k (fun kq v5 w' => ∃ (x5_1 : Int), v5 = .int .i64 x5_1 ∧ Aside0 (laws_eqPlateS.l0 kq l0 l1 x5_1 = some r) ∧ Aside0 (kq ≤ k) ∧ Aside0 (Below w.heap.size w w'))
 case atStart => exact ⟨(0), m4_q, H', ⟨nR_q _⟩, ⟨bel HB.out⟩⟩
 case round =>
  clear H'
  try clear c1
  try clear p2
  try clear c3
  try clear c3b0
  try clear c3b1
  try clear c3b2
  obtain ⟨x5_1, rfl, HA, HK1, HB⟩ := hrel
  cases gk with
  | zero => exact absurd HA.out (by simp [laws_eqPlateS.l0])
  | succ k1 =>
   have H := HA.out
   clear HA
   simp only [laws_eqPlateS.l0] at H
   by_cases c4 : x5_1 < (l0.length : Int)
   rotate_left
   ·rw [if_neg c4] at H
    have c4b0 : decide (x5_1 < (l0.length : Int)) = false := dF_q c4
    clear c4
    obtain rfl := oI_q H
    go_wp2
    go_ret
    exact ⟨m2_q, bel HB.out⟩
   rw [if_pos c4] at H
   have c4b0 : decide (x5_1 < (l0.length : Int)) = true := dT_q c4
   clear c4
   by_cases c5 : 0 ≤ x5_1
   rotate_left
   ·rw [if_neg c5] at H
    exact absurd H (by simp)
   rw [if_pos c5] at H
   have c5b0 : decide (0 ≤ x5_1) = true := dT_q c5
   clear c5
   by_cases c6 : x5_1 < (l1.length : Int)
   rotate_left
   ·rw [if_neg c6] at H
    exact absurd H (by simp)
   rw [if_pos c6] at H
   have c6b0 : decide (x5_1 < (l1.length : Int)) = true := dT_q c6
   clear c6
   replace H := oB_q.mp H
   obtain ⟨t460, A70, H⟩ := H
   replace H : (if t460 = true then (laws_eqPlateS.l0 k1 l0 l1 (wrap64 (x5_1 + 1))) else (some false)) = some r := H
   have A7 := Ae_q A70
   clear A70
   by_cases c8 : t460 = true
   ·subst c8
    have H1 : (laws_eqPlateS.l0 k1 l0 l1 (wrap64 (x5_1 + 1))) = some r := by rw [if_pos rfl] at H; exact H
    clear H
    have H := H1
    clear H1
    have H' := Ae_q H
    clear H
    try go_wp2
    replace HB := Ae_q (bD_q HB.out)
    have p458 : 0 ≤ (x5_1 : Int) := oD_q (by assumption)
    have q458 : x5_1 < (l0.length : Int) := oD_q (by assumption)
    obtain ⟨ad458, e458, hx458_0, hx458_1, hx458_2⟩ := at_T49 HR0.out x5_1 p458 q458
    have hw458_2 := hx458_2
    have hw458_1 := hx458_1
    have hw458_0 := hx458_0
    cases e458
    replace hx458_0 := cel HB.out hx458_0
    replace hx458_1 := cel HB.out hx458_1
    replace hx458_2 := cel HB.out hx458_2
    replace p458 := eq_true p458
    replace q458 := eq_true q458
    have p459 : 0 ≤ (x5_1 : Int) := oD_q (by assumption)
    have q459 : x5_1 < (l1.length : Int) := oD_q (by assumption)
    obtain ⟨ad459, e459, hx459_0, hx459_1, hx459_2⟩ := at_T49 HR1.out x5_1 p459 q459
    have hw459_2 := hx459_2
    have hw459_1 := hx459_1
    have hw459_0 := hx459_0
    cases e459
    replace hx459_0 := cel HB.out hx459_0
    replace hx459_1 := cel HB.out hx459_1
    replace hx459_2 := cel HB.out hx459_2
    replace p459 := eq_true p459
    replace q459 := eq_true q459
    refine start_ (n := 10) (S := fun w' => w'.cell? (ad458.add ((x5_1).toNat * 3)) = some (.int .i64 ((rd_T49 l0 x5_1).f0)) ∧ w'.cell? ⟨(ad458.add ((x5_1).toNat * 3)).block, (ad458.add ((x5_1).toNat * 3)).off + 1, none⟩ = some (.int .i64 ((rd_T49 l0 x5_1).f1)) ∧ w'.cell? ⟨(ad458.add ((x5_1).toNat * 3)).block, (ad458.add ((x5_1).toNat * 3)).off + 2, none⟩ = some (.int .i64 ((rd_T49 l0 x5_1).f2)) ∧ w'.cell? (ad459.add ((x5_1).toNat * 3)) = some (.int .i64 ((rd_T49 l1 x5_1).f0)) ∧ w'.cell? ⟨(ad459.add ((x5_1).toNat * 3)).block, (ad459.add ((x5_1).toNat * 3)).off + 1, none⟩ = some (.int .i64 ((rd_T49 l1 x5_1).f1)) ∧ w'.cell? ⟨(ad459.add ((x5_1).toNat * 3)).block, (ad459.add ((x5_1).toNat * 3)).off + 2, none⟩ = some (.int .i64 ((rd_T49 l1 x5_1).f2))) (ds := []) #[false, false, false, false, false, false, false, false, false, false] m6_q rfl rfl ⟨(cel HB.out hw458_0), (cel HB.out hw458_1), (cel HB.out hw458_2), (cel HB.out hw459_0), (cel HB.out hw459_1), (cel HB.out hw459_2)⟩ (fun hHeld => ?_); refine with_tabW laws_eqPlateS.tab6 laws_eqPlateS.bits6 (fun HT_ HW_ => ?_)
    generalize wr.drew = w9 at HB hx458_0 hx458_1 hx458_2 hx459_0 hx459_1 hx459_2 hHeld ⊢
    refine pJ HT_ 0 17 rfl rfl ?_
    refine pJ HT_ 1 18 rfl rfl ?_
    refine pJ HT_ 2 19 rfl rfl ?_
    refine pJ HT_ 4 21 rfl rfl ?_
    refine pJ HT_ 5 22 rfl rfl ?_
    refine pJ HT_ 6 23 rfl rfl ?_
    refine take_ (i := 3) (N := some 20) (v := ?_) (a' := ?_) #[true, true, true, true, true, true, true, false, false, false] rfl rfl (take_ofW HT_.out HW_.out m6_q) (fun _ _ _ h => h) (Or.inl ⟨by rfl, ?_⟩) hHeld ?_ ?_
    rotate_left
    ·rintro w' ⟨s0, s1, s2, s3, s4, s5⟩
     go_simp
     with_reducible rfl
    rotate_left
    ·simp only [pS_q]
     rfl
    refine take_ (i := 7) (N := some 24) (v := ?_) (a' := ?_) #[true, true, true, true, true, true, true, true, false, false] rfl rfl (take_ofW HT_.out HW_.out m6_q) (fun _ _ _ h => h) (Or.inl ⟨by rfl, ?_⟩) hHeld ?_ ?_
    rotate_left
    ·rintro w' ⟨s0, s1, s2, s3, s4, s5⟩
     go_simp
     with_reducible rfl
    rotate_left
    ·simp only [pS_q]
     rfl
    refine one_ (i := 8) (N := some 25) #[true, true, true, true, true, true, true, true, true, false] rfl rfl (one_of HT_.out m6_q) (by decide) (fun K hK => ?_)
    refine goes_ Try.func62 m6_q rfl #[.agg #[.int .i64 ((rd_T49 l0 x5_1).f0), .int .i64 ((rd_T49 l0 x5_1).f1), .int .i64 ((rd_T49 l0 x5_1).f2)], .agg #[.int .i64 ((rd_T49 l1 x5_1).f0), .int .i64 ((rd_T49 l1 x5_1).f1), .int .i64 ((rd_T49 l1 x5_1).f2)]] (by rfl) rfl rfl m0_q ?_
    with_reducible refine (laws_eqPlate.calls ((rd_T49 l0 x5_1).f0) ((rd_T49 l0 x5_1).f1) ((rd_T49 l0 x5_1).f2) ((rd_T49 l1 x5_1).f0) ((rd_T49 l1 x5_1).f1) ((rd_T49 l1 x5_1).f2) true _ A7.out).mono ?_
    rintro e w' ⟨rfl, hb⟩
    refine ⟨_, rfl, ?_⟩
    replace HB := Ae_q (bT_q (bel HB.out) hb)
    (try clear hb)
    (try clear hb2)
    (try clear hk)
    (try clear hi)
    refine hK.out _ _ ⟨(cel (bel HB.out) hw458_0), (cel (bel HB.out) hw458_1), (cel (bel HB.out) hw458_2), (cel (bel HB.out) hw459_0), (cel (bel HB.out) hw459_1), (cel (bel HB.out) hw459_2)⟩ (fun hHeld => ?_)
    clear hK K
    refine nJ_q ?_
    refine pJ HT_ 9 26 rfl rfl ?_
    refine done_ (done_of HT_.out m6_q) ?_
    try go_wp2
    go_roundg k1
    case measure => have := HK1.out; omega
    case rel => exact ⟨(wrap64 (x5_1 + 1)), m4_q, H', ⟨m26_q⟩, ⟨bel HB.out⟩⟩
   replace c8 := fM_q.mpr c8
   subst c8
   have H1 : (some false) = some r := by rw [if_neg (show ¬ (false = true) by decide)] at H; exact H
   clear H
   have H := H1
   clear H1
   obtain rfl := oI_q H
   try go_wp2
   replace HB := Ae_q (bD_q HB.out)
   have p458 : 0 ≤ (x5_1 : Int) := oD_q (by assumption)
   have q458 : x5_1 < (l0.length : Int) := oD_q (by assumption)
   obtain ⟨ad458, e458, hx458_0, hx458_1, hx458_2⟩ := at_T49 HR0.out x5_1 p458 q458
   have hw458_2 := hx458_2
   have hw458_1 := hx458_1
   have hw458_0 := hx458_0
   cases e458
   replace hx458_0 := cel HB.out hx458_0
   replace hx458_1 := cel HB.out hx458_1
   replace hx458_2 := cel HB.out hx458_2
   replace p458 := eq_true p458
   replace q458 := eq_true q458
   have p459 : 0 ≤ (x5_1 : Int) := oD_q (by assumption)
   have q459 : x5_1 < (l1.length : Int) := oD_q (by assumption)
   obtain ⟨ad459, e459, hx459_0, hx459_1, hx459_2⟩ := at_T49 HR1.out x5_1 p459 q459
   have hw459_2 := hx459_2
   have hw459_1 := hx459_1
   have hw459_0 := hx459_0
   cases e459
   replace hx459_0 := cel HB.out hx459_0
   replace hx459_1 := cel HB.out hx459_1
   replace hx459_2 := cel HB.out hx459_2
   replace p459 := eq_true p459
   replace q459 := eq_true q459
   refine start_ (n := 10) (S := fun w' => w'.cell? (ad458.add ((x5_1).toNat * 3)) = some (.int .i64 ((rd_T49 l0 x5_1).f0)) ∧ w'.cell? ⟨(ad458.add ((x5_1).toNat * 3)).block, (ad458.add ((x5_1).toNat * 3)).off + 1, none⟩ = some (.int .i64 ((rd_T49 l0 x5_1).f1)) ∧ w'.cell? ⟨(ad458.add ((x5_1).toNat * 3)).block, (ad458.add ((x5_1).toNat * 3)).off + 2, none⟩ = some (.int .i64 ((rd_T49 l0 x5_1).f2)) ∧ w'.cell? (ad459.add ((x5_1).toNat * 3)) = some (.int .i64 ((rd_T49 l1 x5_1).f0)) ∧ w'.cell? ⟨(ad459.add ((x5_1).toNat * 3)).block, (ad459.add ((x5_1).toNat * 3)).off + 1, none⟩ = some (.int .i64 ((rd_T49 l1 x5_1).f1)) ∧ w'.cell? ⟨(ad459.add ((x5_1).toNat * 3)).block, (ad459.add ((x5_1).toNat * 3)).off + 2, none⟩ = some (.int .i64 ((rd_T49 l1 x5_1).f2))) (ds := []) #[false, false, false, false, false, false, false, false, false, false] m6_q rfl rfl ⟨(cel HB.out hw458_0), (cel HB.out hw458_1), (cel HB.out hw458_2), (cel HB.out hw459_0), (cel HB.out hw459_1), (cel HB.out hw459_2)⟩ (fun hHeld => ?_); refine with_tabW laws_eqPlateS.tab6 laws_eqPlateS.bits6 (fun HT_ HW_ => ?_)
   generalize wr.drew = w11 at HB hx458_0 hx458_1 hx458_2 hx459_0 hx459_1 hx459_2 hHeld ⊢
   refine pJ HT_ 0 17 rfl rfl ?_
   refine pJ HT_ 1 18 rfl rfl ?_
   refine pJ HT_ 2 19 rfl rfl ?_
   refine pJ HT_ 4 21 rfl rfl ?_
   refine pJ HT_ 5 22 rfl rfl ?_
   refine pJ HT_ 6 23 rfl rfl ?_
   refine take_ (i := 3) (N := some 20) (v := ?_) (a' := ?_) #[true, true, true, true, true, true, true, false, false, false] rfl rfl (take_ofW HT_.out HW_.out m6_q) (fun _ _ _ h => h) (Or.inl ⟨by rfl, ?_⟩) hHeld ?_ ?_
   rotate_left
   ·rintro w' ⟨s0, s1, s2, s3, s4, s5⟩
    go_simp
    with_reducible rfl
   rotate_left
   ·simp only [pS_q]
    rfl
   refine take_ (i := 7) (N := some 24) (v := ?_) (a' := ?_) #[true, true, true, true, true, true, true, true, false, false] rfl rfl (take_ofW HT_.out HW_.out m6_q) (fun _ _ _ h => h) (Or.inl ⟨by rfl, ?_⟩) hHeld ?_ ?_
   rotate_left
   ·rintro w' ⟨s0, s1, s2, s3, s4, s5⟩
    go_simp
    with_reducible rfl
   rotate_left
   ·simp only [pS_q]
    rfl
   refine one_ (i := 8) (N := some 25) #[true, true, true, true, true, true, true, true, true, false] rfl rfl (one_of HT_.out m6_q) (by decide) (fun K hK => ?_)
   refine goes_ Try.func62 m6_q rfl #[.agg #[.int .i64 ((rd_T49 l0 x5_1).f0), .int .i64 ((rd_T49 l0 x5_1).f1), .int .i64 ((rd_T49 l0 x5_1).f2)], .agg #[.int .i64 ((rd_T49 l1 x5_1).f0), .int .i64 ((rd_T49 l1 x5_1).f1), .int .i64 ((rd_T49 l1 x5_1).f2)]] (by rfl) rfl rfl m0_q ?_
   with_reducible refine (laws_eqPlate.calls ((rd_T49 l0 x5_1).f0) ((rd_T49 l0 x5_1).f1) ((rd_T49 l0 x5_1).f2) ((rd_T49 l1 x5_1).f0) ((rd_T49 l1 x5_1).f1) ((rd_T49 l1 x5_1).f2) false _ A7.out).mono ?_
   rintro e w12 ⟨rfl, hb⟩
   refine ⟨_, rfl, ?_⟩
   replace HB := Ae_q (bT_q (bel HB.out) hb)
   (try clear hb)
   (try clear hb2)
   (try clear hk)
   (try clear hi)
   refine hK.out _ _ ⟨(cel (bel HB.out) hw458_0), (cel (bel HB.out) hw458_1), (cel (bel HB.out) hw458_2), (cel (bel HB.out) hw459_0), (cel (bel HB.out) hw459_1), (cel (bel HB.out) hw459_2)⟩ (fun hHeld => ?_)
   clear hK K
   refine nJ_q ?_
   refine pJ HT_ 9 26 rfl rfl ?_
   refine done_ (done_of HT_.out m6_q) ?_
   try go_wp2
   go_ret
   exact ⟨m2_q, bel HB.out⟩

end Go.Proofs.Ytnckblolijkdaaa.PBt
