import Derived.Test.YtfnpiacmlahegaaVSPRpx0
import Derived.Test.YtfnpiacmlahegaaVSPRpx11
namespace Go.Proofs.Ytfnpiacmlahegaa.PRp
open Go.RowKit Go.Proofs.YtfnpiacmlahegaaW.PrintWords Go.Proofs.YtfnpiacmlahegaaW.PrintLast Go.Proofs.YtfnpiacmlahegaaW.PrintMore
attribute [local go_sem] max2_int min2_int max_two min_two max_three min_three max_four min_four
set_option linter.unusedVariables false
set_option linter.unusedSimpArgs false

mutual
def spec_l32Room.l0 : Nat → List (S63) → List Int → Int → Int → Int → List Int → Option (Bool)
 | 0, _, _, _, _, _, _ => none
 | k + 1, x0, x2, x7, x8, x283000, x283001 => if 0 ≤ x7 then (if x7 < (x2.length : Int) then (if x7 < (x0.length : Int) then (if x8 < (wrap64 ((rd x2 x7) + ((rd_T63 x0 x7).f0))) then ((spec_l32Use.f k x0 x2 x8).bind fun bt286 => (if bt286.1 > x283000 then (some false) else (spec_l32Room.l1 k x0 x2 x7 x8 bt286.2 0 x283000 x283001))) else (some true)) else (none)) else (none)) else (none)
def spec_l32Room.l1 : Nat → List (S63) → List Int → Int → Int → List Int → Int → Int → List Int → Option (Bool)
 | 0, _, _, _, _, _, _, _, _ => none
 | k + 1, x0, x2, x7, x8, x10, x11, x283000, x283001 => if x11 < (x10.length : Int) then (if 0 ≤ x11 then (if x11 < (x283001.length : Int) then (if (rd x10 x11) > (rd x283001 x11) then (some false) else (spec_l32Room.l1 k x0 x2 x7 x8 x10 (wrap64 (x11 + 1)) x283000 x283001)) else (none)) else (none)) else (spec_l32Room.l0 k x0 x2 x7 (wrap64 (x8 + 1)) x283000 x283001)
end
def spec_l32Room.f (k : Nat) (l0 : List (S63)) (a1_0 : Int) (l1_1 : List Int) (l2 : List Int) : Option (Bool) := if 0 ≤ (wrap64 ((l2.length : Int) - 1)) then (if (wrap64 ((l2.length : Int) - 1)) < (l2.length : Int) then (spec_l32Room.l0 k l0 l2 (wrap64 ((l2.length : Int) - 1)) (rd l2 (wrap64 ((l2.length : Int) - 1))) a1_0 l1_1) else (none)) else (none)
set_option maxHeartbeats 8000000 in
set_option maxRecDepth 100000 in
theorem spec_l32Room.calls (k : Nat) (A0 : Option Addr) (c0 : Nat) (l0 : List (S63)) (a1_0 : Int) (A1_1 : Option Addr) (c1_1 : Nat) (l1_1 : List Int) (A2 : Option Addr) (c2 : Nat) (l2 : List Int) (r : Bool) (w : World) (hr0 : Kd.C k63 w A0 l0.length l0) (hc0 : l0.length ≤ c0) (hr1_1 : Kd.C kI_q w A1_1 l1_1.length l1_1) (hc1_1 : l1_1.length ≤ c1_1) (hr2 : Kd.C kI_q w A2 l2.length l2) (hc2 : l2.length ≤ c2) (h : spec_l32Room.f k l0 a1_0 l1_1 l2 = some r) :
    Calls Try.prog 47 #[.slice A0 l0.length c0, .agg #[.int .i64 a1_0, .slice A1_1 l1_1.length c1_1], .slice A2 l2.length c2] w fun e w' => e = .returned (.bool r) ∧ Below w.heap.size w w' := by
 have hu43 := Try.underlying43
 have HR0 := Ae_q hr0
 have HC0 := Ae_q hc0
 clear hr0 hc0
 have HR1_1 := Ae_q hr1_1
 have HC1_1 := Ae_q hc1_1
 clear hr1_1 hc1_1
 have HR2 := Ae_q hr2
 have HC2 := Ae_q hc2
 clear hr2 hc2
 have HB := Ae_q (bR_q w.heap.size w)
 have H : (if 0 ≤ (wrap64 ((l2.length : Int) - 1)) then (if (wrap64 ((l2.length : Int) - 1)) < (l2.length : Int) then (spec_l32Room.l0 k l0 l2 (wrap64 ((l2.length : Int) - 1)) (rd l2 (wrap64 ((l2.length : Int) - 1))) a1_0 l1_1) else (none)) else (none)) = some r := h
 clear h
 obtain ⟨ji4, hji4⟩ : ∃ j_ : Int, (wrap64 ((l2.length : Int) - 1)) = j_ := ⟨_, rfl⟩
 replace H : (if 0 ≤ (ji4) then (if (ji4) < (l2.length : Int) then (spec_l32Room.l0 k l0 l2 ji4 (rd l2 (ji4)) a1_0 l1_1) else (none)) else (none)) = some r := by first | (rw [hji4] at H; exact H) | (simp only [hji4] at H ⊢; exact H)
 have hji4w : (IntKind.i64.wrap ((l2.length : Int) - 1)) = ji4 := (i64_w _).trans hji4
 by_cases c5 : 0 ≤ (ji4)
 rotate_left
 ·rw [if_neg c5] at H
  exact absurd H (by simp)
 rw [if_pos c5] at H
 have c5b0 : decide (0 ≤ (ji4)) = true := dT_q c5
 clear c5
 by_cases c6 : (ji4) < (l2.length : Int)
 rotate_left
 ·rw [if_neg c6] at H
  exact absurd H (by simp)
 rw [if_pos c6] at H
 have c6b0 : decide ((ji4) < (l2.length : Int)) = true := dT_q c6
 clear c6
 have H' := Ae_q H
 clear H
 go_enter Try.func47, Try.ntmps47
 go_wp2_with (first | ((with_reducible refine gD_q (N := 4) rfl ?_); refine bE_q ?hg (N := 4) ?hd (cs := #[.int .i64 a1_0, .slice A1_1 l1_1.length c1_1]) (t := 43) ?hr ?_; (case hd => rfl); (case hg => rfl); (case hr => exact m6_q); intro gb282 hg w' hbox hb; have BK282 := Ae_q (hbox); have GW282 := Ae_q ((by rw [hg]; exact (bZ_q (bel HB.out)) : w.heap.size ≤ gb282)); have GE282 := Ae_q ((by rw [hg]; exact (bZ_q (bel HB.out)) : w.heap.size ≤ gb282)); replace HB := Ae_q (bT_q (bel HB.out) hb); clear hb hbox hg; have p283 : 0 ≤ ((ji4) : Int) := oD_q (by assumption); have q283 : (ji4) < (l2.length : Int) := oD_q (by assumption); obtain ⟨ad283, e283, hx283_0⟩ := aI_q HR2.out (ji4) p283 q283; cases e283; replace hx283_0 := cel HB.out hx283_0; replace p283 := eq_true p283; replace q283 := eq_true q283))
 repeat (go_quiet (first | ((with_reducible refine gD_q (N := 4) rfl ?_); refine bE_q ?hg (N := 4) ?hd (cs := #[.int .i64 a1_0, .slice A1_1 l1_1.length c1_1]) (t := 43) ?hr ?_; (case hd => rfl); (case hg => rfl); (case hr => exact m6_q); intro gb282 hg w' hbox hb; have BK282 := Ae_q (hbox); have GW282 := Ae_q ((by rw [hg]; exact (bZ_q (bel HB.out)) : w.heap.size ≤ gb282)); have GE282 := Ae_q ((by rw [hg]; exact (bZ_q (bel HB.out)) : w.heap.size ≤ gb282)); replace HB := Ae_q (bT_q (bel HB.out) hb); clear hb hbox hg; have p283 : 0 ≤ ((ji4) : Int) := oD_q (by assumption); have q283 : (ji4) < (l2.length : Int) := oD_q (by assumption); obtain ⟨ad283, e283, hx283_0⟩ := aI_q HR2.out (ji4) p283 q283; cases e283; replace hx283_0 := cel HB.out hx283_0; replace p283 := eq_true p283; replace q283 := eq_true q283)); try go_wp2_with (first | ((with_reducible refine gD_q (N := 4) rfl ?_); refine bE_q ?hg (N := 4) ?hd (cs := #[.int .i64 a1_0, .slice A1_1 l1_1.length c1_1]) (t := 43) ?hr ?_; (case hd => rfl); (case hg => rfl); (case hr => exact m6_q); intro gb282 hg w' hbox hb; have BK282 := Ae_q (hbox); have GW282 := Ae_q ((by rw [hg]; exact (bZ_q (bel HB.out)) : w.heap.size ≤ gb282)); have GE282 := Ae_q ((by rw [hg]; exact (bZ_q (bel HB.out)) : w.heap.size ≤ gb282)); replace HB := Ae_q (bT_q (bel HB.out) hb); clear hb hbox hg; have p283 : 0 ≤ ((ji4) : Int) := oD_q (by assumption); have q283 : (ji4) < (l2.length : Int) := oD_q (by assumption); obtain ⟨ad283, e283, hx283_0⟩ := aI_q HR2.out (ji4) p283 q283; cases e283; replace hx283_0 := cel HB.out hx283_0; replace p283 := eq_true p283; replace q283 := eq_true q283)))
 go_loopg [8] k (fun kq v8 w' => ∃ (x8_1 : Int), v8 = .int .i64 x8_1 ∧ Aside0 (spec_l32Room.l0 kq l0 l2 ji4 x8_1 a1_0 l1_1 = some r) ∧ Aside0 (kq ≤ k) ∧ Aside0 (w'.heap[gb282]? = some (.cells #[.int .i64 a1_0, (.slice A1_1 l1_1.length c1_1)] 43 (0, 0))) ∧ Aside0 (Below w.heap.size w w'))
 case atStart => exact ⟨(rd l2 (ji4)), (by first | rfl | (simp; done) | (simp only [← hji4] <;> (first | rfl | simp)) | (simp [*]; done)), H', ⟨nR_q _⟩, ⟨bup BK282.out⟩, ⟨m14_q⟩⟩
 case round =>
  clear H'
  try clear c1
  try clear c2
  try clear p2
  try clear q2
  try clear hx2
  try clear c4
  try clear c5
  try clear c5b0
  try clear c6
  try clear c6b0
  try clear p6
  try clear hx283_0
  try clear p283
  try clear q283
  obtain ⟨x8_1, rfl, HA, HK1, BK282, HB⟩ := hrel
  cases gk with
  | zero => exact absurd HA.out (by simp [spec_l32Room.l0])
  | succ k1 =>
   have H := HA.out
   clear HA
   simp only [spec_l32Room.l0] at H
   by_cases c8 : 0 ≤ ji4
   rotate_left
   ·rw [if_neg c8] at H
    exact absurd H (by simp)
   rw [if_pos c8] at H
   have c8b0 : decide (0 ≤ ji4) = true := dT_q c8
   clear c8
   by_cases c9 : ji4 < (l2.length : Int)
   rotate_left
   ·rw [if_neg c9] at H
    exact absurd H (by simp)
   rw [if_pos c9] at H
   have c9b0 : decide (ji4 < (l2.length : Int)) = true := dT_q c9
   clear c9
   by_cases c10 : ji4 < (l0.length : Int)
   rotate_left
   ·rw [if_neg c10] at H
    exact absurd H (by simp)
   rw [if_pos c10] at H
   have c10b0 : decide (ji4 < (l0.length : Int)) = true := dT_q c10
   clear c10
   by_cases c11 : x8_1 < (wrap64 ((rd l2 ji4) + ((rd_T63 l0 ji4).f0)))
   rotate_left
   ·rw [if_neg c11] at H
    have c11b0 : decide (x8_1 < (wrap64 ((rd l2 ji4) + ((rd_T63 l0 ji4).f0)))) = false := dF_q c11
    clear c11
    obtain rfl := oI_q H
    have p284 : 0 ≤ (ji4 : Int) := oD_q (by assumption)
    have q284 : ji4 < (l2.length : Int) := oD_q (by assumption)
    obtain ⟨ad284, e284, hx284_0⟩ := aI_q HR2.out ji4 p284 q284
    obtain rfl : ad283 = ad284 := (by injection e284)
    replace hx284_0 := cel HB.out hx284_0
    replace p284 := eq_true p284
    replace q284 := eq_true q284
    have p285 : 0 ≤ (ji4 : Int) := oD_q (by assumption)
    have q285 : ji4 < (l0.length : Int) := oD_q (by assumption)
    obtain ⟨ad285, A285_3, c285_3, e285, hx285_0, hx285_1, hx285_2, hx285_3, hl285_3, hi285_3⟩ := at_T63 HR0.out ji4 p285 q285
    cases e285
    replace hx285_0 := cel HB.out hx285_0
    replace hx285_1 := cel HB.out hx285_1
    replace hx285_2 := cel HB.out hx285_2
    replace hx285_3 := cel HB.out hx285_3
    have HR285_3 := Ae_q hi285_3
    have HC285_3 := Ae_q hl285_3
    clear hi285_3 hl285_3
    replace p285 := eq_true p285
    replace q285 := eq_true q285
    go_wp2
    repeat (go_quiet (fail); try go_wp2)
    go_ret
    exact ⟨m65_q, m14_q⟩
   rw [if_pos c11] at H
   have c11b0 : decide (x8_1 < (wrap64 ((rd l2 ji4) + ((rd_T63 l0 ji4).f0)))) = true := dT_q c11
   clear c11
   replace H := oB_q.mp H
   obtain ⟨⟨t286, t287⟩, A120, H⟩ := H
   replace H : (if t286 > a1_0 then (some false) else (spec_l32Room.l1 k1 l0 l2 ji4 x8_1 t287 0 a1_0 l1_1)) = some r := H
   have A12 := Ae_q A120
   clear A120
   by_cases c13 : t286 > a1_0
   ·rw [if_pos c13] at H
    have c13b0 : decide (a1_0 < t286) = true := dT_q c13
    clear c13
    obtain rfl := oI_q H
    have p284 : 0 ≤ (ji4 : Int) := oD_q (by assumption)
    have q284 : ji4 < (l2.length : Int) := oD_q (by assumption)
    obtain ⟨ad284, e284, hx284_0⟩ := aI_q HR2.out ji4 p284 q284
    obtain rfl : ad283 = ad284 := (by injection e284)
    replace hx284_0 := cel HB.out hx284_0
    replace p284 := eq_true p284
    replace q284 := eq_true q284
    have p285 : 0 ≤ (ji4 : Int) := oD_q (by assumption)
    have q285 : ji4 < (l0.length : Int) := oD_q (by assumption)
    obtain ⟨ad285, A285_3, c285_3, e285, hx285_0, hx285_1, hx285_2, hx285_3, hl285_3, hi285_3⟩ := at_T63 HR0.out ji4 p285 q285
    cases e285
    replace hx285_0 := cel HB.out hx285_0
    replace hx285_1 := cel HB.out hx285_1
    replace hx285_2 := cel HB.out hx285_2
    replace hx285_3 := cel HB.out hx285_3
    have HR285_3 := Ae_q hi285_3
    have HC285_3 := Ae_q hl285_3
    clear hi285_3 hl285_3
    replace p285 := eq_true p285
    replace q285 := eq_true q285
    go_wp2_with (first | (go_at_call 64; (with_reducible refine (spec_l32Use.calls k1 _ _ l0 _ _ l2 x8_1 t286 t287 _ ?side1 ?side2 ?side3 ?side4 A12.out).mono ?_); (case side1 => exact m20_q); (case side2 => exact m57_q); (case side3 => exact m28_q); (case side4 => exact m63_q); rintro e w14 ⟨v288, rfl, ho0, hb⟩; have HO289 := Ae_q (rL_q ho0 (bZ_q m14_q)); replace BK282 := Ae_q (bB_q (g := gb282) (o := .cells #[.int .i64 a1_0, .slice A1_1 l1_1.length c1_1] 43 (0, 0)) (bup BK282.out) hb); replace HB := Ae_q (bT_q m14_q hb); (try clear hb); (try clear hb2); (try clear hk); (try clear hi); (try clear ho0); have hcz15_0 : cI w14 gb282 0 a1_0 := cZ BK282 0 rfl; have hcz15_1 : w14.cell? ⟨gb282, 1, none⟩ = some (.slice A1_1 l1_1.length c1_1) := (bC_q BK282.out 1).trans rfl; have hfz15_0 := bF_q BK282.out 0; have hfz15_1 := bF_q BK282.out 1))
    repeat (go_quiet (first | (go_at_call 64; (with_reducible refine (spec_l32Use.calls k1 _ _ l0 _ _ l2 x8_1 t286 t287 _ ?side1 ?side2 ?side3 ?side4 A12.out).mono ?_); (case side1 => exact m20_q); (case side2 => exact m57_q); (case side3 => exact m28_q); (case side4 => exact m63_q); rintro e w14 ⟨v288, rfl, ho0, hb⟩; have HO289 := Ae_q (rL_q ho0 (bZ_q m14_q)); replace BK282 := Ae_q (bB_q (g := gb282) (o := .cells #[.int .i64 a1_0, .slice A1_1 l1_1.length c1_1] 43 (0, 0)) (bup BK282.out) hb); replace HB := Ae_q (bT_q m14_q hb); (try clear hb); (try clear hb2); (try clear hk); (try clear hi); (try clear ho0); have hcz15_0 : cI w14 gb282 0 a1_0 := cZ BK282 0 rfl; have hcz15_1 : w14.cell? ⟨gb282, 1, none⟩ = some (.slice A1_1 l1_1.length c1_1) := (bC_q BK282.out 1).trans rfl; have hfz15_0 := bF_q BK282.out 0; have hfz15_1 := bF_q BK282.out 1)); try go_wp2_with (first | (go_at_call 64; (with_reducible refine (spec_l32Use.calls k1 _ _ l0 _ _ l2 x8_1 t286 t287 _ ?side1 ?side2 ?side3 ?side4 A12.out).mono ?_); (case side1 => exact m20_q); (case side2 => exact m57_q); (case side3 => exact m28_q); (case side4 => exact m63_q); rintro e w14 ⟨v288, rfl, ho0, hb⟩; have HO289 := Ae_q (rL_q ho0 (bZ_q m14_q)); replace BK282 := Ae_q (bB_q (g := gb282) (o := .cells #[.int .i64 a1_0, .slice A1_1 l1_1.length c1_1] 43 (0, 0)) (bup BK282.out) hb); replace HB := Ae_q (bT_q m14_q hb); (try clear hb); (try clear hb2); (try clear hk); (try clear hi); (try clear ho0); have hcz15_0 : cI w14 gb282 0 a1_0 := cZ BK282 0 rfl; have hcz15_1 : w14.cell? ⟨gb282, 1, none⟩ = some (.slice A1_1 l1_1.length c1_1) := (bC_q BK282.out 1).trans rfl; have hfz15_0 := bF_q BK282.out 0; have hfz15_1 := bF_q BK282.out 1)))
    go_ret
    exact ⟨m65_q, m14_q⟩
   rw [if_neg c13] at H
   have c13b0 : decide (a1_0 < t286) = false := dF_q c13
   clear c13
   have H' := Ae_q H
   clear H
   have p284 : 0 ≤ (ji4 : Int) := oD_q (by assumption)
   have q284 : ji4 < (l2.length : Int) := oD_q (by assumption)
   obtain ⟨ad284, e284, hx284_0⟩ := aI_q HR2.out ji4 p284 q284
   obtain rfl : ad283 = ad284 := (by injection e284)
   replace hx284_0 := cel HB.out hx284_0
   replace p284 := eq_true p284
   replace q284 := eq_true q284
   have p285 : 0 ≤ (ji4 : Int) := oD_q (by assumption)
   have q285 : ji4 < (l0.length : Int) := oD_q (by assumption)
   obtain ⟨ad285, A285_3, c285_3, e285, hx285_0, hx285_1, hx285_2, hx285_3, hl285_3, hi285_3⟩ := at_T63 HR0.out ji4 p285 q285
   cases e285
   replace hx285_0 := cel HB.out hx285_0
   replace hx285_1 := cel HB.out hx285_1
   replace hx285_2 := cel HB.out hx285_2
   replace hx285_3 := cel HB.out hx285_3
   have HR285_3 := Ae_q hi285_3
   have HC285_3 := Ae_q hl285_3
   clear hi285_3 hl285_3
   replace p285 := eq_true p285
   replace q285 := eq_true q285
   go_wp2_with (first | (go_at_call 64; (with_reducible refine (spec_l32Use.calls k1 _ _ l0 _ _ l2 x8_1 t286 t287 _ ?side1 ?side2 ?side3 ?side4 A12.out).mono ?_); (case side1 => exact m20_q); (case side2 => exact m57_q); (case side3 => exact m28_q); (case side4 => exact m63_q); rintro e w16 ⟨v288, rfl, ho0, hb⟩; have HO289 := Ae_q (rL_q ho0 (bZ_q m14_q)); replace BK282 := Ae_q (bB_q (g := gb282) (o := .cells #[.int .i64 a1_0, .slice A1_1 l1_1.length c1_1] 43 (0, 0)) (bup BK282.out) hb); replace HB := Ae_q (bT_q m14_q hb); (try clear hb); (try clear hb2); (try clear hk); (try clear hi); (try clear ho0); have hcz17_0 : cI w16 gb282 0 a1_0 := cZ BK282 0 rfl; have hcz17_1 : w16.cell? ⟨gb282, 1, none⟩ = some (.slice A1_1 l1_1.length c1_1) := (bC_q BK282.out 1).trans rfl; have hfz17_0 := bF_q BK282.out 0; have hfz17_1 := bF_q BK282.out 1))
   repeat (go_quiet (first | (go_at_call 64; (with_reducible refine (spec_l32Use.calls k1 _ _ l0 _ _ l2 x8_1 t286 t287 _ ?side1 ?side2 ?side3 ?side4 A12.out).mono ?_); (case side1 => exact m20_q); (case side2 => exact m57_q); (case side3 => exact m28_q); (case side4 => exact m63_q); rintro e w16 ⟨v288, rfl, ho0, hb⟩; have HO289 := Ae_q (rL_q ho0 (bZ_q m14_q)); replace BK282 := Ae_q (bB_q (g := gb282) (o := .cells #[.int .i64 a1_0, .slice A1_1 l1_1.length c1_1] 43 (0, 0)) (bup BK282.out) hb); replace HB := Ae_q (bT_q m14_q hb); (try clear hb); (try clear hb2); (try clear hk); (try clear hi); (try clear ho0); have hcz17_0 : cI w16 gb282 0 a1_0 := cZ BK282 0 rfl; have hcz17_1 : w16.cell? ⟨gb282, 1, none⟩ = some (.slice A1_1 l1_1.length c1_1) := (bC_q BK282.out 1).trans rfl; have hfz17_0 := bF_q BK282.out 0; have hfz17_1 := bF_q BK282.out 1)); try go_wp2_with (first | (go_at_call 64; (with_reducible refine (spec_l32Use.calls k1 _ _ l0 _ _ l2 x8_1 t286 t287 _ ?side1 ?side2 ?side3 ?side4 A12.out).mono ?_); (case side1 => exact m20_q); (case side2 => exact m57_q); (case side3 => exact m28_q); (case side4 => exact m63_q); rintro e w16 ⟨v288, rfl, ho0, hb⟩; have HO289 := Ae_q (rL_q ho0 (bZ_q m14_q)); replace BK282 := Ae_q (bB_q (g := gb282) (o := .cells #[.int .i64 a1_0, .slice A1_1 l1_1.length c1_1] 43 (0, 0)) (bup BK282.out) hb); replace HB := Ae_q (bT_q m14_q hb); (try clear hb); (try clear hb2); (try clear hk); (try clear hi); (try clear ho0); have hcz17_0 : cI w16 gb282 0 a1_0 := cZ BK282 0 rfl; have hcz17_1 : w16.cell? ⟨gb282, 1, none⟩ = some (.slice A1_1 l1_1.length c1_1) := (bC_q BK282.out 1).trans rfl; have hfz17_0 := bF_q BK282.out 0; have hfz17_1 := bF_q BK282.out 1)))
   go_loopg [11] k1 (fun kq v11 w' => ∃ (x11_2 : Int), v11 = .int .i64 x11_2 ∧ Aside0 (spec_l32Room.l1 kq l0 l2 ji4 x8_1 t287 x11_2 a1_0 l1_1 = some r) ∧ Aside0 (kq ≤ k1) ∧ Aside0 (Kd.R kI_q 3 w' w.heap.size (fun _ => True) v288 t287) ∧ Aside0 (w'.heap[gb282]? = some (.cells #[.int .i64 a1_0, (.slice A1_1 l1_1.length c1_1)] 43 (0, 0))) ∧ Aside0 (Below w.heap.size w w'))
   case atStart => exact ⟨(0), m5_q, H', ⟨nR_q _⟩, ⟨rup HO289.out⟩, ⟨bup BK282.out⟩, ⟨m14_q⟩⟩
   case round =>
    clear H'
    try clear c1
    try clear c2
    try clear p2
    try clear q2
    try clear hx2
    try clear c4
    try clear c5
    try clear c5b0
    try clear c6
    try clear c6b0
    try clear p6
    try clear c8
    try clear c8b0
    try clear c9
    try clear c9b0
    try clear c10
    try clear c10b0
    try clear c11
    try clear c11b0
    try clear c13
    try clear c13b0
    try clear hcz15_0
    try clear hcz15_1
    try clear hcz17_0
    try clear hcz17_1
    try clear hfz15_0
    try clear hfz15_1
    try clear hfz17_0
    try clear hfz17_1
    try clear hx283_0
    try clear hx284_0
    try clear hx285_0
    try clear hx285_1
    try clear hx285_2
    try clear hx285_3
    try clear p2
    try clear p283
    try clear p284
    try clear p285
    try clear p6
    try clear q2
    try clear q283
    try clear q284
    try clear q285
    obtain ⟨x11_2, rfl, HA, HK2, HO_10, BK282, HB⟩ := hrel
    cases gk with
    | zero => exact absurd HA.out (by simp [spec_l32Room.l1])
    | succ k2 =>
     have H := HA.out
     clear HA
     simp only [spec_l32Room.l1] at H
     by_cases c18 : x11_2 < (t287.length : Int)
     rotate_left
     ·rw [if_neg c18] at H
      have c18b0 : decide (x11_2 < (t287.length : Int)) = false := dF_q c18
      clear c18
      have H' := Ae_q H
      clear H
      obtain ⟨Ao26, co26, eo26⟩ := rS_q HO_10.out
      subst eo26
      go_wp2
      repeat (go_quiet (fail); try go_wp2)
      go_roundg k2
      case measure => have := HK1.out; have := HK2.out; omega
      case rel => exact ⟨(wrap64 (x8_1 + 1)), m5_q, H', ⟨by have := HK1.out; have := HK2.out; omega⟩, ⟨bup BK282.out⟩, ⟨m14_q⟩⟩
     rw [if_pos c18] at H
     have c18b0 : decide (x11_2 < (t287.length : Int)) = true := dT_q c18
     clear c18
     by_cases c19 : 0 ≤ x11_2
     rotate_left
     ·rw [if_neg c19] at H
      exact absurd H (by simp)
     rw [if_pos c19] at H
     have c19b0 : decide (0 ≤ x11_2) = true := dT_q c19
     clear c19
     by_cases c20 : x11_2 < (l1_1.length : Int)
     rotate_left
     ·rw [if_neg c20] at H
      exact absurd H (by simp)
     rw [if_pos c20] at H
     have c20b0 : decide (x11_2 < (l1_1.length : Int)) = true := dT_q c20
     clear c20
     by_cases c21 : (rd t287 x11_2) > (rd l1_1 x11_2)
     ·rw [if_pos c21] at H
      have c21b0 : decide ((rd l1_1 x11_2) < (rd t287 x11_2)) = true := dT_q c21
      clear c21
      obtain rfl := oI_q H
      obtain ⟨Ao22, co22, eo22⟩ := rS_q HO_10.out
      subst eo22
      have p290 : 0 ≤ (x11_2 : Int) := oD_q (by assumption)
      have q290 : x11_2 < (t287.length : Int) := oD_q (by assumption)
      obtain ⟨ad290, e290, hx290_0⟩ := aI_q (rR_q HO_10.out).2.2 x11_2 p290 q290
      cases e290
      replace p290 := eq_true p290
      replace q290 := eq_true q290
      have hcz23_0 : cI wr gb282 0 a1_0 := cZ BK282 0 rfl
      have hcz23_1 : wr.cell? ⟨gb282, 1, none⟩ = some (.slice A1_1 l1_1.length c1_1) := (bC_q BK282.out 1).trans rfl
      have hfz23_0 := bF_q BK282.out 0
      have hfz23_1 := bF_q BK282.out 1
      have p291 : 0 ≤ (x11_2 : Int) := oD_q (by assumption)
      have q291 : x11_2 < (l1_1.length : Int) := oD_q (by assumption)
      obtain ⟨ad291, e291, hx291_0⟩ := aI_q HR1_1.out x11_2 p291 q291
      cases e291
      replace hx291_0 := cel HB.out hx291_0
      replace p291 := eq_true p291
      replace q291 := eq_true q291
      go_wp2
      repeat (go_quiet (fail); try go_wp2)
      go_ret
      exact ⟨m65_q, m14_q⟩
     rw [if_neg c21] at H
     have c21b0 : decide ((rd l1_1 x11_2) < (rd t287 x11_2)) = false := dF_q c21
     clear c21
     have H' := Ae_q H
     clear H
     obtain ⟨Ao24, co24, eo24⟩ := rS_q HO_10.out
     subst eo24
     have p290 : 0 ≤ (x11_2 : Int) := oD_q (by assumption)
     have q290 : x11_2 < (t287.length : Int) := oD_q (by assumption)
     obtain ⟨ad290, e290, hx290_0⟩ := aI_q (rR_q HO_10.out).2.2 x11_2 p290 q290
     cases e290
     replace p290 := eq_true p290
     replace q290 := eq_true q290
     have hcz25_0 : cI wr gb282 0 a1_0 := cZ BK282 0 rfl
     have hcz25_1 : wr.cell? ⟨gb282, 1, none⟩ = some (.slice A1_1 l1_1.length c1_1) := (bC_q BK282.out 1).trans rfl
     have hfz25_0 := bF_q BK282.out 0
     have hfz25_1 := bF_q BK282.out 1
     have p291 : 0 ≤ (x11_2 : Int) := oD_q (by assumption)
     have q291 : x11_2 < (l1_1.length : Int) := oD_q (by assumption)
     obtain ⟨ad291, e291, hx291_0⟩ := aI_q HR1_1.out x11_2 p291 q291
     cases e291
     replace hx291_0 := cel HB.out hx291_0
     replace p291 := eq_true p291
     replace q291 := eq_true q291
     go_wp2
     repeat (go_quiet (fail); try go_wp2)
     go_roundg k2
     case measure => have := HK1.out; have := HK2.out; omega
     case rel => exact ⟨(wrap64 (x11_2 + 1)), m5_q, H', ⟨by have := HK1.out; have := HK2.out; omega⟩, ⟨rup HO_10.out⟩, ⟨bup BK282.out⟩, ⟨m14_q⟩⟩

end Go.Proofs.Ytfnpiacmlahegaa.PRp
