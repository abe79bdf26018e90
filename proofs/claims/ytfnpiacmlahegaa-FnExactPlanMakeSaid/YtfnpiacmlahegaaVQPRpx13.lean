import Derived.Test.YtfnpiacmlahegaaVQPRpx0
import Derived.Test.YtfnpiacmlahegaaVQPRpx1
import Derived.Test.YtfnpiacmlahegaaVQPRpx10
import Derived.Test.YtfnpiacmlahegaaVQPRpx12
namespace Go.Proofs.Ytfnpiacmlahegaa.PRp
open Go.RowKit Go.Proofs.YtfnpiacmlahegaaW.PrintWords Go.Proofs.YtfnpiacmlahegaaW.PrintLast Go.Proofs.YtfnpiacmlahegaaW.PrintMore
attribute [local go_sem] max2_int min2_int max_two min_two max_three min_three max_four min_four
set_option linter.unusedVariables false
set_option linter.unusedSimpArgs false

mutual
def spec_PlanMake.j0 : Nat → List (S63) → List Int → Bool → Int → List Int → Option (List Int × Bool)
 | 0, _, _, _, _, _ => none
 | k + 1, x0, x6, x17, x293000, x293001 => if x17 = true then (some (x6, false)) else (spec_PlanMake.l0 k x0 x6 0 x293000 x293001)
def spec_PlanMake.l0 : Nat → List (S63) → List Int → Int → Int → List Int → Option (List Int × Bool)
 | 0, _, _, _, _, _ => none
 | k + 1, x0, x6, x7, x293000, x293001 => if x7 < (x0.length : Int) then (if 0 ≤ x7 then ((spec_l32Alone.f ((rd_T63 x0 x7).f0) ((rd_T63 x0 x7).f1) ((rd_T63 x0 x7).f2) ((rd_T63 x0 x7).f3) x293000 x293001).bind fun t299 => (if t299 = true then ((spec_l32After.f k x0 x6 x7).bind fun t303 => (spec_PlanMake.l1 k x0 x6 x7 t303 x293000 x293001)) else (some ((([] : List Int)), false)))) else (none)) else (some (x6, true))
def spec_PlanMake.l1 : Nat → List (S63) → List Int → Int → Int → Int → List Int → Option (List Int × Bool)
 | 0, _, _, _, _, _, _ => none
 | k + 1, x0, x6, x7, x8, x293000, x293001 => (some (([] : List Int) : List Int)).bind fun y304 => (if y304.length + x6.length < 17592186044416 then ((some (y304 ++ x6 : List Int)).bind fun y307 => ((some (([x8] : List Int) : List Int)).bind fun y310 => (if y307.length + y310.length < 17592186044416 then ((spec_l32Room.f k x0 x293000 x293001 (y307 ++ y310)).bind fun t316 => (if t316 = true then ((some (([x8] : List Int) : List Int)).bind fun y317 => (if x6.length + y317.length < 17592186044416 then (spec_PlanMake.l0 k x0 (x6 ++ y317) (wrap64 (x7 + 1)) x293000 x293001) else (none))) else (spec_PlanMake.l1 k x0 x6 x7 (wrap64 (x8 + 1)) x293000 x293001))) else (none)))) else (none))
end
def spec_PlanMake.f (k : Nat) (l0 : List (S63)) (a1_0 : Int) (l1_1 : List Int) : Option (List Int × Bool) := (some (([] : List Int) : List Int)).bind fun y293 => ((spec_KitchenValid.f k a1_0 l1_1).bind fun t296 => (if t296 = true then ((spec_StepsValid.f k l0).bind fun t297 => (spec_PlanMake.j0 k l0 y293 (!t297) a1_0 l1_1)) else (spec_PlanMake.j0 k l0 y293 true a1_0 l1_1)))
def spec_PlanMake.T10 : Bool × List (List Nat × List Nat) := (true, [([], []), ([], []), ([], []), ([], []), ([2, 3], [2, 3]), ([], []), ([5], [5]), ([4, 6, 4], [4, 6]), ([0, 1, 7, 7], [0, 1, 7]), ([8], [8])])
def spec_PlanMake.B10 : List Nat := [0, 0, 0, 0, 12, 0, 32, 124, 255, 511]
theorem spec_PlanMake.tab10 : rtab .any (opsOf Try.f22 10) = spec_PlanMake.T10 := by kernel_rfl
theorem spec_PlanMake.bits10 : waitsOk spec_PlanMake.T10.2 spec_PlanMake.B10 = true := by kernel_rfl
set_option maxHeartbeats 8000000 in
set_option maxRecDepth 100000 in
theorem spec_PlanMake.calls (k : Nat) (A0 : Option Addr) (c0 : Nat) (l0 : List (S63)) (a1_0 : Int) (A1_1 : Option Addr) (c1_1 : Nat) (l1_1 : List Int) (r1 : List Int) (r2 : Bool) (w : World) (hr0 : Kd.C k63 w A0 l0.length l0) (hc0 : l0.length ≤ c0) (hr1_1 : Kd.C kI_q w A1_1 l1_1.length l1_1) (hc1_1 : l1_1.length ≤ c1_1) (h : spec_PlanMake.f k l0 a1_0 l1_1 = some (r1, r2)) :
    Calls Try.prog 22 #[.slice A0 l0.length c0, .agg #[.int .i64 a1_0, .slice A1_1 l1_1.length c1_1]] w fun e w' => ∃ v0_ : Value, e = .returned (.tuple #[v0_, .bool r2]) ∧ Kd.R kI_q 3 w' w.heap.size (fun _ => True) v0_ r1 ∧ Below w.heap.size w w' := by
 have hu43 := Try.underlying43
 have hu63 := Try.underlying63
 have HR0 := Ae_q hr0
 have HC0 := Ae_q hc0
 clear hr0 hc0
 have HR1_1 := Ae_q hr1_1
 have HC1_1 := Ae_q hc1_1
 clear hr1_1 hc1_1
 have HB := Ae_q (bR_q w.heap.size w)
 have H : ((some (([] : List Int) : List Int)).bind fun y293 => ((spec_KitchenValid.f k a1_0 l1_1).bind fun t296 => (if t296 = true then ((spec_StepsValid.f k l0).bind fun t297 => (spec_PlanMake.j0 k l0 y293 (!t297) a1_0 l1_1)) else (spec_PlanMake.j0 k l0 y293 true a1_0 l1_1)))) = some (r1, r2) := h
 clear h
 obtain ⟨y293, hy293⟩ : ∃ y_ : List Int, y_ = (([] : List Int)) := ⟨_, rfl⟩
 replace H : ((spec_KitchenValid.f k a1_0 l1_1).bind fun t296 => (if t296 = true then ((spec_StepsValid.f k l0).bind fun t297 => (spec_PlanMake.j0 k l0 y293 (!t297) a1_0 l1_1)) else (spec_PlanMake.j0 k l0 y293 true a1_0 l1_1))) = some (r1, r2) := by first | (rw [hy293]; with_reducible exact H) | (have H2_ := (oS_q _ _).symm.trans H; rw [hy293]; with_reducible exact H2_) | (have H2_ := (oS_q _ _).symm.trans H; with_reducible exact H2_) | with_reducible exact H | (rw [hy293]; exact H) | exact H
 have Ny293 := Ae_q hy293
 clear hy293
 have HC3 := Ae_q H
 clear H
 go_enter Try.func22, Try.ntmps22
 go_upto_region 2 with (first | ((with_reducible refine gD_q (N := 3) rfl ?_); refine bE_q ?hg (N := 3) ?hd (cs := #[.int .i64 a1_0, .slice A1_1 l1_1.length c1_1]) (t := 43) ?hr ?_; (case hd => rfl); (case hg => rfl); (case hr => exact m6_q); intro gb292 hg w' hbox hb; have BK292 := Ae_q (hbox); have GW292 := Ae_q ((by rw [hg]; exact (bZ_q (bel HB.out)) : w.heap.size ≤ gb292)); have GE292 := Ae_q ((by rw [hg]; exact (bZ_q (bel HB.out)) : w.heap.size ≤ gb292)); replace HB := Ae_q (bT_q (bel HB.out) hb); clear hb hbox hg) | ((with_reducible refine gD_q (N := 9) rfl ?_); refine Kd.R_lit kI_q _ 3 ?hg (N := 9) ?hd (xs := ([] : List Int)) (inner := []) (ok := fun _ => True) (okp := fun _ => True) ?hr ?hp (fun _ hk => hk) trivial (bR_q _ _) (nR_q _) (by simp) ?_; (case hd => rfl); (case hg => rfl); (case hr => exact m6_q); (case hp => exact m92_q); intro v294 w5 ho6 hb hg_ hnew_; clear hg_ hnew_; (first | rw [← Ny293.out] at ho6 | (simp only [Int.reduceToNat] at ho6; rw [← Ny293.out] at ho6)); have HO295 := Ae_q (rL_q ho6 (bZ_q m1_q)); replace BK292 := Ae_q (bB_q (g := gb292) (o := .cells #[.int .i64 a1_0, .slice A1_1 l1_1.length c1_1] 43 (0, 0)) (bup BK292.out) hb); replace HB := Ae_q (bT_q m1_q hb); clear hb ho6))
 (try simp only [Act.put, sA_q, sZ_q, sS_q])
 go_cut [17] (fun v17 wc => ∃ (kq : Nat) (x17_2 : Bool), v17 = .bool x17_2 ∧ Aside0 (spec_PlanMake.j0 kq l0 y293 x17_2 a1_0 l1_1 = some (r1, r2)) ∧ Aside0 (kq ≤ k) ∧ Aside0 (Kd.R kI_q 3 wc w.heap.size (fun _ => True) v294 y293) ∧ Aside0 (wc.heap[gb292]? = some (.cells #[.int .i64 a1_0, (.slice A1_1 l1_1.length c1_1)] 43 (0, 0))) ∧ Aside0 (Below w.heap.size w wc))
 case first =>
  have H := HC3.out
  clear HC3
  replace H := oB_q.mp H
  obtain ⟨t296, A70, H⟩ := H
  replace H : (if t296 = true then ((spec_StepsValid.f k l0).bind fun t297 => (spec_PlanMake.j0 k l0 y293 (!t297) a1_0 l1_1)) else (spec_PlanMake.j0 k l0 y293 true a1_0 l1_1)) = some (r1, r2) := H
  have A7 := Ae_q A70
  clear A70
  by_cases c8 : t296 = true
  rotate_left
  ·replace c8 := fM_q.mpr c8
   subst c8
   have H1 : (spec_PlanMake.j0 k l0 y293 true a1_0 l1_1) = some (r1, r2) := by rw [if_neg (show ¬ (false = true) by decide)] at H; exact H
   clear H
   have H := H1
   clear H1
   have H' := Ae_q H
   clear H
   have hcz13_0 : cI w5 gb292 0 a1_0 := cZ BK292 0 rfl
   have hcz13_1 : w5.cell? ⟨gb292, 1, none⟩ = some (.slice A1_1 l1_1.length c1_1) := (bC_q BK292.out 1).trans rfl
   have hfz13_0 := bF_q BK292.out 0
   have hfz13_1 := bF_q BK292.out 1
   go_wp2_with (first | ((with_reducible refine gC_q (f := 43) rfl ?_); refine gL_q (some 11) rfl rfl Try.func43 m10_q rfl #[.agg #[.int .i64 a1_0, .slice A1_1 l1_1.length c1_1]] rfl m0_q ?_; (with_reducible refine (spec_KitchenValid.calls k a1_0 _ _ l1_1 false _ ?side1 ?side2 A7.out).mono ?_); (case side1 => exact m31_q); (case side2 => exact m65_q); rintro e w' ⟨rfl, hb⟩; refine ⟨_, rfl, ?_⟩; replace HO295 := Ae_q (rO_q (rup HO295.out) hb); replace BK292 := Ae_q (bB_q (g := gb292) (o := .cells #[.int .i64 a1_0, .slice A1_1 l1_1.length c1_1] 43 (0, 0)) (bup BK292.out) hb); replace HB := Ae_q (bT_q m1_q hb); (try clear hb); (try clear hb2); (try clear hk); (try clear hi)))
   go_meet
   case rel => exact ⟨_, (true), m4_q, H', ⟨m93_q⟩, ⟨rup HO295.out⟩, ⟨bup BK292.out⟩, ⟨m1_q⟩⟩
  subst c8
  have H1 : ((spec_StepsValid.f k l0).bind fun t297 => (spec_PlanMake.j0 k l0 y293 (!t297) a1_0 l1_1)) = some (r1, r2) := by rw [if_pos rfl] at H; exact H
  clear H
  have H := H1
  clear H1
  replace H := oB_q.mp H
  obtain ⟨t297, A90, H⟩ := H
  replace H : (spec_PlanMake.j0 k l0 y293 (!t297) a1_0 l1_1) = some (r1, r2) := H
  have A9 := Ae_q A90
  clear A90
  have H' := Ae_q H
  clear H
  have hcz10_0 : cI w5 gb292 0 a1_0 := cZ BK292 0 rfl
  have hcz10_1 : w5.cell? ⟨gb292, 1, none⟩ = some (.slice A1_1 l1_1.length c1_1) := (bC_q BK292.out 1).trans rfl
  have hfz10_0 := bF_q BK292.out 0
  have hfz10_1 := bF_q BK292.out 1
  go_wp2_with (first | ((first | ((with_reducible refine gC_q (f := 43) rfl ?_); refine gL_q (some 11) rfl rfl Try.func43 m10_q rfl #[.agg #[.int .i64 a1_0, .slice A1_1 l1_1.length c1_1]] rfl m0_q ?_; (with_reducible refine (spec_KitchenValid.calls k a1_0 _ _ l1_1 true _ ?side1 ?side2 A7.out).mono ?_); (case side1 => exact m31_q); (case side2 => exact m65_q); rintro e w' ⟨rfl, hb⟩; refine ⟨_, rfl, ?_⟩) | (go_at_call 44; (with_reducible refine (spec_StepsValid.calls k _ _ l0 t297 _ ?side1 ?side2 A9.out).mono ?_); (case side1 => exact m23_q); (case side2 => exact m56_q); rintro e w' ⟨rfl, hb⟩)); replace HO295 := Ae_q (rO_q (rup HO295.out) hb); replace BK292 := Ae_q (bB_q (g := gb292) (o := .cells #[.int .i64 a1_0, .slice A1_1 l1_1.length c1_1] 43 (0, 0)) (bup BK292.out) hb); replace HB := Ae_q (bT_q m1_q hb); (try clear hb); (try clear hb2); (try clear hk); (try clear hi)))
  go_meet
  case rel => exact ⟨_, (!t297), m4_q, H', ⟨m93_q⟩, ⟨rup HO295.out⟩, ⟨bup BK292.out⟩, ⟨m1_q⟩⟩
 case rest =>
  clear HC3
  try clear c1
  try clear c2
  try clear p2
  try clear c4
  try clear c8
  try clear hcz10_0
  try clear hcz10_1
  try clear hcz13_0
  try clear hcz13_1
  try clear hfz10_0
  try clear hfz10_1
  try clear hfz13_0
  try clear hfz13_1
  obtain ⟨kq, x17_2, rfl, HA, HJ2, HO_6, BK292, HB⟩ := hcut
  cases kq with
  | zero => exact absurd HA.out (by simp [spec_PlanMake.j0])
  | succ kj2 =>
   have H := HA.out
   clear HA
   simp only [spec_PlanMake.j0] at H
   by_cases c15 : x17_2 = true
   ·subst c15
    have H1 : (some (y293, false)) = some (r1, r2) := by rw [if_pos rfl] at H; exact H
    clear H
    have H := H1
    clear H1
    simp only [oE_q, pE_q] at H
    obtain ⟨rfl, rfl⟩ := H
    go_wp2
    go_ret2
    exact ⟨_, m3_q, rup HO_6.out, m1_q⟩
   replace c15 := fM_q.mpr c15
   subst c15
   have H1 : (spec_PlanMake.l0 kj2 l0 y293 0 a1_0 l1_1) = some (r1, r2) := by rw [if_neg (show ¬ (false = true) by decide)] at H; exact H
   clear H
   have H := H1
   clear H1
   have H' := Ae_q H
   clear H
   go_wp2
   go_loopg [6, 7] kj2 (fun kq v6 v7 w' => ∃ (x6_2 : List Int) (x7_2 : Int), v7 = .int .i64 x7_2 ∧ Aside0 (spec_PlanMake.l0 kq l0 x6_2 x7_2 a1_0 l1_1 = some (r1, r2)) ∧ Aside0 (kq ≤ kj2) ∧ Aside0 (Kd.R kI_q 3 w' w.heap.size (fun _ => True) v6 x6_2) ∧ Aside0 (w'.heap[gb292]? = some (.cells #[.int .i64 a1_0, (.slice A1_1 l1_1.length c1_1)] 43 (0, 0))) ∧ Aside0 (Below w.heap.size w w'))
   case atStart => exact ⟨(y293), (0), m4_q, H', ⟨nR_q _⟩, ⟨rup HO_6.out⟩, ⟨bup BK292.out⟩, ⟨m1_q⟩⟩
   case round =>
    clear H'
    try clear c1
    try clear c2
    try clear p2
    try clear c4
    try clear c8
    try clear c15
    try clear hcz10_0
    try clear hcz10_1
    try clear hcz13_0
    try clear hcz13_1
    try clear hfz10_0
    try clear hfz10_1
    try clear hfz13_0
    try clear hfz13_1
    try clear p2
    obtain ⟨x6_2, x7_2, rfl, HA, HK2, HO_6, BK292, HB⟩ := hrel
    cases gk with
    | zero => exact absurd HA.out (by simp [spec_PlanMake.l0])
    | succ k2 =>
     have H := HA.out
     clear HA
     simp only [spec_PlanMake.l0] at H
     by_cases c16 : x7_2 < (l0.length : Int)
     rotate_left
     ·rw [if_neg c16] at H
      have c16b0 : decide (x7_2 < (l0.length : Int)) = false := dF_q c16
      clear c16
      simp only [oE_q, pE_q] at H
      obtain ⟨rfl, rfl⟩ := H
      go_wp2
      go_ret2
      exact ⟨_, m3_q, rup HO_6.out, m1_q⟩
     rw [if_pos c16] at H
     have c16b0 : decide (x7_2 < (l0.length : Int)) = true := dT_q c16
     clear c16
     by_cases c17 : 0 ≤ x7_2
     rotate_left
     ·rw [if_neg c17] at H
      exact absurd H (by simp)
     rw [if_pos c17] at H
     have c17b0 : decide (0 ≤ x7_2) = true := dT_q c17
     clear c17
     replace H := oB_q.mp H
     obtain ⟨t299, A180, H⟩ := H
     replace H : (if t299 = true then ((spec_l32After.f k2 l0 x6_2 x7_2).bind fun t303 => (spec_PlanMake.l1 k2 l0 x6_2 x7_2 t303 a1_0 l1_1)) else (some ((([] : List Int)), false))) = some (r1, r2) := H
     have A18 := Ae_q A180
     clear A180
     by_cases c19 : t299 = true
     rotate_left
     ·replace c19 := fM_q.mpr c19
      subst c19
      have H1 : (some ((([] : List Int)), false)) = some (r1, r2) := by rw [if_neg (show ¬ (false = true) by decide)] at H; exact H
      clear H
      have H := H1
      clear H1
      obtain ⟨y300, hy300⟩ : ∃ y_ : List Int, y_ = (([] : List Int)) := ⟨_, rfl⟩
      replace H : (some (y300, false)) = some (r1, r2) := by first | (rw [hy300]; with_reducible exact H) | (have H2_ := (oS_q _ _).symm.trans H; rw [hy300]; with_reducible exact H2_) | (have H2_ := (oS_q _ _).symm.trans H; with_reducible exact H2_) | with_reducible exact H | (rw [hy300]; exact H) | exact H
      have Ny300 := Ae_q hy300
      clear hy300
      simp only [oE_q, pE_q] at H
      obtain ⟨rfl, rfl⟩ := H
      try go_wp2
      replace HO_6 := Ae_q (rD_q HO_6.out)
      replace BK292 := Ae_q (bW_q BK292.out)
      replace HB := Ae_q (bD_q HB.out)
      have p298 : 0 ≤ (x7_2 : Int) := oD_q (by assumption)
      have q298 : x7_2 < (l0.length : Int) := oD_q (by assumption)
      obtain ⟨ad298, A298_3, c298_3, e298, hx298_0, hx298_1, hx298_2, hx298_3, hl298_3, hi298_3⟩ := at_T63 HR0.out x7_2 p298 q298
      have hw298_3 := hx298_3
      have hw298_2 := hx298_2
      have hw298_1 := hx298_1
      have hw298_0 := hx298_0
      cases e298
      replace hx298_0 := cel HB.out hx298_0
      replace hx298_1 := cel HB.out hx298_1
      replace hx298_2 := cel HB.out hx298_2
      replace hx298_3 := cel HB.out hx298_3
      have HR298_3 := Ae_q hi298_3
      have HC298_3 := Ae_q hl298_3
      clear hi298_3 hl298_3
      replace p298 := eq_true p298
      replace q298 := eq_true q298
      refine start_ (n := 7) (S := fun w' => w'.cell? ⟨gb292, 0, none⟩ = some (.int .i64 a1_0) ∧ w'.cell? ⟨gb292, 1, none⟩ = some (.slice A1_1 l1_1.length c1_1) ∧ w'.cell? (ad298.add ((x7_2).toNat * 4)) = some (.int .i64 ((rd_T63 l0 x7_2).f0)) ∧ w'.cell? ⟨(ad298.add ((x7_2).toNat * 4)).block, (ad298.add ((x7_2).toNat * 4)).off + 1, none⟩ = some (.int .i64 ((rd_T63 l0 x7_2).f1)) ∧ w'.cell? ⟨(ad298.add ((x7_2).toNat * 4)).block, (ad298.add ((x7_2).toNat * 4)).off + 2, none⟩ = some (.int .i64 ((rd_T63 l0 x7_2).f2)) ∧ w'.cell? ⟨(ad298.add ((x7_2).toNat * 4)).block, (ad298.add ((x7_2).toNat * 4)).off + 3, none⟩ = some (.slice A298_3 ((rd_T63 l0 x7_2).f3).length c298_3)) (ds := []) #[false, false, false, false, false, false, false] m10_q rfl rfl ⟨(bC_q BK292.out 0).trans rfl, (bC_q BK292.out 1).trans rfl, (cel HB.out hw298_0), (cel HB.out hw298_1), (cel HB.out hw298_2), (cel HB.out hw298_3)⟩ (fun hHeld => ?_)
      generalize wr.drew = w56 at HO_6 BK292 HB HR298_3 hx298_0 hx298_1 hx298_2 hx298_3 hHeld ⊢
      refine pure_ (i := 0) (N := some 25) (v := ?_) (a' := ?_) #[true, false, false, false, false, false, false] rfl rfl m10_q (fun _ _ _ h => h) (Or.inl ⟨by rfl, ?_⟩) ?_ ?_
      rotate_left
      ·intro w'
       go_simp
       with_reducible rfl
      rotate_left
      ·simp only [pS_q]
       rfl
      refine pure_ (i := 1) (N := some 26) (v := ?_) (a' := ?_) #[true, true, false, false, false, false, false] rfl rfl m10_q (fun _ _ _ h => h) (Or.inl ⟨by rfl, ?_⟩) ?_ ?_
      rotate_left
      ·intro w'
       go_simp
       with_reducible rfl
      rotate_left
      ·simp only [pS_q]
       rfl
      refine pure_ (i := 2) (N := some 27) (v := ?_) (a' := ?_) #[true, true, true, false, false, false, false] rfl rfl m10_q (fun _ _ _ h => h) (Or.inl ⟨by rfl, ?_⟩) ?_ ?_
      rotate_left
      ·intro w'
       go_simp
       with_reducible rfl
      rotate_left
      ·simp only [pS_q]
       rfl
      refine take_ (i := 3) (N := some 28) (v := ?_) (a' := ?_) #[true, true, true, true, false, false, false] rfl rfl m10_q (fun _ _ _ h => h) (Or.inl ⟨by rfl, ?_⟩) hHeld ?_ ?_
      rotate_left
      ·rintro w' ⟨s0, s1, s2, s3, s4, s5⟩
       go_simp
       with_reducible rfl
      rotate_left
      ·simp only [pS_q]
       rfl
      refine take_ (i := 4) (N := some 29) (v := ?_) (a' := ?_) #[true, true, true, true, true, false, false] rfl rfl m10_q (fun _ _ _ h => h) (Or.inl ⟨by rfl, ?_⟩) hHeld ?_ ?_
      rotate_left
      ·rintro w' ⟨s0, s1, s2, s3, s4, s5⟩
       go_simp
       with_reducible rfl
      rotate_left
      ·simp only [pS_q]
       rfl
      refine one_ (i := 5) (N := some 30) #[true, true, true, true, true, true, false] rfl rfl m10_q (by decide) (fun K hK => ?_)
      refine goes_ Try.func45 m10_q rfl #[.agg #[.int .i64 ((rd_T63 l0 x7_2).f0), .int .i64 ((rd_T63 l0 x7_2).f1), .int .i64 ((rd_T63 l0 x7_2).f2), .slice A298_3 ((rd_T63 l0 x7_2).f3).length c298_3], .agg #[.int .i64 a1_0, .slice A1_1 l1_1.length c1_1]] (by rfl) rfl rfl m0_q ?_
      with_reducible refine (spec_l32Alone.calls ((rd_T63 l0 x7_2).f0) ((rd_T63 l0 x7_2).f1) ((rd_T63 l0 x7_2).f2) _ _ ((rd_T63 l0 x7_2).f3) a1_0 _ _ l1_1 false _ ?side1 ?side2 ?side3 ?side4 A18.out).mono ?_
      (case side1 => exact cup (cB_q HR298_3.out HB.out))
      (case side2 => exact HC298_3.out)
      (case side3 => exact m31_q)
      (case side4 => exact m65_q)
      rintro e w' ⟨rfl, hb⟩
      refine ⟨_, rfl, ?_⟩
      replace HO_6 := Ae_q (rO_q (rup HO_6.out) hb)
      replace BK292 := Ae_q (bB_q (g := gb292) (o := .cells #[.int .i64 a1_0, .slice A1_1 l1_1.length c1_1] 43 (0, 0)) (bup BK292.out) hb)
      replace HB := Ae_q (bT_q m1_q hb)
      (try clear hb)
      (try clear hb2)
      (try clear hk)
      (try clear hi)
      refine hK.out _ _ ⟨(bC_q BK292.out 0).trans rfl, (bC_q BK292.out 1).trans rfl, (cel HB.out hw298_0), (cel HB.out hw298_1), (cel HB.out hw298_2), (cel HB.out hw298_3)⟩ (fun hHeld => ?_)
      clear hK K
      refine nJ_q ?_
      refine pure_ (i := 6) (N := some 31) (v := ?_) (a' := ?_) #[true, true, true, true, true, true, true] rfl rfl m10_q (fun _ _ _ h => h) (Or.inl ⟨by rfl, ?_⟩) ?_ ?_
      rotate_left
      ·intro w'
       go_simp
       with_reducible rfl
      rotate_left
      ·simp only [pS_q]
       rfl
      refine done_ m10_q ?_
      try go_wp2_with (first | ((with_reducible refine gD_q (N := 32) rfl ?_); refine Kd.R_lit kI_q _ 3 ?hg (N := 32) ?hd (xs := ([] : List Int)) (inner := []) (ok := fun _ => True) (okp := fun _ => True) ?hr ?hp (fun _ hk => hk) trivial (bR_q _ _) (nR_q _) (by simp) ?_; (case hd => rfl); (case hg => rfl); (case hr => exact m6_q); (case hp => exact m92_q); intro v301 w58 ho59 hb hg_ hnew_; clear hg_ hnew_; (first | rw [← Ny300.out] at ho59 | (simp only [Int.reduceToNat] at ho59; rw [← Ny300.out] at ho59)); have HO302 := Ae_q (rL_q (rW_q ho59 (rT_q (rup HO_6.out))) (bZ_q m1_q)); replace HO_6 := Ae_q (rE_q (rup HO_6.out) (rB_q ho59) hb); replace BK292 := Ae_q (bB_q (g := gb292) (o := .cells #[.int .i64 a1_0, .slice A1_1 l1_1.length c1_1] 43 (0, 0)) (bup BK292.out) hb); replace HB := Ae_q (bT_q m1_q hb); clear hb ho59))
      go_ret2
      exact ⟨_, m3_q, by (with_reducible repeat (first | apply rA_q | apply rN_q | apply rD_q)); exact rM_q HO302.out (fun _ hk => trivial), m1_q⟩
     subst c19
     have H1 : ((spec_l32After.f k2 l0 x6_2 x7_2).bind fun t303 => (spec_PlanMake.l1 k2 l0 x6_2 x7_2 t303 a1_0 l1_1)) = some (r1, r2) := by rw [if_pos rfl] at H; exact H
     clear H
     have H := H1
     clear H1
     replace H := oB_q.mp H
     obtain ⟨t303, A200, H⟩ := H
     replace H : (spec_PlanMake.l1 k2 l0 x6_2 x7_2 t303 a1_0 l1_1) = some (r1, r2) := H
     have A20 := Ae_q A200
     clear A200
     have H' := Ae_q H
     clear H
     try go_wp2
     replace HO_6 := Ae_q (rD_q HO_6.out)
     replace BK292 := Ae_q (bW_q BK292.out)
     replace HB := Ae_q (bD_q HB.out)
     have p298 : 0 ≤ (x7_2 : Int) := oD_q (by assumption)
     have q298 : x7_2 < (l0.length : Int) := oD_q (by assumption)
     obtain ⟨ad298, A298_3, c298_3, e298, hx298_0, hx298_1, hx298_2, hx298_3, hl298_3, hi298_3⟩ := at_T63 HR0.out x7_2 p298 q298
     have hw298_3 := hx298_3
     have hw298_2 := hx298_2
     have hw298_1 := hx298_1
     have hw298_0 := hx298_0
     cases e298
     replace hx298_0 := cel HB.out hx298_0
     replace hx298_1 := cel HB.out hx298_1
     replace hx298_2 := cel HB.out hx298_2
     replace hx298_3 := cel HB.out hx298_3
     have HR298_3 := Ae_q hi298_3
     have HC298_3 := Ae_q hl298_3
     clear hi298_3 hl298_3
     replace p298 := eq_true p298
     replace q298 := eq_true q298
     refine start_ (n := 7) (S := fun w' => w'.cell? ⟨gb292, 0, none⟩ = some (.int .i64 a1_0) ∧ w'.cell? ⟨gb292, 1, none⟩ = some (.slice A1_1 l1_1.length c1_1) ∧ w'.cell? (ad298.add ((x7_2).toNat * 4)) = some (.int .i64 ((rd_T63 l0 x7_2).f0)) ∧ w'.cell? ⟨(ad298.add ((x7_2).toNat * 4)).block, (ad298.add ((x7_2).toNat * 4)).off + 1, none⟩ = some (.int .i64 ((rd_T63 l0 x7_2).f1)) ∧ w'.cell? ⟨(ad298.add ((x7_2).toNat * 4)).block, (ad298.add ((x7_2).toNat * 4)).off + 2, none⟩ = some (.int .i64 ((rd_T63 l0 x7_2).f2)) ∧ w'.cell? ⟨(ad298.add ((x7_2).toNat * 4)).block, (ad298.add ((x7_2).toNat * 4)).off + 3, none⟩ = some (.slice A298_3 ((rd_T63 l0 x7_2).f3).length c298_3)) (ds := []) #[false, false, false, false, false, false, false] m10_q rfl rfl ⟨(bC_q BK292.out 0).trans rfl, (bC_q BK292.out 1).trans rfl, (cel HB.out hw298_0), (cel HB.out hw298_1), (cel HB.out hw298_2), (cel HB.out hw298_3)⟩ (fun hHeld => ?_)
     generalize wr.drew = w21 at HO_6 BK292 HB HR298_3 hx298_0 hx298_1 hx298_2 hx298_3 hHeld ⊢
     refine pure_ (i := 0) (N := some 25) (v := ?_) (a' := ?_) #[true, false, false, false, false, false, false] rfl rfl m10_q (fun _ _ _ h => h) (Or.inl ⟨by rfl, ?_⟩) ?_ ?_
     rotate_left
     ·intro w'
      go_simp
      with_reducible rfl
     rotate_left
     ·simp only [pS_q]
      rfl
     refine pure_ (i := 1) (N := some 26) (v := ?_) (a' := ?_) #[true, true, false, false, false, false, false] rfl rfl m10_q (fun _ _ _ h => h) (Or.inl ⟨by rfl, ?_⟩) ?_ ?_
     rotate_left
     ·intro w'
      go_simp
      with_reducible rfl
     rotate_left
     ·simp only [pS_q]
      rfl
     refine pure_ (i := 2) (N := some 27) (v := ?_) (a' := ?_) #[true, true, true, false, false, false, false] rfl rfl m10_q (fun _ _ _ h => h) (Or.inl ⟨by rfl, ?_⟩) ?_ ?_
     rotate_left
     ·intro w'
      go_simp
      with_reducible rfl
     rotate_left
     ·simp only [pS_q]
      rfl
     refine take_ (i := 3) (N := some 28) (v := ?_) (a' := ?_) #[true, true, true, true, false, false, false] rfl rfl m10_q (fun _ _ _ h => h) (Or.inl ⟨by rfl, ?_⟩) hHeld ?_ ?_
     rotate_left
     ·rintro w' ⟨s0, s1, s2, s3, s4, s5⟩
      go_simp
      with_reducible rfl
     rotate_left
     ·simp only [pS_q]
      rfl
     refine take_ (i := 4) (N := some 29) (v := ?_) (a' := ?_) #[true, true, true, true, true, false, false] rfl rfl m10_q (fun _ _ _ h => h) (Or.inl ⟨by rfl, ?_⟩) hHeld ?_ ?_
     rotate_left
     ·rintro w' ⟨s0, s1, s2, s3, s4, s5⟩
      go_simp
      with_reducible rfl
     rotate_left
     ·simp only [pS_q]
      rfl
     refine one_ (i := 5) (N := some 30) #[true, true, true, true, true, true, false] rfl rfl m10_q (by decide) (fun K hK => ?_)
     refine goes_ Try.func45 m10_q rfl #[.agg #[.int .i64 ((rd_T63 l0 x7_2).f0), .int .i64 ((rd_T63 l0 x7_2).f1), .int .i64 ((rd_T63 l0 x7_2).f2), .slice A298_3 ((rd_T63 l0 x7_2).f3).length c298_3], .agg #[.int .i64 a1_0, .slice A1_1 l1_1.length c1_1]] (by rfl) rfl rfl m0_q ?_
     with_reducible refine (spec_l32Alone.calls ((rd_T63 l0 x7_2).f0) ((rd_T63 l0 x7_2).f1) ((rd_T63 l0 x7_2).f2) _ _ ((rd_T63 l0 x7_2).f3) a1_0 _ _ l1_1 true _ ?side1 ?side2 ?side3 ?side4 A18.out).mono ?_
     (case side1 => exact cup (cB_q HR298_3.out HB.out))
     (case side2 => exact HC298_3.out)
     (case side3 => exact m31_q)
     (case side4 => exact m65_q)
     rintro e w' ⟨rfl, hb⟩
     refine ⟨_, rfl, ?_⟩
     replace HO_6 := Ae_q (rO_q (rup HO_6.out) hb)
     replace BK292 := Ae_q (bB_q (g := gb292) (o := .cells #[.int .i64 a1_0, .slice A1_1 l1_1.length c1_1] 43 (0, 0)) (bup BK292.out) hb)
     replace HB := Ae_q (bT_q m1_q hb)
     (try clear hb)
     (try clear hb2)
     (try clear hk)
     (try clear hi)
     refine hK.out _ _ ⟨(bC_q BK292.out 0).trans rfl, (bC_q BK292.out 1).trans rfl, (cel HB.out hw298_0), (cel HB.out hw298_1), (cel HB.out hw298_2), (cel HB.out hw298_3)⟩ (fun hHeld => ?_)
     clear hK K
     refine nJ_q ?_
     refine pure_ (i := 6) (N := some 31) (v := ?_) (a' := ?_) #[true, true, true, true, true, true, true] rfl rfl m10_q (fun _ _ _ h => h) (Or.inl ⟨by rfl, ?_⟩) ?_ ?_
     rotate_left
     ·intro w'
      go_simp
      with_reducible rfl
     rotate_left
     ·simp only [pS_q]
      rfl
     refine done_ m10_q ?_
     obtain ⟨Ao23, co23, eo23⟩ := rS_q HO_6.out
     subst eo23
     try go_wp2_with (first | ((with_reducible refine gC_q (f := 46) rfl ?_); refine gL_q (some 36) rfl rfl Try.func46 m10_q rfl #[.slice (some ad298) l0.length c0, .slice Ao23 x6_2.length co23, .int .i64 x7_2] rfl m0_q ?_; (with_reducible refine (spec_l32After.calls k2 _ _ l0 _ _ x6_2 x7_2 t303 _ ?side1 ?side2 ?side3 ?side4 A20.out).mono ?_); (case side1 => exact m23_q); (case side2 => exact m56_q); (case side3 => exact m57_q); (case side4 => exact m87_q); rintro e w' ⟨rfl, hb⟩; refine ⟨_, rfl, ?_⟩; replace HO_6 := Ae_q (rO_q (rup HO_6.out) hb); replace BK292 := Ae_q (bB_q (g := gb292) (o := .cells #[.int .i64 a1_0, .slice A1_1 l1_1.length c1_1] 43 (0, 0)) (bup BK292.out) hb); replace HB := Ae_q (bT_q m1_q hb); (try clear hb); (try clear hb2); (try clear hk); (try clear hi)))
     go_loopg [8] k2 (fun kq v8 w' => ∃ (x8_3 : Int), v8 = .int .i64 x8_3 ∧ Aside0 (spec_PlanMake.l1 kq l0 x6_2 x7_2 x8_3 a1_0 l1_1 = some (r1, r2)) ∧ Aside0 (kq ≤ k2) ∧ Aside0 (Kd.R kI_q 3 w' w.heap.size (fun _ => True) (.slice Ao23 x6_2.length co23) x6_2) ∧ Aside0 (w'.heap[gb292]? = some (.cells #[.int .i64 a1_0, (.slice A1_1 l1_1.length c1_1)] 43 (0, 0))) ∧ Aside0 (Below w.heap.size w w'))
     case atStart => exact ⟨(t303), m4_q, H', ⟨nR_q _⟩, ⟨rup HO_6.out⟩, ⟨bup BK292.out⟩, ⟨m1_q⟩⟩
     case round =>
      clear H'
      try clear c1
      try clear c2
      try clear p2
      try clear q2
      try clear hx2
      try clear c4
      try clear c8
      try clear c15
      try clear c16
      try clear c16b0
      try clear c17
      try clear c17b0
      try clear c19
      try clear c22
      try clear hcz10_0
      try clear hcz10_1
      try clear hcz13_0
      try clear hcz13_1
      try clear hfz10_0
      try clear hfz10_1
      try clear hfz13_0
      try clear hfz13_1
      try clear hx298_0
      try clear hx298_1
      try clear hx298_2
      try clear hx298_3
      try clear p2
      try clear p298
      try clear q298
      obtain ⟨x8_3, rfl, HA, HK3, HO_6, BK292, HB⟩ := hrel
      cases gk with
      | zero => exact absurd HA.out (by simp [spec_PlanMake.l1])
      | succ k3 =>
       have H := HA.out
       clear HA
       simp only [spec_PlanMake.l1] at H
       obtain ⟨y304, hy304⟩ : ∃ y_ : List Int, y_ = (([] : List Int)) := ⟨_, rfl⟩
       replace H : (if y304.length + x6_2.length < 17592186044416 then ((some (y304 ++ x6_2 : List Int)).bind fun y307 => ((some (([x8_3] : List Int) : List Int)).bind fun y310 => (if y307.length + y310.length < 17592186044416 then ((spec_l32Room.f k3 l0 a1_0 l1_1 (y307 ++ y310)).bind fun t316 => (if t316 = true then ((some (([x8_3] : List Int) : List Int)).bind fun y317 => (if x6_2.length + y317.length < 17592186044416 then (spec_PlanMake.l0 k3 l0 (x6_2 ++ y317) (wrap64 (x7_2 + 1)) a1_0 l1_1) else (none))) else (spec_PlanMake.l1 k3 l0 x6_2 x7_2 (wrap64 (x8_3 + 1)) a1_0 l1_1))) else (none)))) else (none)) = some (r1, r2) := by first | (rw [hy304]; with_reducible exact H) | (have H2_ := (oS_q _ _).symm.trans H; rw [hy304]; with_reducible exact H2_) | (have H2_ := (oS_q _ _).symm.trans H; with_reducible exact H2_) | with_reducible exact H | (rw [hy304]; exact H) | exact H
       have Ny304 := Ae_q hy304
       clear hy304
       by_cases c25 : y304.length + x6_2.length < 17592186044416
       rotate_left
       ·rw [if_neg c25] at H
        exact absurd H (by simp)
       rw [if_pos c25] at H
       have LMc25 := Ae_q c25
       clear c25
       obtain ⟨y307, hy307⟩ : ∃ y_ : List Int, y_ = (y304 ++ x6_2) := ⟨_, rfl⟩
       replace H : ((some (([x8_3] : List Int) : List Int)).bind fun y310 => (if y307.length + y310.length < 17592186044416 then ((spec_l32Room.f k3 l0 a1_0 l1_1 (y307 ++ y310)).bind fun t316 => (if t316 = true then ((some (([x8_3] : List Int) : List Int)).bind fun y317 => (if x6_2.length + y317.length < 17592186044416 then (spec_PlanMake.l0 k3 l0 (x6_2 ++ y317) (wrap64 (x7_2 + 1)) a1_0 l1_1) else (none))) else (spec_PlanMake.l1 k3 l0 x6_2 x7_2 (wrap64 (x8_3 + 1)) a1_0 l1_1))) else (none))) = some (r1, r2) := by first | (rw [hy307]; with_reducible exact H) | (have H2_ := (oS_q _ _).symm.trans H; rw [hy307]; with_reducible exact H2_) | (have H2_ := (oS_q _ _).symm.trans H; with_reducible exact H2_) | with_reducible exact H | (rw [hy307]; exact H) | exact H
       have Ny307 := Ae_q hy307
       clear hy307
       obtain ⟨y310, hy310⟩ : ∃ y_ : List Int, y_ = (([x8_3] : List Int)) := ⟨_, rfl⟩
       replace H : (if y307.length + y310.length < 17592186044416 then ((spec_l32Room.f k3 l0 a1_0 l1_1 (y307 ++ y310)).bind fun t316 => (if t316 = true then ((some (([x8_3] : List Int) : List Int)).bind fun y317 => (if x6_2.length + y317.length < 17592186044416 then (spec_PlanMake.l0 k3 l0 (x6_2 ++ y317) (wrap64 (x7_2 + 1)) a1_0 l1_1) else (none))) else (spec_PlanMake.l1 k3 l0 x6_2 x7_2 (wrap64 (x8_3 + 1)) a1_0 l1_1))) else (none)) = some (r1, r2) := by first | (rw [hy310]; with_reducible exact H) | (have H2_ := (oS_q _ _).symm.trans H; rw [hy310]; with_reducible exact H2_) | (have H2_ := (oS_q _ _).symm.trans H; with_reducible exact H2_) | with_reducible exact H | (rw [hy310]; exact H) | exact H
       have Ny310 := Ae_q hy310
       clear hy310
       by_cases c26 : y307.length + y310.length < 17592186044416
       rotate_left
       ·rw [if_neg c26] at H
        exact absurd H (by simp)
       rw [if_pos c26] at H
       have LMc26 := Ae_q c26
       clear c26
       obtain ⟨y313, hy313⟩ : ∃ y_ : List Int, y_ = (y307 ++ y310) := ⟨_, rfl⟩
       replace H : ((spec_l32Room.f k3 l0 a1_0 l1_1 y313).bind fun t316 => (if t316 = true then ((some (([x8_3] : List Int) : List Int)).bind fun y317 => (if x6_2.length + y317.length < 17592186044416 then (spec_PlanMake.l0 k3 l0 (x6_2 ++ y317) (wrap64 (x7_2 + 1)) a1_0 l1_1) else (none))) else (spec_PlanMake.l1 k3 l0 x6_2 x7_2 (wrap64 (x8_3 + 1)) a1_0 l1_1))) = some (r1, r2) := by first | (rw [hy313]; with_reducible exact H) | (have H2_ := (oS_q _ _).symm.trans H; rw [hy313]; with_reducible exact H2_) | (have H2_ := (oS_q _ _).symm.trans H; with_reducible exact H2_) | with_reducible exact H | (rw [hy313]; exact H) | exact H
       have Ny313 := Ae_q hy313
       clear hy313
       replace H := oB_q.mp H
       obtain ⟨t316, A270, H⟩ := H
       replace H : (if t316 = true then ((some (([x8_3] : List Int) : List Int)).bind fun y317 => (if x6_2.length + y317.length < 17592186044416 then (spec_PlanMake.l0 k3 l0 (x6_2 ++ y317) (wrap64 (x7_2 + 1)) a1_0 l1_1) else (none))) else (spec_PlanMake.l1 k3 l0 x6_2 x7_2 (wrap64 (x8_3 + 1)) a1_0 l1_1)) = some (r1, r2) := H
       have A27 := Ae_q A270
       clear A270
       by_cases c28 : t316 = true
       rotate_left
       ·replace c28 := fM_q.mpr c28
        subst c28
        have H1 : (spec_PlanMake.l1 k3 l0 x6_2 x7_2 (wrap64 (x8_3 + 1)) a1_0 l1_1) = some (r1, r2) := by rw [if_neg (show ¬ (false = true) by decide)] at H; exact H
        clear H
        have H := H1
        clear H1
        have H' := Ae_q H
        clear H
        try go_wp2
        replace HO_6 := Ae_q (rD_q HO_6.out)
        replace BK292 := Ae_q (bW_q BK292.out)
        replace HB := Ae_q (bD_q HB.out)
        refine start_ (n := 10) (S := fun w' => w'.cell? ⟨gb292, 0, none⟩ = some (.int .i64 a1_0) ∧ w'.cell? ⟨gb292, 1, none⟩ = some (.slice A1_1 l1_1.length c1_1)) (ds := []) #[false, false, false, false, false, false, false, false, false, false] m10_q rfl rfl ⟨(bC_q BK292.out 0).trans rfl, (bC_q BK292.out 1).trans rfl⟩ (fun hHeld => ?_); refine with_tabW spec_PlanMake.tab10 spec_PlanMake.bits10 (fun HT_ HW_ => ?_)
        generalize wr.drew = w45 at HO_6 BK292 HB hHeld ⊢
        refine pJ HT_ 0 37 rfl rfl ?_
        refine pJ HT_ 3 40 rfl rfl ?_
        refine pJ HT_ 5 42 rfl rfl ?_
        refine take_ (i := 1) (N := some 38) (v := ?_) (a' := ?_) #[true, true, false, true, false, true, false, false, false, false] rfl rfl (take_ofW HT_.out HW_.out m10_q) (fun _ _ _ h => h) (Or.inl ⟨by rfl, ?_⟩) hHeld ?_ ?_
        rotate_left
        ·rintro w' ⟨s0, s1⟩
         go_simp
         with_reducible rfl
        rotate_left
        ·simp only [pS_q]
         rfl
        refine join_ (σ := Value × Value × Value) 3 #[true, true, true, true, true, true, true, false, false, false] (fun s_ => [(39, s_.1), (41, s_.2.1), (43, s_.2.2)]) (fun s_ w' => (w'.cell? ⟨gb292, 0, none⟩ = some (.int .i64 a1_0) ∧ w'.cell? ⟨gb292, 1, none⟩ = some (.slice A1_1 l1_1.length c1_1)) ∧ (Kd.R kI_q 3 w' w.heap.size (fun k_ => some k_ ≠ (s_.2.2 : Value).ownBlock ∧ some k_ ≠ (.slice Ao23 x6_2.length co23 : Value).ownBlock) s_.2.1 y307) ∧ (Kd.R kI_q 3 w' w.heap.size (fun k_ => some k_ ≠ (s_.2.1 : Value).ownBlock ∧ some k_ ≠ (.slice Ao23 x6_2.length co23 : Value).ownBlock) s_.2.2 y310) ∧ (Kd.R kI_q 3 w' w.heap.size (fun k_ => some k_ ≠ (s_.2.1 : Value).ownBlock ∧ some k_ ≠ (s_.2.2 : Value).ownBlock) (.slice Ao23 x6_2.length co23) x6_2) ∧ (w'.heap[gb292]? = some (.cells #[.int .i64 a1_0, .slice A1_1 l1_1.length c1_1] 43 (0, 0))) ∧ (Below w.heap.size w w')) ?_ ?_
        rotate_left
        ·intro hCont
         refine two_ (i := 2) (j := 6) (Ni := some 39) (Nj := some 43) #[true, true, true, true, false, true, false, false, false, false] #[true, true, false, true, false, true, true, false, false, false] rfl rfl rfl rfl (two_of HT_.out m10_q) (by decide) (by decide) (fun K hK => ?_) (fun K hK => ?_)
         ·skip
          refine rI_q kI_q _ 3 ?hg (N := 39) ?hd (xs := ([] : List Int)) (inner := []) (ok := fun _ => True) (okp := fun _ => True) ?hr ?hp (fun _ hk => hk) trivial (bR_q _ _) (nR_q _) (by simp) ?_; (case hd => rfl); (case hg => rfl); (case hr => exact m6_q); (case hp => exact m92_q)
          intro v305 w46 ho47 hb hg_ hnew_
          clear hg_ hnew_
          (first | rw [← Ny304.out] at ho47 | (simp only [Int.reduceToNat] at ho47; rw [← Ny304.out] at ho47))
          have HO306 := Ae_q (rL_q (rW_q ho47 (rT_q (rup HO_6.out))) (bZ_q m1_q))
          replace HO_6 := Ae_q (rE_q (rup HO_6.out) (rB_q ho47) hb)
          replace BK292 := Ae_q (bB_q (g := gb292) (o := .cells #[.int .i64 a1_0, .slice A1_1 l1_1.length c1_1] 43 (0, 0)) (bup BK292.out) hb)
          replace HB := Ae_q (bT_q m1_q hb)
          clear hb ho47
          refine hK.out _ _ ⟨(bC_q BK292.out 0).trans rfl, (bC_q BK292.out 1).trans rfl⟩ (fun hHeld => ?_)
          clear hK K
          refine nJ_q ?_
          refine two_ (i := 4) (j := 6) (Ni := some 41) (Nj := some 43) #[true, true, true, true, true, true, false, false, false, false] #[true, true, true, true, false, true, true, false, false, false] rfl rfl rfl rfl (two_of HT_.out m10_q) (by decide) (by decide) (fun K hK => ?_) (fun K hK => ?_)
          ·skip
           refine rP_q kI_q (w0 := w) w.heap.size (by rfl) (.tmp 39) (.tmp 40) 23 3 (.int .i64 0) 8 rfl Try.underlying23 info3 rfl (by decide) (by omega) v305 y304 x6_2 _ _ _ (fun k_ => some k_ ≠ (.slice Ao23 x6_2.length co23 : Value).ownBlock) (fun _ => False) rfl rfl ?aO ?aR (fun _ _ h => h) (fun _ h => h.elim) ?aF ?aB ?aS ?aL ?_
           (case aR => exact m57_q)
           (case aB => exact m1_q)
           (case aF => exact (fun k_ hk => Kd.fresh' (rT_q (rup HO_6.out)) k_ hk))
           (case aO => exact m81_q)
           (case aS => exact m100_q)
           (case aL => exact m94_q)
           intro v308 w48 ho hb hg hat
           rw [← Ny307.out] at ho
           replace HO_6 := Ae_q (rF_q (ok := (fun _ => True)) (rup HO_6.out) hg hat)
           replace BK292 := Ae_q (bG_q (g := gb292) (o := .cells #[.int .i64 a1_0, .slice A1_1 l1_1.length c1_1] 43 (0, 0)) (bup BK292.out) hg (Kd.R_ne HO306.out BK292.out (by decide)))
           replace HB := Ae_q (hb)
           have HO309 := Ae_q (ho)
           clear HO306
           clear ho hb hg hat
           refine hK.out _ _ ⟨(bC_q BK292.out 0).trans rfl, (bC_q BK292.out 1).trans rfl⟩ (fun hHeld => ?_)
           clear hK K
           refine nJ_q ?_
           refine one_ (i := 6) (N := some 43) #[true, true, true, true, true, true, true, false, false, false] rfl rfl (one_of HT_.out m10_q) (by decide) (fun K hK => ?_)
           refine rI_q kI_q _ 3 ?hg (N := 43) ?hd (xs := ([x8_3] : List Int)) (inner := [.int .i64 x8_3]) (ok := fun _ => True) (okp := fun _ => True) ?hr ?hp (fun _ hk => hk) trivial (bR_q _ _) (nR_q _) (by simp) ?_; (case hd => rfl); (case hg => rfl); (case hr => exact m6_q); (case hp => exact m35_q)
           intro v311 w49 ho50 hb hg_ hnew_
           clear hg_ hnew_
           (first | rw [← Ny310.out] at ho50 | (simp only [Int.reduceToNat] at ho50; rw [← Ny310.out] at ho50))
           have HO312 := Ae_q (rL_q (rW_q (rW_q ho50 (rT_q (rup HO_6.out))) (rT_q (rup HO309.out))) (bZ_q m1_q))
           replace HO_6 := Ae_q (rE_q (rup HO_6.out) (rB_q ho50) hb)
           replace HO309 := Ae_q (rE_q (rup HO309.out) (rB_q ho50) hb)
           replace BK292 := Ae_q (bB_q (g := gb292) (o := .cells #[.int .i64 a1_0, .slice A1_1 l1_1.length c1_1] 43 (0, 0)) (bup BK292.out) hb)
           replace HB := Ae_q (bT_q m1_q hb)
           clear hb ho50
           refine hK.out _ _ ⟨(bC_q BK292.out 0).trans rfl, (bC_q BK292.out 1).trans rfl⟩ (fun hHeld => ?_)
           clear hK K
           refine nJ_q ?_
           exact norm_ m47_q (hCont (v305, v308, v311) _ ⟨hHeld, m22_q, m74_q, m44_q, (bup BK292.out), m1_q⟩)
          skip
          refine rI_q kI_q _ 3 ?hg (N := 43) ?hd (xs := ([x8_3] : List Int)) (inner := [.int .i64 x8_3]) (ok := fun _ => True) (okp := fun _ => True) ?hr ?hp (fun _ hk => hk) trivial (bR_q _ _) (nR_q _) (by simp) ?_; (case hd => rfl); (case hg => rfl); (case hr => exact m6_q); (case hp => exact m35_q)
          intro v311 w48 ho49 hb hg_ hnew_
          clear hg_ hnew_
          (first | rw [← Ny310.out] at ho49 | (simp only [Int.reduceToNat] at ho49; rw [← Ny310.out] at ho49))
          have HO312 := Ae_q (rL_q (rW_q (rW_q ho49 (rT_q (rup HO_6.out))) (rT_q (rup HO306.out))) (bZ_q m1_q))
          replace HO_6 := Ae_q (rE_q (rup HO_6.out) (rB_q ho49) hb)
          replace HO306 := Ae_q (rE_q (rup HO306.out) (rB_q ho49) hb)
          replace BK292 := Ae_q (bB_q (g := gb292) (o := .cells #[.int .i64 a1_0, .slice A1_1 l1_1.length c1_1] 43 (0, 0)) (bup BK292.out) hb)
          replace HB := Ae_q (bT_q m1_q hb)
          clear hb ho49
          refine hK.out _ _ ⟨(bC_q BK292.out 0).trans rfl, (bC_q BK292.out 1).trans rfl⟩ (fun hHeld => ?_)
          clear hK K
          refine nJ_q ?_
          refine one_ (i := 4) (N := some 41) #[true, true, true, true, true, true, true, false, false, false] rfl rfl (one_of HT_.out m10_q) (by decide) (fun K hK => ?_)
          refine rP_q kI_q (w0 := w) w.heap.size (by rfl) (.tmp 39) (.tmp 40) 23 3 (.int .i64 0) 8 rfl Try.underlying23 info3 rfl (by decide) (by omega) v305 y304 x6_2 _ _ _ (fun k_ => some k_ ≠ (.slice Ao23 x6_2.length co23 : Value).ownBlock ∧ some k_ ≠ (v311 : Value).ownBlock) (fun _ => False) rfl rfl ?aO ?aR (fun _ _ h => h) (fun _ h => h.elim) ?aF ?aB ?aS ?aL ?_
          (case aR => exact m57_q)
          (case aB => exact m1_q)
          (case aF => exact m36_q)
          (case aO => exact m42_q)
          (case aS => exact m100_q)
          (case aL => exact m94_q)
          intro v308 w50 ho hb hg hat
          rw [← Ny307.out] at ho
          replace HO_6 := Ae_q (rF_q (ok := (fun k_ => some k_ ≠ (v311 : Value).ownBlock)) m78_q hg hat)
          replace BK292 := Ae_q (bG_q (g := gb292) (o := .cells #[.int .i64 a1_0, .slice A1_1 l1_1.length c1_1] 43 (0, 0)) (bup BK292.out) hg (Kd.R_ne HO306.out BK292.out (by decide)))
          replace HO312 := Ae_q (rF_q (ok := (fun k_ => some k_ ≠ (.slice Ao23 x6_2.length co23 : Value).ownBlock)) m43_q hg hat)
          replace HB := Ae_q (hb)
          have HO309 := Ae_q (ho)
          clear HO306
          clear ho hb hg hat
          refine hK.out _ _ ⟨(bC_q BK292.out 0).trans rfl, (bC_q BK292.out 1).trans rfl⟩ (fun hHeld => ?_)
          clear hK K
          refine nJ_q ?_
          exact norm_ m47_q (hCont (v305, v308, v311) _ ⟨hHeld, m22_q, m28_q, m29_q, (bup BK292.out), m1_q⟩)
         skip
         refine rI_q kI_q _ 3 ?hg (N := 43) ?hd (xs := ([x8_3] : List Int)) (inner := [.int .i64 x8_3]) (ok := fun _ => True) (okp := fun _ => True) ?hr ?hp (fun _ hk => hk) trivial (bR_q _ _) (nR_q _) (by simp) ?_; (case hd => rfl); (case hg => rfl); (case hr => exact m6_q); (case hp => exact m35_q)
         intro v311 w46 ho47 hb hg_ hnew_
         clear hg_ hnew_
         (first | rw [← Ny310.out] at ho47 | (simp only [Int.reduceToNat] at ho47; rw [← Ny310.out] at ho47))
         have HO312 := Ae_q (rL_q (rW_q ho47 (rT_q (rup HO_6.out))) (bZ_q m1_q))
         replace HO_6 := Ae_q (rE_q (rup HO_6.out) (rB_q ho47) hb)
         replace BK292 := Ae_q (bB_q (g := gb292) (o := .cells #[.int .i64 a1_0, .slice A1_1 l1_1.length c1_1] 43 (0, 0)) (bup BK292.out) hb)
         replace HB := Ae_q (bT_q m1_q hb)
         clear hb ho47
         refine hK.out _ _ ⟨(bC_q BK292.out 0).trans rfl, (bC_q BK292.out 1).trans rfl⟩ (fun hHeld => ?_)
         clear hK K
         refine nJ_q ?_
         refine one_ (i := 2) (N := some 39) #[true, true, true, true, false, true, true, false, false, false] rfl rfl (one_of HT_.out m10_q) (by decide) (fun K hK => ?_)
         refine rI_q kI_q _ 3 ?hg (N := 39) ?hd (xs := ([] : List Int)) (inner := []) (ok := fun _ => True) (okp := fun _ => True) ?hr ?hp (fun _ hk => hk) trivial (bR_q _ _) (nR_q _) (by simp) ?_; (case hd => rfl); (case hg => rfl); (case hr => exact m6_q); (case hp => exact m92_q)
         intro v305 w48 ho49 hb hg_ hnew_
         clear hg_ hnew_
         (first | rw [← Ny304.out] at ho49 | (simp only [Int.reduceToNat] at ho49; rw [← Ny304.out] at ho49))
         have HO306 := Ae_q (rL_q (rW_q (rW_q ho49 (rT_q (rup HO_6.out))) (rT_q (rup HO312.out))) (bZ_q m1_q))
         replace HO_6 := Ae_q (rE_q (rup HO_6.out) (rB_q ho49) hb)
         replace HO312 := Ae_q (rE_q (rup HO312.out) (rB_q ho49) hb)
         replace BK292 := Ae_q (bB_q (g := gb292) (o := .cells #[.int .i64 a1_0, .slice A1_1 l1_1.length c1_1] 43 (0, 0)) (bup BK292.out) hb)
         replace HB := Ae_q (bT_q m1_q hb)
         clear hb ho49
         refine hK.out _ _ ⟨(bC_q BK292.out 0).trans rfl, (bC_q BK292.out 1).trans rfl⟩ (fun hHeld => ?_)
         clear hK K
         refine nJ_q ?_
         refine one_ (i := 4) (N := some 41) #[true, true, true, true, true, true, true, false, false, false] rfl rfl (one_of HT_.out m10_q) (by decide) (fun K hK => ?_)
         refine rP_q kI_q (w0 := w) w.heap.size (by rfl) (.tmp 39) (.tmp 40) 23 3 (.int .i64 0) 8 rfl Try.underlying23 info3 rfl (by decide) (by omega) v305 y304 x6_2 _ _ _ (fun k_ => some k_ ≠ (.slice Ao23 x6_2.length co23 : Value).ownBlock ∧ some k_ ≠ (v311 : Value).ownBlock) (fun _ => False) rfl rfl ?aO ?aR (fun _ _ h => h) (fun _ h => h.elim) ?aF ?aB ?aS ?aL ?_
         (case aR => exact m57_q)
         (case aB => exact m1_q)
         (case aF => exact m36_q)
         (case aO => exact m42_q)
         (case aS => exact m100_q)
         (case aL => exact m94_q)
         intro v308 w50 ho hb hg hat
         rw [← Ny307.out] at ho
         replace HO_6 := Ae_q (rF_q (ok := (fun k_ => some k_ ≠ (v311 : Value).ownBlock)) m44_q hg hat)
         replace BK292 := Ae_q (bG_q (g := gb292) (o := .cells #[.int .i64 a1_0, .slice A1_1 l1_1.length c1_1] 43 (0, 0)) (bup BK292.out) hg (Kd.R_ne HO306.out BK292.out (by decide)))
         replace HO312 := Ae_q (rF_q (ok := (fun k_ => some k_ ≠ (.slice Ao23 x6_2.length co23 : Value).ownBlock)) m43_q hg hat)
         replace HB := Ae_q (hb)
         have HO309 := Ae_q (ho)
         clear HO306
         clear ho hb hg hat
         refine hK.out _ _ ⟨(bC_q BK292.out 0).trans rfl, (bC_q BK292.out 1).trans rfl⟩ (fun hHeld => ?_)
         clear hK K
         refine nJ_q ?_
         exact norm_ m47_q (hCont (v305, v308, v311) _ ⟨hHeld, m22_q, m28_q, m29_q, (bup BK292.out), m1_q⟩)
        rintro ⟨v305, v308, v311⟩ w51 ⟨hS_, h0_, h1_, h2_, h3_, h4_⟩
        have n0_ : Aside0 (Kd.R kI_q 3 w51 w.heap.size (fun k_ => some k_ ≠ (v311 : Value).ownBlock ∧ some k_ ≠ (.slice Ao23 x6_2.length co23 : Value).ownBlock) v308 y307) := ⟨h0_⟩
        have n1_ : Aside0 (Kd.R kI_q 3 w51 w.heap.size (fun k_ => some k_ ≠ (v308 : Value).ownBlock ∧ some k_ ≠ (.slice Ao23 x6_2.length co23 : Value).ownBlock) v311 y310) := ⟨h1_⟩
        have n2_ : Aside0 (Kd.R kI_q 3 w51 w.heap.size (fun k_ => some k_ ≠ (v308 : Value).ownBlock ∧ some k_ ≠ (v311 : Value).ownBlock) (.slice Ao23 x6_2.length co23) x6_2) := ⟨h2_⟩
        have n3_ : Aside0 (w51.heap[gb292]? = some (.cells #[.int .i64 a1_0, .slice A1_1 l1_1.length c1_1] 43 (0, 0))) := ⟨h3_⟩
        have n4_ : Aside0 (Below w.heap.size w w51) := ⟨h4_⟩
        clear HO_6
        clear BK292
        clear HB
        clear h0_ h1_ h2_ h3_ h4_
        have HO309 := n0_
        have HO312 := n1_
        have HO_6 := n2_
        have BK292 := n3_
        have HB := n4_
        clear n0_ n1_ n2_ n3_ n4_
        have hHeld : w51.cell? ⟨gb292, 0, none⟩ = some (.int .i64 a1_0) ∧ w51.cell? ⟨gb292, 1, none⟩ = some (.slice A1_1 l1_1.length c1_1) := hS_
        obtain ⟨Ao53, co53, eo53⟩ := rS_q HO312.out
        (first | subst eo53 | (injection eo53 with f1_ f2_ f3_; have f4_ := f1_.symm; have f5_ := f3_.symm; clear f1_ f2_ f3_; subst f4_; subst f5_))
        refine norm_ (a' := ?_) ?_ ?_
        rotate_left
        ·simp only [putAll, Act.put, sA_q, sZ_q, sS_q]
         rfl
        refine one_ (i := 7) (N := some 44) #[true, true, true, true, true, true, true, true, false, false] rfl rfl (one_of HT_.out m10_q) (by decide) (fun K hK => ?_)
        refine rP_q kI_q (w0 := w) w.heap.size (by rfl) (.tmp 41) (.tmp 43) 23 3 (.int .i64 0) 8 rfl Try.underlying23 info3 rfl (by decide) (by omega) v308 y307 y310 _ _ _ (fun k_ => some k_ ≠ (.slice Ao23 x6_2.length co23 : Value).ownBlock ∧ some k_ ≠ (.slice Ao53 y310.length co53 : Value).ownBlock) (fun _ => False) rfl rfl ?aO ?aR (fun _ _ h => h) (fun _ h => h.elim) ?aF ?aB ?aS ?aL ?_
        (case aR => exact cup (rR_q HO312.out).2.2)
        (case aB => exact m1_q)
        (case aF => exact m36_q)
        (case aO => exact m22_q)
        (case aS => exact m100_q)
        (case aL => have := LMc26.out; omega)
        intro v314 w52 ho hb hg hat
        rw [← Ny313.out] at ho
        replace HO_6 := Ae_q (rF_q (ok := (fun k_ => some k_ ≠ (.slice Ao53 y310.length co53 : Value).ownBlock)) m29_q hg hat)
        replace BK292 := Ae_q (bG_q (g := gb292) (o := .cells #[.int .i64 a1_0, .slice A1_1 l1_1.length c1_1] 43 (0, 0)) (bup BK292.out) hg (Kd.R_ne HO309.out BK292.out (by decide)))
        replace HO312 := Ae_q (rF_q (ok := (fun k_ => some k_ ≠ (.slice Ao23 x6_2.length co23 : Value).ownBlock)) m28_q hg hat)
        replace HB := Ae_q (hb)
        have HO315 := Ae_q (ho)
        clear HO309
        clear ho hb hg hat
        obtain ⟨Ao54, co54, eo54⟩ := rS_q HO315.out
        (first | subst eo54 | (injection eo54 with f1_ f2_ f3_; have f4_ := f1_.symm; have f5_ := f3_.symm; clear f1_ f2_ f3_; subst f4_; subst f5_))
        refine hK.out _ _ ⟨(bC_q BK292.out 0).trans rfl, (bC_q BK292.out 1).trans rfl⟩ (fun hHeld => ?_)
        clear hK K
        refine nJ_q ?_
        refine one_ (i := 8) (N := some 45) #[true, true, true, true, true, true, true, true, true, false] rfl rfl (one_of HT_.out m10_q) (by decide) (fun K hK => ?_)
        refine goes_ Try.func47 m10_q rfl #[.slice (some ad298) l0.length c0, .agg #[.int .i64 a1_0, .slice A1_1 l1_1.length c1_1], .slice Ao54 y313.length co54] (by rfl) rfl rfl m0_q ?_
        with_reducible refine (spec_l32Room.calls k3 _ _ l0 a1_0 _ _ l1_1 _ _ y313 false _ ?side1 ?side2 ?side3 ?side4 ?side5 ?side6 A27.out).mono ?_
        (case side1 => exact m23_q)
        (case side2 => exact m56_q)
        (case side3 => exact m31_q)
        (case side4 => exact m65_q)
        (case side5 => exact cup (rR_q HO315.out).2.2)
        (case side6 => exact (rR_q HO315.out).2.1)
        rintro e w' ⟨rfl, hb⟩
        refine ⟨_, rfl, ?_⟩
        replace HO_6 := Ae_q (rO_q (rup HO_6.out) hb)
        replace HO312 := Ae_q (rO_q (rup HO312.out) hb)
        replace HO315 := Ae_q (rO_q (rup HO315.out) hb)
        replace BK292 := Ae_q (bB_q (g := gb292) (o := .cells #[.int .i64 a1_0, .slice A1_1 l1_1.length c1_1] 43 (0, 0)) (bup BK292.out) hb)
        replace HB := Ae_q (bT_q m1_q hb)
        (try clear hb)
        (try clear hb2)
        (try clear hk)
        (try clear hi)
        refine hK.out _ _ ⟨(bC_q BK292.out 0).trans rfl, (bC_q BK292.out 1).trans rfl⟩ (fun hHeld => ?_)
        clear hK K
        refine nJ_q ?_
        refine pJ HT_ 9 46 rfl rfl ?_
        refine done_ (done_of HT_.out m10_q) ?_
        try go_wp2
        go_roundg k3
        case measure => have := HJ2.out; have := HK2.out; have := HK3.out; omega
        case rel => exact ⟨(wrap64 (x8_3 + 1)), m4_q, H', ⟨by have := HJ2.out; have := HK2.out; have := HK3.out; omega⟩, ⟨by (with_reducible repeat (first | apply rA_q | apply rN_q | apply rD_q)); exact rM_q HO_6.out (fun _ hk => trivial)⟩, ⟨bup BK292.out⟩, ⟨m1_q⟩⟩
       subst c28
       have H1 : ((some (([x8_3] : List Int) : List Int)).bind fun y317 => (if x6_2.length + y317.length < 17592186044416 then (spec_PlanMake.l0 k3 l0 (x6_2 ++ y317) (wrap64 (x7_2 + 1)) a1_0 l1_1) else (none))) = some (r1, r2) := by rw [if_pos rfl] at H; exact H
       clear H
       have H := H1
       clear H1
       obtain ⟨y317, hy317⟩ : ∃ y_ : List Int, y_ = (([x8_3] : List Int)) := ⟨_, rfl⟩
       replace H : (if x6_2.length + y317.length < 17592186044416 then (spec_PlanMake.l0 k3 l0 (x6_2 ++ y317) (wrap64 (x7_2 + 1)) a1_0 l1_1) else (none)) = some (r1, r2) := by first | (rw [hy317]; with_reducible exact H) | (have H2_ := (oS_q _ _).symm.trans H; rw [hy317]; with_reducible exact H2_) | (have H2_ := (oS_q _ _).symm.trans H; with_reducible exact H2_) | with_reducible exact H | (rw [hy317]; exact H) | exact H
       have Ny317 := Ae_q hy317
       clear hy317
       by_cases c29 : x6_2.length + y317.length < 17592186044416
       rotate_left
       ·rw [if_neg c29] at H
        exact absurd H (by simp)
       rw [if_pos c29] at H
       have LMc29 := Ae_q c29
       clear c29
       obtain ⟨y320, hy320⟩ : ∃ y_ : List Int, y_ = (x6_2 ++ y317) := ⟨_, rfl⟩
       replace H : (spec_PlanMake.l0 k3 l0 y320 (wrap64 (x7_2 + 1)) a1_0 l1_1) = some (r1, r2) := by first | (rw [hy320]; with_reducible exact H) | (have H2_ := (oS_q _ _).symm.trans H; rw [hy320]; with_reducible exact H2_) | (have H2_ := (oS_q _ _).symm.trans H; with_reducible exact H2_) | with_reducible exact H | (rw [hy320]; exact H) | exact H
       have Ny320 := Ae_q hy320
       clear hy320
       have H' := Ae_q H
       clear H
       try go_wp2
       replace HO_6 := Ae_q (rD_q HO_6.out)
       replace BK292 := Ae_q (bW_q BK292.out)
       replace HB := Ae_q (bD_q HB.out)
       refine start_ (n := 10) (S := fun w' => w'.cell? ⟨gb292, 0, none⟩ = some (.int .i64 a1_0) ∧ w'.cell? ⟨gb292, 1, none⟩ = some (.slice A1_1 l1_1.length c1_1)) (ds := []) #[false, false, false, false, false, false, false, false, false, false] m10_q rfl rfl ⟨(bC_q BK292.out 0).trans rfl, (bC_q BK292.out 1).trans rfl⟩ (fun hHeld => ?_); refine with_tabW spec_PlanMake.tab10 spec_PlanMake.bits10 (fun HT_ HW_ => ?_)
       generalize wr.drew = w30 at HO_6 BK292 HB hHeld ⊢
       refine pJ HT_ 0 37 rfl rfl ?_
       refine pJ HT_ 3 40 rfl rfl ?_
       refine pJ HT_ 5 42 rfl rfl ?_
       refine take_ (i := 1) (N := some 38) (v := ?_) (a' := ?_) #[true, true, false, true, false, true, false, false, false, false] rfl rfl (take_ofW HT_.out HW_.out m10_q) (fun _ _ _ h => h) (Or.inl ⟨by rfl, ?_⟩) hHeld ?_ ?_
       rotate_left
       ·rintro w' ⟨s0, s1⟩
        go_simp
        with_reducible rfl
       rotate_left
       ·simp only [pS_q]
        rfl
       refine join_ (σ := Value × Value × Value) 3 #[true, true, true, true, true, true, true, false, false, false] (fun s_ => [(39, s_.1), (41, s_.2.1), (43, s_.2.2)]) (fun s_ w' => (w'.cell? ⟨gb292, 0, none⟩ = some (.int .i64 a1_0) ∧ w'.cell? ⟨gb292, 1, none⟩ = some (.slice A1_1 l1_1.length c1_1)) ∧ (Kd.R kI_q 3 w' w.heap.size (fun k_ => some k_ ≠ (s_.2.2 : Value).ownBlock ∧ some k_ ≠ (.slice Ao23 x6_2.length co23 : Value).ownBlock) s_.2.1 y307) ∧ (Kd.R kI_q 3 w' w.heap.size (fun k_ => some k_ ≠ (s_.2.1 : Value).ownBlock ∧ some k_ ≠ (.slice Ao23 x6_2.length co23 : Value).ownBlock) s_.2.2 y310) ∧ (Kd.R kI_q 3 w' w.heap.size (fun k_ => some k_ ≠ (s_.2.1 : Value).ownBlock ∧ some k_ ≠ (s_.2.2 : Value).ownBlock) (.slice Ao23 x6_2.length co23) x6_2) ∧ (w'.heap[gb292]? = some (.cells #[.int .i64 a1_0, .slice A1_1 l1_1.length c1_1] 43 (0, 0))) ∧ (Below w.heap.size w w')) ?_ ?_
       rotate_left
       ·intro hCont
        refine two_ (i := 2) (j := 6) (Ni := some 39) (Nj := some 43) #[true, true, true, true, false, true, false, false, false, false] #[true, true, false, true, false, true, true, false, false, false] rfl rfl rfl rfl (two_of HT_.out m10_q) (by decide) (by decide) (fun K hK => ?_) (fun K hK => ?_)
        ·skip
         refine rI_q kI_q _ 3 ?hg (N := 39) ?hd (xs := ([] : List Int)) (inner := []) (ok := fun _ => True) (okp := fun _ => True) ?hr ?hp (fun _ hk => hk) trivial (bR_q _ _) (nR_q _) (by simp) ?_; (case hd => rfl); (case hg => rfl); (case hr => exact m6_q); (case hp => exact m92_q)
         intro v305 w31 ho32 hb hg_ hnew_
         clear hg_ hnew_
         (first | rw [← Ny304.out] at ho32 | (simp only [Int.reduceToNat] at ho32; rw [← Ny304.out] at ho32))
         have HO306 := Ae_q (rL_q (rW_q ho32 (rT_q (rup HO_6.out))) (bZ_q m1_q))
         replace HO_6 := Ae_q (rE_q (rup HO_6.out) (rB_q ho32) hb)
         replace BK292 := Ae_q (bB_q (g := gb292) (o := .cells #[.int .i64 a1_0, .slice A1_1 l1_1.length c1_1] 43 (0, 0)) (bup BK292.out) hb)
         replace HB := Ae_q (bT_q m1_q hb)
         clear hb ho32
         refine hK.out _ _ ⟨(bC_q BK292.out 0).trans rfl, (bC_q BK292.out 1).trans rfl⟩ (fun hHeld => ?_)
         clear hK K
         refine nJ_q ?_
         refine two_ (i := 4) (j := 6) (Ni := some 41) (Nj := some 43) #[true, true, true, true, true, true, false, false, false, false] #[true, true, true, true, false, true, true, false, false, false] rfl rfl rfl rfl (two_of HT_.out m10_q) (by decide) (by decide) (fun K hK => ?_) (fun K hK => ?_)
         ·skip
          refine rP_q kI_q (w0 := w) w.heap.size (by rfl) (.tmp 39) (.tmp 40) 23 3 (.int .i64 0) 8 rfl Try.underlying23 info3 rfl (by decide) (by omega) v305 y304 x6_2 _ _ _ (fun k_ => some k_ ≠ (.slice Ao23 x6_2.length co23 : Value).ownBlock) (fun _ => False) rfl rfl ?aO ?aR (fun _ _ h => h) (fun _ h => h.elim) ?aF ?aB ?aS ?aL ?_
          (case aR => exact m57_q)
          (case aB => exact m1_q)
          (case aF => exact (fun k_ hk => Kd.fresh' (rT_q (rup HO_6.out)) k_ hk))
          (case aO => exact m81_q)
          (case aS => exact m100_q)
          (case aL => exact m94_q)
          intro v308 w33 ho hb hg hat
          rw [← Ny307.out] at ho
          replace HO_6 := Ae_q (rF_q (ok := (fun _ => True)) (rup HO_6.out) hg hat)
          replace BK292 := Ae_q (bG_q (g := gb292) (o := .cells #[.int .i64 a1_0, .slice A1_1 l1_1.length c1_1] 43 (0, 0)) (bup BK292.out) hg (Kd.R_ne HO306.out BK292.out (by decide)))
          replace HB := Ae_q (hb)
          have HO309 := Ae_q (ho)
          clear HO306
          clear ho hb hg hat
          refine hK.out _ _ ⟨(bC_q BK292.out 0).trans rfl, (bC_q BK292.out 1).trans rfl⟩ (fun hHeld => ?_)
          clear hK K
          refine nJ_q ?_
          refine one_ (i := 6) (N := some 43) #[true, true, true, true, true, true, true, false, false, false] rfl rfl (one_of HT_.out m10_q) (by decide) (fun K hK => ?_)
          refine rI_q kI_q _ 3 ?hg (N := 43) ?hd (xs := ([x8_3] : List Int)) (inner := [.int .i64 x8_3]) (ok := fun _ => True) (okp := fun _ => True) ?hr ?hp (fun _ hk => hk) trivial (bR_q _ _) (nR_q _) (by simp) ?_; (case hd => rfl); (case hg => rfl); (case hr => exact m6_q); (case hp => exact m35_q)
          intro v311 w34 ho35 hb hg_ hnew_
          clear hg_ hnew_
          (first | rw [← Ny310.out] at ho35 | (simp only [Int.reduceToNat] at ho35; rw [← Ny310.out] at ho35))
          have HO312 := Ae_q (rL_q (rW_q (rW_q ho35 (rT_q (rup HO_6.out))) (rT_q (rup HO309.out))) (bZ_q m1_q))
          replace HO_6 := Ae_q (rE_q (rup HO_6.out) (rB_q ho35) hb)
          replace HO309 := Ae_q (rE_q (rup HO309.out) (rB_q ho35) hb)
          replace BK292 := Ae_q (bB_q (g := gb292) (o := .cells #[.int .i64 a1_0, .slice A1_1 l1_1.length c1_1] 43 (0, 0)) (bup BK292.out) hb)
          replace HB := Ae_q (bT_q m1_q hb)
          clear hb ho35
          refine hK.out _ _ ⟨(bC_q BK292.out 0).trans rfl, (bC_q BK292.out 1).trans rfl⟩ (fun hHeld => ?_)
          clear hK K
          refine nJ_q ?_
          exact norm_ m47_q (hCont (v305, v308, v311) _ ⟨hHeld, m22_q, m74_q, m44_q, (bup BK292.out), m1_q⟩)
         skip
         refine rI_q kI_q _ 3 ?hg (N := 43) ?hd (xs := ([x8_3] : List Int)) (inner := [.int .i64 x8_3]) (ok := fun _ => True) (okp := fun _ => True) ?hr ?hp (fun _ hk => hk) trivial (bR_q _ _) (nR_q _) (by simp) ?_; (case hd => rfl); (case hg => rfl); (case hr => exact m6_q); (case hp => exact m35_q)
         intro v311 w33 ho34 hb hg_ hnew_
         clear hg_ hnew_
         (first | rw [← Ny310.out] at ho34 | (simp only [Int.reduceToNat] at ho34; rw [← Ny310.out] at ho34))
         have HO312 := Ae_q (rL_q (rW_q (rW_q ho34 (rT_q (rup HO_6.out))) (rT_q (rup HO306.out))) (bZ_q m1_q))
         replace HO_6 := Ae_q (rE_q (rup HO_6.out) (rB_q ho34) hb)
         replace HO306 := Ae_q (rE_q (rup HO306.out) (rB_q ho34) hb)
         replace BK292 := Ae_q (bB_q (g := gb292) (o := .cells #[.int .i64 a1_0, .slice A1_1 l1_1.length c1_1] 43 (0, 0)) (bup BK292.out) hb)
         replace HB := Ae_q (bT_q m1_q hb)
         clear hb ho34
         refine hK.out _ _ ⟨(bC_q BK292.out 0).trans rfl, (bC_q BK292.out 1).trans rfl⟩ (fun hHeld => ?_)
         clear hK K
         refine nJ_q ?_
         refine one_ (i := 4) (N := some 41) #[true, true, true, true, true, true, true, false, false, false] rfl rfl (one_of HT_.out m10_q) (by decide) (fun K hK => ?_)
         refine rP_q kI_q (w0 := w) w.heap.size (by rfl) (.tmp 39) (.tmp 40) 23 3 (.int .i64 0) 8 rfl Try.underlying23 info3 rfl (by decide) (by omega) v305 y304 x6_2 _ _ _ (fun k_ => some k_ ≠ (.slice Ao23 x6_2.length co23 : Value).ownBlock ∧ some k_ ≠ (v311 : Value).ownBlock) (fun _ => False) rfl rfl ?aO ?aR (fun _ _ h => h) (fun _ h => h.elim) ?aF ?aB ?aS ?aL ?_
         (case aR => exact m57_q)
         (case aB => exact m1_q)
         (case aF => exact m36_q)
         (case aO => exact m42_q)
         (case aS => exact m100_q)
         (case aL => exact m94_q)
         intro v308 w35 ho hb hg hat
         rw [← Ny307.out] at ho
         replace HO_6 := Ae_q (rF_q (ok := (fun k_ => some k_ ≠ (v311 : Value).ownBlock)) m78_q hg hat)
         replace BK292 := Ae_q (bG_q (g := gb292) (o := .cells #[.int .i64 a1_0, .slice A1_1 l1_1.length c1_1] 43 (0, 0)) (bup BK292.out) hg (Kd.R_ne HO306.out BK292.out (by decide)))
         replace HO312 := Ae_q (rF_q (ok := (fun k_ => some k_ ≠ (.slice Ao23 x6_2.length co23 : Value).ownBlock)) m43_q hg hat)
         replace HB := Ae_q (hb)
         have HO309 := Ae_q (ho)
         clear HO306
         clear ho hb hg hat
         refine hK.out _ _ ⟨(bC_q BK292.out 0).trans rfl, (bC_q BK292.out 1).trans rfl⟩ (fun hHeld => ?_)
         clear hK K
         refine nJ_q ?_
         exact norm_ m47_q (hCont (v305, v308, v311) _ ⟨hHeld, m22_q, m28_q, m29_q, (bup BK292.out), m1_q⟩)
        skip
        refine rI_q kI_q _ 3 ?hg (N := 43) ?hd (xs := ([x8_3] : List Int)) (inner := [.int .i64 x8_3]) (ok := fun _ => True) (okp := fun _ => True) ?hr ?hp (fun _ hk => hk) trivial (bR_q _ _) (nR_q _) (by simp) ?_; (case hd => rfl); (case hg => rfl); (case hr => exact m6_q); (case hp => exact m35_q)
        intro v311 w31 ho32 hb hg_ hnew_
        clear hg_ hnew_
        (first | rw [← Ny310.out] at ho32 | (simp only [Int.reduceToNat] at ho32; rw [← Ny310.out] at ho32))
        have HO312 := Ae_q (rL_q (rW_q ho32 (rT_q (rup HO_6.out))) (bZ_q m1_q))
        replace HO_6 := Ae_q (rE_q (rup HO_6.out) (rB_q ho32) hb)
        replace BK292 := Ae_q (bB_q (g := gb292) (o := .cells #[.int .i64 a1_0, .slice A1_1 l1_1.length c1_1] 43 (0, 0)) (bup BK292.out) hb)
        replace HB := Ae_q (bT_q m1_q hb)
        clear hb ho32
        refine hK.out _ _ ⟨(bC_q BK292.out 0).trans rfl, (bC_q BK292.out 1).trans rfl⟩ (fun hHeld => ?_)
        clear hK K
        refine nJ_q ?_
        refine one_ (i := 2) (N := some 39) #[true, true, true, true, false, true, true, false, false, false] rfl rfl (one_of HT_.out m10_q) (by decide) (fun K hK => ?_)
        refine rI_q kI_q _ 3 ?hg (N := 39) ?hd (xs := ([] : List Int)) (inner := []) (ok := fun _ => True) (okp := fun _ => True) ?hr ?hp (fun _ hk => hk) trivial (bR_q _ _) (nR_q _) (by simp) ?_; (case hd => rfl); (case hg => rfl); (case hr => exact m6_q); (case hp => exact m92_q)
        intro v305 w33 ho34 hb hg_ hnew_
        clear hg_ hnew_
        (first | rw [← Ny304.out] at ho34 | (simp only [Int.reduceToNat] at ho34; rw [← Ny304.out] at ho34))
        have HO306 := Ae_q (rL_q (rW_q (rW_q ho34 (rT_q (rup HO_6.out))) (rT_q (rup HO312.out))) (bZ_q m1_q))
        replace HO_6 := Ae_q (rE_q (rup HO_6.out) (rB_q ho34) hb)
        replace HO312 := Ae_q (rE_q (rup HO312.out) (rB_q ho34) hb)
        replace BK292 := Ae_q (bB_q (g := gb292) (o := .cells #[.int .i64 a1_0, .slice A1_1 l1_1.length c1_1] 43 (0, 0)) (bup BK292.out) hb)
        replace HB := Ae_q (bT_q m1_q hb)
        clear hb ho34
        refine hK.out _ _ ⟨(bC_q BK292.out 0).trans rfl, (bC_q BK292.out 1).trans rfl⟩ (fun hHeld => ?_)
        clear hK K
        refine nJ_q ?_
        refine one_ (i := 4) (N := some 41) #[true, true, true, true, true, true, true, false, false, false] rfl rfl (one_of HT_.out m10_q) (by decide) (fun K hK => ?_)
        refine rP_q kI_q (w0 := w) w.heap.size (by rfl) (.tmp 39) (.tmp 40) 23 3 (.int .i64 0) 8 rfl Try.underlying23 info3 rfl (by decide) (by omega) v305 y304 x6_2 _ _ _ (fun k_ => some k_ ≠ (.slice Ao23 x6_2.length co23 : Value).ownBlock ∧ some k_ ≠ (v311 : Value).ownBlock) (fun _ => False) rfl rfl ?aO ?aR (fun _ _ h => h) (fun _ h => h.elim) ?aF ?aB ?aS ?aL ?_
        (case aR => exact m57_q)
        (case aB => exact m1_q)
        (case aF => exact m36_q)
        (case aO => exact m42_q)
        (case aS => exact m100_q)
        (case aL => exact m94_q)
        intro v308 w35 ho hb hg hat
        rw [← Ny307.out] at ho
        replace HO_6 := Ae_q (rF_q (ok := (fun k_ => some k_ ≠ (v311 : Value).ownBlock)) m44_q hg hat)
        replace BK292 := Ae_q (bG_q (g := gb292) (o := .cells #[.int .i64 a1_0, .slice A1_1 l1_1.length c1_1] 43 (0, 0)) (bup BK292.out) hg (Kd.R_ne HO306.out BK292.out (by decide)))
        replace HO312 := Ae_q (rF_q (ok := (fun k_ => some k_ ≠ (.slice Ao23 x6_2.length co23 : Value).ownBlock)) m43_q hg hat)
        replace HB := Ae_q (hb)
        have HO309 := Ae_q (ho)
        clear HO306
        clear ho hb hg hat
        refine hK.out _ _ ⟨(bC_q BK292.out 0).trans rfl, (bC_q BK292.out 1).trans rfl⟩ (fun hHeld => ?_)
        clear hK K
        refine nJ_q ?_
        exact norm_ m47_q (hCont (v305, v308, v311) _ ⟨hHeld, m22_q, m28_q, m29_q, (bup BK292.out), m1_q⟩)
       rintro ⟨v305, v308, v311⟩ w36 ⟨hS_, h0_, h1_, h2_, h3_, h4_⟩
       have n0_ : Aside0 (Kd.R kI_q 3 w36 w.heap.size (fun k_ => some k_ ≠ (v311 : Value).ownBlock ∧ some k_ ≠ (.slice Ao23 x6_2.length co23 : Value).ownBlock) v308 y307) := ⟨h0_⟩
       have n1_ : Aside0 (Kd.R kI_q 3 w36 w.heap.size (fun k_ => some k_ ≠ (v308 : Value).ownBlock ∧ some k_ ≠ (.slice Ao23 x6_2.length co23 : Value).ownBlock) v311 y310) := ⟨h1_⟩
       have n2_ : Aside0 (Kd.R kI_q 3 w36 w.heap.size (fun k_ => some k_ ≠ (v308 : Value).ownBlock ∧ some k_ ≠ (v311 : Value).ownBlock) (.slice Ao23 x6_2.length co23) x6_2) := ⟨h2_⟩
       have n3_ : Aside0 (w36.heap[gb292]? = some (.cells #[.int .i64 a1_0, .slice A1_1 l1_1.length c1_1] 43 (0, 0))) := ⟨h3_⟩
       have n4_ : Aside0 (Below w.heap.size w w36) := ⟨h4_⟩
       clear HO_6
       clear BK292
       clear HB
       clear h0_ h1_ h2_ h3_ h4_
       have HO309 := n0_
       have HO312 := n1_
       have HO_6 := n2_
       have BK292 := n3_
       have HB := n4_
       clear n0_ n1_ n2_ n3_ n4_
       have hHeld : w36.cell? ⟨gb292, 0, none⟩ = some (.int .i64 a1_0) ∧ w36.cell? ⟨gb292, 1, none⟩ = some (.slice A1_1 l1_1.length c1_1) := hS_
       obtain ⟨Ao38, co38, eo38⟩ := rS_q HO312.out
       (first | subst eo38 | (injection eo38 with f1_ f2_ f3_; have f4_ := f1_.symm; have f5_ := f3_.symm; clear f1_ f2_ f3_; subst f4_; subst f5_))
       refine norm_ (a' := ?_) ?_ ?_
       rotate_left
       ·simp only [putAll, Act.put, sA_q, sZ_q, sS_q]
        rfl
       refine one_ (i := 7) (N := some 44) #[true, true, true, true, true, true, true, true, false, false] rfl rfl (one_of HT_.out m10_q) (by decide) (fun K hK => ?_)
       refine rP_q kI_q (w0 := w) w.heap.size (by rfl) (.tmp 41) (.tmp 43) 23 3 (.int .i64 0) 8 rfl Try.underlying23 info3 rfl (by decide) (by omega) v308 y307 y310 _ _ _ (fun k_ => some k_ ≠ (.slice Ao23 x6_2.length co23 : Value).ownBlock ∧ some k_ ≠ (.slice Ao38 y310.length co38 : Value).ownBlock) (fun _ => False) rfl rfl ?aO ?aR (fun _ _ h => h) (fun _ h => h.elim) ?aF ?aB ?aS ?aL ?_
       (case aR => exact cup (rR_q HO312.out).2.2)
       (case aB => exact m1_q)
       (case aF => exact m36_q)
       (case aO => exact m22_q)
       (case aS => exact m100_q)
       (case aL => have := LMc26.out; omega)
       intro v314 w37 ho hb hg hat
       rw [← Ny313.out] at ho
       replace HO_6 := Ae_q (rF_q (ok := (fun k_ => some k_ ≠ (.slice Ao38 y310.length co38 : Value).ownBlock)) m29_q hg hat)
       replace BK292 := Ae_q (bG_q (g := gb292) (o := .cells #[.int .i64 a1_0, .slice A1_1 l1_1.length c1_1] 43 (0, 0)) (bup BK292.out) hg (Kd.R_ne HO309.out BK292.out (by decide)))
       replace HO312 := Ae_q (rF_q (ok := (fun k_ => some k_ ≠ (.slice Ao23 x6_2.length co23 : Value).ownBlock)) m28_q hg hat)
       replace HB := Ae_q (hb)
       have HO315 := Ae_q (ho)
       clear HO309
       clear ho hb hg hat
       obtain ⟨Ao39, co39, eo39⟩ := rS_q HO315.out
       (first | subst eo39 | (injection eo39 with f1_ f2_ f3_; have f4_ := f1_.symm; have f5_ := f3_.symm; clear f1_ f2_ f3_; subst f4_; subst f5_))
       refine hK.out _ _ ⟨(bC_q BK292.out 0).trans rfl, (bC_q BK292.out 1).trans rfl⟩ (fun hHeld => ?_)
       clear hK K
       refine nJ_q ?_
       refine one_ (i := 8) (N := some 45) #[true, true, true, true, true, true, true, true, true, false] rfl rfl (one_of HT_.out m10_q) (by decide) (fun K hK => ?_)
       refine goes_ Try.func47 m10_q rfl #[.slice (some ad298) l0.length c0, .agg #[.int .i64 a1_0, .slice A1_1 l1_1.length c1_1], .slice Ao39 y313.length co39] (by rfl) rfl rfl m0_q ?_
       with_reducible refine (spec_l32Room.calls k3 _ _ l0 a1_0 _ _ l1_1 _ _ y313 true _ ?side1 ?side2 ?side3 ?side4 ?side5 ?side6 A27.out).mono ?_
       (case side1 => exact m23_q)
       (case side2 => exact m56_q)
       (case side3 => exact m31_q)
       (case side4 => exact m65_q)
       (case side5 => exact cup (rR_q HO315.out).2.2)
       (case side6 => exact (rR_q HO315.out).2.1)
       rintro e w' ⟨rfl, hb⟩
       refine ⟨_, rfl, ?_⟩
       replace HO_6 := Ae_q (rO_q (rup HO_6.out) hb)
       replace HO312 := Ae_q (rO_q (rup HO312.out) hb)
       replace HO315 := Ae_q (rO_q (rup HO315.out) hb)
       replace BK292 := Ae_q (bB_q (g := gb292) (o := .cells #[.int .i64 a1_0, .slice A1_1 l1_1.length c1_1] 43 (0, 0)) (bup BK292.out) hb)
       replace HB := Ae_q (bT_q m1_q hb)
       (try clear hb)
       (try clear hb2)
       (try clear hk)
       (try clear hi)
       refine hK.out _ _ ⟨(bC_q BK292.out 0).trans rfl, (bC_q BK292.out 1).trans rfl⟩ (fun hHeld => ?_)
       clear hK K
       refine nJ_q ?_
       refine pJ HT_ 9 46 rfl rfl ?_
       refine done_ (done_of HT_.out m10_q) ?_
       try go_wp2_with (first | ((with_reducible refine gD_q (N := 51) rfl ?_); refine Kd.R_lit kI_q _ 3 ?hg (N := 51) ?hd (xs := ([x8_3] : List Int)) (inner := [.int .i64 x8_3]) (ok := fun _ => True) (okp := fun _ => True) ?hr ?hp (fun _ hk => hk) trivial (bR_q _ _) (nR_q _) (by simp) ?_; (case hd => rfl); (case hg => rfl); (case hr => exact m6_q); (case hp => exact m35_q); intro v318 w41 ho42 hb hg_ hnew_; clear hg_ hnew_; (first | rw [← Ny317.out] at ho42 | (simp only [Int.reduceToNat] at ho42; rw [← Ny317.out] at ho42)); have HO319 := Ae_q (rL_q (rW_q (rW_q (rW_q ho42 (rT_q (rup HO_6.out))) (rT_q (rup HO312.out))) (rT_q (rup HO315.out))) (bZ_q m1_q)); replace HO_6 := Ae_q (rE_q (rup HO_6.out) (rB_q ho42) hb); replace HO312 := Ae_q (rE_q (rup HO312.out) (rB_q ho42) hb); replace HO315 := Ae_q (rE_q (rup HO315.out) (rB_q ho42) hb); replace BK292 := Ae_q (bB_q (g := gb292) (o := .cells #[.int .i64 a1_0, .slice A1_1 l1_1.length c1_1] 43 (0, 0)) (bup BK292.out) hb); replace HB := Ae_q (bT_q m1_q hb); clear hb ho42; obtain ⟨Ao44, co44, eo44⟩ := rS_q HO319.out; subst eo44) | ((with_reducible refine gate_builtin (b := .append) (xs := #[.tmp 49, .tmp 51]) rfl ?_); at_builtin; refine Kd.R_append_rows kI_q (w0 := w) w.heap.size rfl (.tmp 49) (.tmp 51) 23 3 (.int .i64 0) 8 rfl Try.underlying23 info3 rfl (by decide) (by omega) (.slice Ao23 x6_2.length co23) x6_2 y317 _ _ _ (fun k_ => some k_ ≠ (.slice Ao38 y310.length co38 : Value).ownBlock ∧ some k_ ≠ (.slice Ao39 y313.length co39 : Value).ownBlock ∧ some k_ ≠ (.slice Ao44 y317.length co44 : Value).ownBlock) (fun _ => False) rfl rfl ?aO ?aR (fun _ _ h => h) (fun _ h => h.elim) ?aF ?aB ?aS ?aL ?_; (case aR => exact cup (rR_q HO319.out).2.2); (case aB => exact m1_q); (case aF => exact (fun k_ hk => ⟨Kd.fresh' (rT_q (rup HO312.out)) k_ hk, Kd.fresh' (rT_q (rup HO315.out)) k_ hk, Kd.fresh' (rT_q (rup HO319.out)) k_ hk⟩)); (case aO => exact (by (with_reducible repeat (first | apply rA_q | apply rN_q | apply rD_q)); exact rM_q HO_6.out (fun _ hk => ⟨hk.1.1, ⟨hk.1.2, hk.2⟩⟩))); (case aS => exact m100_q); (case aL => have := LMc29.out; omega); intro v321 w43 ho hb hg hat; rw [← Ny320.out] at ho; replace BK292 := Ae_q (bG_q (g := gb292) (o := .cells #[.int .i64 a1_0, .slice A1_1 l1_1.length c1_1] 43 (0, 0)) (bup BK292.out) hg (Kd.R_ne HO_6.out BK292.out (by decide))); replace HO312 := Ae_q (rF_q (ok := (fun k_ => some k_ ≠ (.slice Ao39 y313.length co39 : Value).ownBlock ∧ some k_ ≠ (.slice Ao44 y317.length co44 : Value).ownBlock)) (by (with_reducible repeat (first | apply rA_q | apply rN_q | apply rD_q)); exact rM_q HO312.out (fun _ hk => ⟨⟨hk.1.2, hk.2⟩, hk.1.1⟩)) hg hat); replace HO315 := Ae_q (rF_q (ok := (fun k_ => some k_ ≠ (.slice Ao38 y310.length co38 : Value).ownBlock ∧ some k_ ≠ (.slice Ao44 y317.length co44 : Value).ownBlock)) (by (with_reducible repeat (first | apply rA_q | apply rN_q | apply rD_q)); exact rM_q HO315.out (fun _ hk => ⟨⟨hk.1.2, hk.2⟩, hk.1.1⟩)) hg hat); replace HO319 := Ae_q (rF_q (ok := (fun k_ => some k_ ≠ (.slice Ao38 y310.length co38 : Value).ownBlock ∧ some k_ ≠ (.slice Ao39 y313.length co39 : Value).ownBlock)) (by (with_reducible repeat (first | apply rA_q | apply rN_q | apply rD_q)); exact rM_q HO319.out (fun _ hk => ⟨⟨hk.1.2, hk.2⟩, hk.1.1.2⟩)) hg hat); replace HB := Ae_q (hb); have HO322 := Ae_q (ho); clear HO_6; clear ho hb hg hat))
       go_roundg k3
       case measure => have := HJ2.out; have := HK2.out; have := HK3.out; omega
       case rel => exact ⟨(y320), (wrap64 (x7_2 + 1)), m4_q, H', ⟨by have := HJ2.out; have := HK2.out; have := HK3.out; omega⟩, ⟨by (with_reducible repeat (first | apply rA_q | apply rN_q | apply rD_q)); exact rM_q HO322.out (fun _ hk => trivial)⟩, ⟨bup BK292.out⟩, ⟨m1_q⟩⟩

end Go.Proofs.Ytfnpiacmlahegaa.PRp
