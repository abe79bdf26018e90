import Derived.Test.YtbclhpibilbdbaaDoorVJPScx0
import Derived.Test.YtbclhpibilbdbaaDoorVJPScx18
import Derived.Test.YtbclhpibilbdbaaDoorVJPScx20
import Derived.Test.YtbclhpibilbdbaaDoorVJPScx21
namespace Go.Proofs.YtbclhpibilbdbaaDoor.PSc
open Go.RowKit Go.Proofs.YtbclhpibilbdbaaDoorW.PrintWords Go.Proofs.YtbclhpibilbdbaaDoorW.PrintLast Go.Proofs.YtbclhpibilbdbaaDoorW.PrintMore
attribute [local go_sem] max2_int min2_int max_two min_two max_three min_three max_four min_four
set_option linter.unusedVariables false
set_option linter.unusedSimpArgs false

mutual
def spec_StoreTake.j0 : Nat → List (S49) → Int → Int → Int → List (S49) → List (S49) → Bool → Option ((List (S49)) × (List (S49)) × Bool)
 | 0, _, _, _, _, _, _, _ => none
 | k + 1, x0, x1, x2, x3, x11, x12, x33 => if x33 = true then (some (x11, x12, false)) else (spec_StoreTake.l0 k x0 x1 x2 x3 x11 x12 0)
def spec_StoreTake.l0 : Nat → List (S49) → Int → Int → Int → List (S49) → List (S49) → Int → Option ((List (S49)) × (List (S49)) × Bool)
 | 0, _, _, _, _, _, _, _ => none
 | k + 1, x0, x1, x2, x3, x11, x12, x13 => if x13 < (x0.length : Int) then (if 0 ≤ x13 then (if ((rd_T49 x0 x13).f0) = x1 then (if ((rd_T49 x0 x13).f1) ≥ x3 then (spec_StoreTake.j2 k x0 x1 x2 x3 x11 x12 x13 (decide (x2 > 0)) ((rd_T49 x0 x13).f0) ((rd_T49 x0 x13).f1) ((rd_T49 x0 x13).f2)) else (spec_StoreTake.j2 k x0 x1 x2 x3 x11 x12 x13 false ((rd_T49 x0 x13).f0) ((rd_T49 x0 x13).f1) ((rd_T49 x0 x13).f2))) else (spec_StoreTake.j2 k x0 x1 x2 x3 x11 x12 x13 false ((rd_T49 x0 x13).f0) ((rd_T49 x0 x13).f1) ((rd_T49 x0 x13).f2))) else (none)) else (some (x11, x12, true))
def spec_StoreTake.j2 : Nat → List (S49) → Int → Int → Int → List (S49) → List (S49) → Int → Bool → Int → Int → Int → Option ((List (S49)) × (List (S49)) × Bool)
 | 0, _, _, _, _, _, _, _, _, _, _, _ => none
 | k + 1, x0, x1, x2, x3, x11, x12, x13, x59, x390000, x390001, x390002 => if x59 = true then (if x12.length < 5864062014805 then ((some (x12 ++ [(⟨x390000, x390001, mn x2 x390002⟩ : S49)] : List (S49))).bind fun y390 => (if (wrap64 (x390002 - (mn x2 x390002))) > 0 then (if x11.length < 5864062014805 then (spec_StoreTake.l0 k x0 x1 (wrap64 (x2 - (mn x2 x390002))) x3 (x11 ++ [(⟨x390000, x390001, wrap64 (x390002 - (mn x2 x390002))⟩ : S49)]) y390 (wrap64 (x13 + 1))) else (none)) else (spec_StoreTake.l0 k x0 x1 (wrap64 (x2 - (mn x2 x390002))) x3 x11 y390 (wrap64 (x13 + 1))))) else (none)) else (if x390002 > 0 then (if x11.length < 5864062014805 then (spec_StoreTake.l0 k x0 x1 x2 x3 (x11 ++ [(⟨x390000, x390001, x390002⟩ : S49)]) x12 (wrap64 (x13 + 1))) else (none)) else (spec_StoreTake.l0 k x0 x1 x2 x3 x11 x12 (wrap64 (x13 + 1))))
end
def spec_StoreTake.f (k : Nat) (l0 : List (S49)) (a1 : Int) (a2 : Int) (a3 : Int) : Option ((List (S49)) × (List (S49)) × Bool) := (some (([] : List (S49)) : List (S49))).bind fun y379 => ((some (([] : List (S49)) : List (S49))).bind fun y382 => ((spec_StoreValid.f k l0).bind fun t385 => (if t385 = true then ((spec_l6In.f a2 0 999999).bind fun t386 => (if t386 = true then ((spec_StoreHas.f k l0 a1 a3).bind fun t387 => (spec_StoreTake.j0 k l0 a1 a2 a3 y379 y382 (decide (t387 < a2)))) else (spec_StoreTake.j0 k l0 a1 a2 a3 y379 y382 true))) else (spec_StoreTake.j0 k l0 a1 a2 a3 y379 y382 true))))
set_option maxHeartbeats 8000000 in
set_option maxRecDepth 100000 in
theorem spec_StoreTake.calls (k : Nat) (A0 : Option Addr) (c0 : Nat) (l0 : List (S49)) (a1 : Int) (a2 : Int) (a3 : Int) (r1 : List (S49)) (r2 : List (S49)) (r3 : Bool) (w : World) (hr0 : Kd.C k49 w A0 l0.length l0) (hc0 : l0.length ≤ c0) (h : spec_StoreTake.f k l0 a1 a2 a3 = some (r1, r2, r3)) :
    Calls Tryd.prog 38 #[.slice A0 l0.length c0, .int .i64 a1, .int .i64 a2, .int .i64 a3] w fun e w' => ∃ v0_ v1_ : Value, e = .returned (.tuple #[v0_, v1_, .bool r3]) ∧ Kd.R k49 49 w' w.heap.size (fun k_ => some k_ ≠ (v1_ : Value).ownBlock) v0_ r1 ∧ Kd.R k49 49 w' w.heap.size (fun k_ => some k_ ≠ (v0_ : Value).ownBlock) v1_ r2 ∧ Below w.heap.size w w' := by
 have hu49 := Tryd.underlying49
 have HR0 := Ae_q hr0
 have HC0 := Ae_q hc0
 clear hr0 hc0
 have HB := Ae_q (bR_q w.heap.size w)
 have H : ((some (([] : List (S49)) : List (S49))).bind fun y379 => ((some (([] : List (S49)) : List (S49))).bind fun y382 => ((spec_StoreValid.f k l0).bind fun t385 => (if t385 = true then ((spec_l6In.f a2 0 999999).bind fun t386 => (if t386 = true then ((spec_StoreHas.f k l0 a1 a3).bind fun t387 => (spec_StoreTake.j0 k l0 a1 a2 a3 y379 y382 (decide (t387 < a2)))) else (spec_StoreTake.j0 k l0 a1 a2 a3 y379 y382 true))) else (spec_StoreTake.j0 k l0 a1 a2 a3 y379 y382 true))))) = some (r1, r2, r3) := h
 clear h
 obtain ⟨y379, hy379⟩ : ∃ y_ : List (S49), y_ = (([] : List (S49))) := ⟨_, rfl⟩
 replace H : ((some (([] : List (S49)) : List (S49))).bind fun y382 => ((spec_StoreValid.f k l0).bind fun t385 => (if t385 = true then ((spec_l6In.f a2 0 999999).bind fun t386 => (if t386 = true then ((spec_StoreHas.f k l0 a1 a3).bind fun t387 => (spec_StoreTake.j0 k l0 a1 a2 a3 y379 y382 (decide (t387 < a2)))) else (spec_StoreTake.j0 k l0 a1 a2 a3 y379 y382 true))) else (spec_StoreTake.j0 k l0 a1 a2 a3 y379 y382 true)))) = some (r1, r2, r3) := by first | (rw [hy379]; with_reducible exact H) | (have H2_ := (oS_q _ _).symm.trans H; rw [hy379]; with_reducible exact H2_) | (have H2_ := (oS_q _ _).symm.trans H; with_reducible exact H2_) | with_reducible exact H | (rw [hy379]; exact H) | exact H
 have Ny379 := Ae_q hy379
 clear hy379
 obtain ⟨y382, hy382⟩ : ∃ y_ : List (S49), y_ = (([] : List (S49))) := ⟨_, rfl⟩
 replace H : ((spec_StoreValid.f k l0).bind fun t385 => (if t385 = true then ((spec_l6In.f a2 0 999999).bind fun t386 => (if t386 = true then ((spec_StoreHas.f k l0 a1 a3).bind fun t387 => (spec_StoreTake.j0 k l0 a1 a2 a3 y379 y382 (decide (t387 < a2)))) else (spec_StoreTake.j0 k l0 a1 a2 a3 y379 y382 true))) else (spec_StoreTake.j0 k l0 a1 a2 a3 y379 y382 true))) = some (r1, r2, r3) := by first | (rw [hy382]; with_reducible exact H) | (have H2_ := (oS_q _ _).symm.trans H; rw [hy382]; with_reducible exact H2_) | (have H2_ := (oS_q _ _).symm.trans H; with_reducible exact H2_) | with_reducible exact H | (rw [hy382]; exact H) | exact H
 have Ny382 := Ae_q hy382
 clear hy382
 have HC5 := Ae_q H
 clear H
 go_enter Tryd.func38, Tryd.ntmps38
 go_upto_region 3 with (first | ((with_reducible refine gD_q (N := 16) rfl ?_); refine Kd.R_lit k49 _ 49 ?hg (N := 16) ?hd (xs := ([] : List (S49))) (inner := []) (ok := fun _ => True) (okp := fun _ => True) ?hr ?hp (fun _ hk => hk) trivial (bR_q _ _) (nR_q _) (by simp) ?_; (case hd => rfl); (case hg => rfl); (case hr => exact m10_q); (case hp => exact m46_q); intro v380 w6 ho7 hb hg_ hnew_; clear hg_ hnew_; (first | rw [← Ny379.out] at ho7 | (simp only [Int.reduceToNat] at ho7; rw [← Ny379.out] at ho7)); have HO381 := Ae_q (rL_q ho7 (bZ_q (bel HB.out))); replace HB := Ae_q (bT_q (bel HB.out) hb); clear hb ho7) | ((with_reducible refine gD_q (N := 17) rfl ?_); refine Kd.R_lit k49 _ 49 ?hg (N := 17) ?hd (xs := ([] : List (S49))) (inner := []) (ok := fun _ => True) (okp := fun _ => True) ?hr ?hp (fun _ hk => hk) trivial (bR_q _ _) (nR_q _) (by simp) ?_; (case hd => rfl); (case hg => rfl); (case hr => exact m10_q); (case hp => exact m46_q); intro v383 w8 ho9 hb hg_ hnew_; clear hg_ hnew_; (first | rw [← Ny382.out] at ho9 | (simp only [Int.reduceToNat] at ho9; rw [← Ny382.out] at ho9)); have HO384 := Ae_q (rL_q (rW_q ho9 (rT_q (rup HO381.out))) (bZ_q (bel HB.out))); replace HO381 := Ae_q (rE_q (rup HO381.out) (rB_q ho9) hb); replace HB := Ae_q (bT_q (bel HB.out) hb); clear hb ho9))
 (try simp only [Act.put, sA_q, sZ_q, sS_q])
 go_cut [33] (fun v33 wc => ∃ (kq : Nat) (x33_4 : Bool), v33 = .bool x33_4 ∧ Aside0 (spec_StoreTake.j0 kq l0 a1 a2 a3 y379 y382 x33_4 = some (r1, r2, r3)) ∧ Aside0 (kq ≤ k) ∧ Aside0 (Kd.R k49 49 wc w.heap.size (fun k_ => some k_ ≠ (v383 : Value).ownBlock) v380 y379) ∧ Aside0 (Kd.R k49 49 wc w.heap.size (fun k_ => some k_ ≠ (v380 : Value).ownBlock) v383 y382) ∧ Aside0 (Below w.heap.size w wc))
 case first =>
  have H := HC5.out
  clear HC5
  replace H := oB_q.mp H
  obtain ⟨t385, A100, H⟩ := H
  replace H : (if t385 = true then ((spec_l6In.f a2 0 999999).bind fun t386 => (if t386 = true then ((spec_StoreHas.f k l0 a1 a3).bind fun t387 => (spec_StoreTake.j0 k l0 a1 a2 a3 y379 y382 (decide (t387 < a2)))) else (spec_StoreTake.j0 k l0 a1 a2 a3 y379 y382 true))) else (spec_StoreTake.j0 k l0 a1 a2 a3 y379 y382 true)) = some (r1, r2, r3) := H
  have A10 := Ae_q A100
  clear A100
  by_cases c11 : t385 = true
  rotate_left
  ·replace c11 := fM_q.mpr c11
   subst c11
   have H1 : (spec_StoreTake.j0 k l0 a1 a2 a3 y379 y382 true) = some (r1, r2, r3) := by rw [if_neg (show ¬ (false = true) by decide)] at H; exact H
   clear H
   have H := H1
   clear H1
   have H' := Ae_q H
   clear H
   go_wp2_with (first | ((with_reducible refine gC_q (f := 54) rfl ?_); refine gL_q (some 19) rfl rfl Tryd.func54 m6_q rfl #[.slice A0 l0.length c0] rfl m0_q ?_; (with_reducible refine (spec_StoreValid.calls k _ _ l0 false _ ?side1 ?side2 A10.out).mono ?_); (case side1 => exact m37_q); (case side2 => exact m60_q); rintro e w18 ⟨rfl, hb⟩; refine ⟨_, rfl, ?_⟩; replace HO381 := Ae_q (rO_q (rup HO381.out) hb); replace HO384 := Ae_q (rO_q (rup HO384.out) hb); replace HB := Ae_q (bT_q (bel HB.out) hb); (try clear hb); (try clear hb2); (try clear hk); (try clear hi)))
   go_meet
   case rel => exact ⟨_, (true), m2_q, H', ⟨m48_q⟩, ⟨m49_q⟩, ⟨m50_q⟩, ⟨bel HB.out⟩⟩
  subst c11
  have H1 : ((spec_l6In.f a2 0 999999).bind fun t386 => (if t386 = true then ((spec_StoreHas.f k l0 a1 a3).bind fun t387 => (spec_StoreTake.j0 k l0 a1 a2 a3 y379 y382 (decide (t387 < a2)))) else (spec_StoreTake.j0 k l0 a1 a2 a3 y379 y382 true))) = some (r1, r2, r3) := by rw [if_pos rfl] at H; exact H
  clear H
  have H := H1
  clear H1
  replace H := oB_q.mp H
  obtain ⟨t386, A120, H⟩ := H
  replace H : (if t386 = true then ((spec_StoreHas.f k l0 a1 a3).bind fun t387 => (spec_StoreTake.j0 k l0 a1 a2 a3 y379 y382 (decide (t387 < a2)))) else (spec_StoreTake.j0 k l0 a1 a2 a3 y379 y382 true)) = some (r1, r2, r3) := H
  have A12 := Ae_q A120
  clear A120
  by_cases c13 : t386 = true
  rotate_left
  ·replace c13 := fM_q.mpr c13
   subst c13
   have H1 : (spec_StoreTake.j0 k l0 a1 a2 a3 y379 y382 true) = some (r1, r2, r3) := by rw [if_neg (show ¬ (false = true) by decide)] at H; exact H
   clear H
   have H := H1
   clear H1
   have H' := Ae_q H
   clear H
   go_wp2_with (first | ((with_reducible refine gC_q (f := 54) rfl ?_); refine gL_q (some 19) rfl rfl Tryd.func54 m6_q rfl #[.slice A0 l0.length c0] rfl m0_q ?_; (with_reducible refine (spec_StoreValid.calls k _ _ l0 true _ ?side1 ?side2 A10.out).mono ?_); (case side1 => exact m37_q); (case side2 => exact m60_q); rintro e w' ⟨rfl, hb⟩; refine ⟨_, rfl, ?_⟩; replace HO381 := Ae_q (rO_q (rup HO381.out) hb); replace HO384 := Ae_q (rO_q (rup HO384.out) hb); replace HB := Ae_q (bT_q (bel HB.out) hb); (try clear hb); (try clear hb2); (try clear hk); (try clear hi)) | (go_at_call 53; (with_reducible refine (spec_l6In.calls a2 0 999999 false _ A12.out).mono ?_); rintro e w' ⟨rfl, ⟨nd, rfl⟩⟩))
   go_meet
   case rel => exact ⟨_, (true), m2_q, H', ⟨m48_q⟩, ⟨m49_q⟩, ⟨m50_q⟩, ⟨bel HB.out⟩⟩
  subst c13
  have H1 : ((spec_StoreHas.f k l0 a1 a3).bind fun t387 => (spec_StoreTake.j0 k l0 a1 a2 a3 y379 y382 (decide (t387 < a2)))) = some (r1, r2, r3) := by rw [if_pos rfl] at H; exact H
  clear H
  have H := H1
  clear H1
  replace H := oB_q.mp H
  obtain ⟨t387, A140, H⟩ := H
  replace H : (spec_StoreTake.j0 k l0 a1 a2 a3 y379 y382 (decide (t387 < a2))) = some (r1, r2, r3) := H
  have A14 := Ae_q A140
  clear A140
  have H' := Ae_q H
  clear H
  go_wp2_with (first | ((with_reducible refine gC_q (f := 54) rfl ?_); refine gL_q (some 19) rfl rfl Tryd.func54 m6_q rfl #[.slice A0 l0.length c0] rfl m0_q ?_; (with_reducible refine (spec_StoreValid.calls k _ _ l0 true _ ?side1 ?side2 A10.out).mono ?_); (case side1 => exact m37_q); (case side2 => exact m60_q); rintro e w' ⟨rfl, hb⟩; refine ⟨_, rfl, ?_⟩; replace HO381 := Ae_q (rO_q (rup HO381.out) hb); replace HO384 := Ae_q (rO_q (rup HO384.out) hb); replace HB := Ae_q (bT_q (bel HB.out) hb); (try clear hb); (try clear hb2); (try clear hk); (try clear hi)) | (go_at_call 53; (with_reducible refine (spec_l6In.calls a2 0 999999 true _ A12.out).mono ?_); rintro e w' ⟨rfl, ⟨nd, rfl⟩⟩) | (go_at_call 40; (with_reducible refine (spec_StoreHas.calls k _ _ l0 a1 a3 t387 _ ?side1 ?side2 A14.out).mono ?_); (case side1 => exact m56_q); (case side2 => exact m60_q); rintro e w16 ⟨rfl, hb⟩; replace HO381 := Ae_q (rO_q (rup HO381.out) hb); replace HO384 := Ae_q (rO_q (rup HO384.out) hb); replace HB := Ae_q (bT_q (bel HB.out) hb); (try clear hb); (try clear hb2); (try clear hk); (try clear hi)))
  go_meet
  case rel => exact ⟨_, (decide (t387 < a2)), m2_q, H', ⟨m48_q⟩, ⟨m49_q⟩, ⟨m50_q⟩, ⟨bel HB.out⟩⟩
 case rest =>
  clear HC5
  try clear c1
  try clear p2
  try clear c3
  try clear c5
  try clear c11
  try clear c13
  obtain ⟨kq, x33_4, rfl, HA, HJ4, HO_11, HO_12, HB⟩ := hcut
  cases kq with
  | zero => exact absurd HA.out (by simp [spec_StoreTake.j0])
  | succ kj4 =>
   have H := HA.out
   clear HA
   simp only [spec_StoreTake.j0] at H
   by_cases c19 : x33_4 = true
   ·subst c19
    have H1 : (some (y379, y382, false)) = some (r1, r2, r3) := by rw [if_pos rfl] at H; exact H
    clear H
    have H := H1
    clear H1
    simp only [oE_q, pE_q] at H
    obtain ⟨rfl, rfl, rfl⟩ := H
    go_wp2
    go_ret3
    exact ⟨_, _, m3_q, rup HO_11.out, rup HO_12.out, bel HB.out⟩
   replace c19 := fM_q.mpr c19
   subst c19
   have H1 : (spec_StoreTake.l0 kj4 l0 a1 a2 a3 y379 y382 0) = some (r1, r2, r3) := by rw [if_neg (show ¬ (false = true) by decide)] at H; exact H
   clear H
   have H := H1
   clear H1
   have H' := Ae_q H
   clear H
   go_wp2
   go_loopg [2, 11, 12, 13] kj4 (fun kq v2 v11 v12 v13 w' => ∃ (x2_2 : Int) (x11_2 : List (S49)) (x12_2 : List (S49)) (x13_2 : Int), v2 = .int .i64 x2_2 ∧ v13 = .int .i64 x13_2 ∧ Aside0 (spec_StoreTake.l0 kq l0 a1 x2_2 a3 x11_2 x12_2 x13_2 = some (r1, r2, r3)) ∧ Aside0 (kq ≤ kj4) ∧ Aside0 (Kd.R k49 49 w' w.heap.size (fun k_ => some k_ ≠ (v12 : Value).ownBlock) v11 x11_2) ∧ Aside0 (Kd.R k49 49 w' w.heap.size (fun k_ => some k_ ≠ (v11 : Value).ownBlock) v12 x12_2) ∧ Aside0 (Below w.heap.size w w'))
   case atStart => exact ⟨(a2), (y379), (y382), (0), m2_q, m2_q, H', ⟨nR_q _⟩, ⟨rup HO_11.out⟩, ⟨rup HO_12.out⟩, ⟨bel HB.out⟩⟩
   case round =>
    clear H'
    try clear c1
    try clear p2
    try clear c3
    try clear c5
    try clear c11
    try clear c13
    try clear c19
    try clear p2
    obtain ⟨x2_2, x11_2, x12_2, x13_2, rfl, rfl, HA, HK2, HO_11, HO_12, HB⟩ := hrel
    cases gk with
    | zero => exact absurd HA.out (by simp [spec_StoreTake.l0])
    | succ k2 =>
     have H := HA.out
     clear HA
     simp only [spec_StoreTake.l0] at H
     by_cases c20 : x13_2 < (l0.length : Int)
     rotate_left
     ·rw [if_neg c20] at H
      have c20b0 : decide (x13_2 < (l0.length : Int)) = false := dF_q c20
      clear c20
      simp only [oE_q, pE_q] at H
      obtain ⟨rfl, rfl, rfl⟩ := H
      go_wp2
      go_ret3
      exact ⟨_, _, m3_q, rup HO_11.out, rup HO_12.out, bel HB.out⟩
     rw [if_pos c20] at H
     have c20b0 : decide (x13_2 < (l0.length : Int)) = true := dT_q c20
     clear c20
     by_cases c21 : 0 ≤ x13_2
     rotate_left
     ·rw [if_neg c21] at H
      exact absurd H (by simp)
     rw [if_pos c21] at H
     have c21b0 : decide (0 ≤ x13_2) = true := dT_q c21
     clear c21
     have HC22 := Ae_q H
     clear H
     have p388 : 0 ≤ (x13_2 : Int) := oD_q (by assumption)
     have q388 : x13_2 < (l0.length : Int) := oD_q (by assumption)
     obtain ⟨ad388, e388, hx388_0, hx388_1, hx388_2⟩ := at_T49 HR0.out x13_2 p388 q388
     cases e388
     replace hx388_0 := cel HB.out hx388_0
     replace hx388_1 := cel HB.out hx388_1
     replace hx388_2 := cel HB.out hx388_2
     replace p388 := eq_true p388
     replace q388 := eq_true q388
     go_upto_region 9 with (first | ((with_reducible refine gD_q (N := 14) rfl ?_); refine bE_q ?hg (N := 14) ?hd (cs := #[.int .i64 0, .int .i64 0, .int .i64 0]) (t := 49) ?hr ?_; (case hd => rfl); (case hg => rfl); (case hr => exact m10_q); intro gb389 hg w23 hbox hb; replace HO_11 := Ae_q (rO_q (Kd.R_elderB (rup HO_11.out) gb389 (Nat.le_of_eq hg.symm)) hb); replace HO_12 := Ae_q (rO_q (Kd.R_elderB (rup HO_12.out) gb389 (Nat.le_of_eq hg.symm)) hb); have BK389 := Ae_q (hbox); have GW389 := Ae_q ((by rw [hg]; exact (bZ_q (bel HB.out)) : w.heap.size ≤ gb389)); have GE389 := Ae_q ((by rw [hg]; exact (bZ_q (bel HB.out)) : w.heap.size ≤ gb389)); replace HB := Ae_q (bT_q (bel HB.out) hb); clear hb hbox hg; have hcz24_0 : cI w23 gb389 0 0 := cZ BK389 0 rfl; have hcz24_1 : cI w23 gb389 1 0 := cZ BK389 1 rfl; have hcz24_2 : cI w23 gb389 2 0 := cZ BK389 2 rfl; have hfz24_0 := bF_q BK389.out 0; have hfz24_1 := bF_q BK389.out 1; have hfz24_2 := bF_q BK389.out 2))
     (try simp only [Act.put, sA_q, sZ_q, sS_q])
     go_cut [59] (fun v59 wc => ∃ (kq : Nat) (x59_21 : Bool), v59 = .bool x59_21 ∧ Aside0 (spec_StoreTake.j2 kq l0 a1 x2_2 a3 x11_2 x12_2 x13_2 x59_21 ((rd_T49 l0 x13_2).f0) ((rd_T49 l0 x13_2).f1) ((rd_T49 l0 x13_2).f2) = some (r1, r2, r3)) ∧ Aside0 (kq ≤ k2) ∧ Aside0 (Kd.R k49 49 wc w.heap.size (fun k_ => some k_ ≠ (u12 : Value).ownBlock ∧ k_ ≠ gb389) u11 x11_2) ∧ Aside0 (Kd.R k49 49 wc w.heap.size (fun k_ => some k_ ≠ (u11 : Value).ownBlock ∧ k_ ≠ gb389) u12 x12_2) ∧ Aside0 (wc.heap[gb389]? = some (.cells #[.int .i64 ((rd_T49 l0 x13_2).f0), .int .i64 ((rd_T49 l0 x13_2).f1), .int .i64 ((rd_T49 l0 x13_2).f2)] 49 (0, 0))) ∧ Aside0 (Below w.heap.size w wc))
     case first =>
      have H := HC22.out
      clear HC22
      by_cases c25 : ((rd_T49 l0 x13_2).f0) = a1
      rotate_left
      ·rw [if_neg c25] at H
       have c25b0 : (((rd_T49 l0 x13_2).f0) == a1) = false := fN_q.mpr c25
       have c25b1 : (((rd_T49 l0 x13_2).f0) != a1) = true := nI_q.mpr c25
       (first | rw [c25b0] | (simp only [i64_w, i32_w]; rw [c25b0]) | skip)
       have H' := Ae_q H
       clear H
       have hcz29_0 : cI w23 gb389 0 0 := cZ BK389 0 rfl
       have hcz29_1 : cI w23 gb389 1 0 := cZ BK389 1 rfl
       have hcz29_2 : cI w23 gb389 2 0 := cZ BK389 2 rfl
       have hfz29_0 := bF_q BK389.out 0
       have hfz29_1 := bF_q BK389.out 1
       have hfz29_2 := bF_q BK389.out 2
       go_wp2
       go_meet
       case rel => exact ⟨_, (false), m2_q, H', ⟨m57_q⟩, ⟨m19_q⟩, ⟨m20_q⟩, ⟨m12_q⟩, ⟨m15_q⟩⟩
      rw [if_pos c25] at H
      have c25b0 : (((rd_T49 l0 x13_2).f0) == a1) = true := beq_iff_eq.mpr c25
      have c25b1 : (((rd_T49 l0 x13_2).f0) != a1) = false := nE_q.mpr c25
      clear c25
      (first | rw [c25b0] | (simp only [i64_w, i32_w]; rw [c25b0]) | skip)
      by_cases c26 : ((rd_T49 l0 x13_2).f1) ≥ a3
      ·rw [if_pos c26] at H
       have c26b0 : decide (a3 ≤ ((rd_T49 l0 x13_2).f1)) = true := dT_q c26
       clear c26
       have H' := Ae_q H
       clear H
       have hcz27_0 : cI w23 gb389 0 0 := cZ BK389 0 rfl
       have hcz27_1 : cI w23 gb389 1 0 := cZ BK389 1 rfl
       have hcz27_2 : cI w23 gb389 2 0 := cZ BK389 2 rfl
       have hfz27_0 := bF_q BK389.out 0
       have hfz27_1 := bF_q BK389.out 1
       have hfz27_2 := bF_q BK389.out 2
       go_wp2
       go_meet
       case rel => exact ⟨_, (decide (x2_2 > 0)), m2_q, H', ⟨m57_q⟩, ⟨m19_q⟩, ⟨m20_q⟩, ⟨m12_q⟩, ⟨m15_q⟩⟩
      rw [if_neg c26] at H
      have c26b0 : decide (a3 ≤ ((rd_T49 l0 x13_2).f1)) = false := dF_q c26
      clear c26
      have H' := Ae_q H
      clear H
      have hcz28_0 : cI w23 gb389 0 0 := cZ BK389 0 rfl
      have hcz28_1 : cI w23 gb389 1 0 := cZ BK389 1 rfl
      have hcz28_2 : cI w23 gb389 2 0 := cZ BK389 2 rfl
      have hfz28_0 := bF_q BK389.out 0
      have hfz28_1 := bF_q BK389.out 1
      have hfz28_2 := bF_q BK389.out 2
      go_wp2
      go_meet
      case rel => exact ⟨_, (false), m2_q, H', ⟨m57_q⟩, ⟨m19_q⟩, ⟨m20_q⟩, ⟨m12_q⟩, ⟨m15_q⟩⟩
     case rest =>
      clear HC22
      try clear c1
      try clear c2
      try clear p2
      try clear c3
      try clear p3
      try clear q3
      try clear hx3
      try clear c5
      try clear c11
      try clear c13
      try clear c19
      try clear c20
      try clear c20b0
      try clear c21
      try clear c21b0
      try clear c25
      try clear c25b0
      try clear c25b1
      try clear c26
      try clear c26b0
      try clear hcz24_0
      try clear hcz24_1
      try clear hcz24_2
      try clear hcz27_0
      try clear hcz27_1
      try clear hcz27_2
      try clear hcz28_0
      try clear hcz28_1
      try clear hcz28_2
      try clear hcz29_0
      try clear hcz29_1
      try clear hcz29_2
      try clear hfz24_0
      try clear hfz24_1
      try clear hfz24_2
      try clear hfz27_0
      try clear hfz27_1
      try clear hfz27_2
      try clear hfz28_0
      try clear hfz28_1
      try clear hfz28_2
      try clear hfz29_0
      try clear hfz29_1
      try clear hfz29_2
      try clear hx388_0
      try clear hx388_1
      try clear hx388_2
      try clear p2
      try clear p388
      try clear q388
      obtain ⟨kq, x59_21, rfl, HA, HJ21, HO_11, HO_12, BK389, HB⟩ := hcut
      cases kq with
      | zero => exact absurd HA.out (by simp [spec_StoreTake.j2])
      | succ kj21 =>
       have H := HA.out
       clear HA
       simp only [spec_StoreTake.j2] at H
       by_cases c30 : x59_21 = true
       rotate_left
       ·replace c30 := fM_q.mpr c30
        subst c30
        have H1 : (if ((rd_T49 l0 x13_2).f2) > 0 then (if x11_2.length < 5864062014805 then (spec_StoreTake.l0 kj21 l0 a1 x2_2 a3 (x11_2 ++ [(⟨((rd_T49 l0 x13_2).f0), ((rd_T49 l0 x13_2).f1), ((rd_T49 l0 x13_2).f2)⟩ : S49)]) x12_2 (wrap64 (x13_2 + 1))) else (none)) else (spec_StoreTake.l0 kj21 l0 a1 x2_2 a3 x11_2 x12_2 (wrap64 (x13_2 + 1)))) = some (r1, r2, r3) := by rw [if_neg (show ¬ (false = true) by decide)] at H; exact H
        clear H
        have H := H1
        clear H1
        by_cases c42 : ((rd_T49 l0 x13_2).f2) > 0
        rotate_left
        ·rw [if_neg c42] at H
         have c42b0 : decide (0 < ((rd_T49 l0 x13_2).f2)) = false := dF_q c42
         clear c42
         have H' := Ae_q H
         clear H
         have hcz46_0 : cI wc gb389 0 ((rd_T49 l0 x13_2).f0) := cZ BK389 0 rfl
         have hcz46_1 : cI wc gb389 1 ((rd_T49 l0 x13_2).f1) := cZ BK389 1 rfl
         have hcz46_2 : cI wc gb389 2 ((rd_T49 l0 x13_2).f2) := cZ BK389 2 rfl
         have hfz46_0 := bF_q BK389.out 0
         have hfz46_1 := bF_q BK389.out 1
         have hfz46_2 := bF_q BK389.out 2
         go_wp2
         go_roundg kj21
         case measure => have := HJ4.out; have := HK2.out; have := HJ21.out; omega
         case rel => exact ⟨(x2_2), (x11_2), (x12_2), (wrap64 (x13_2 + 1)), m2_q, m2_q, H', ⟨m66_q⟩, ⟨m72_q⟩, ⟨m73_q⟩, ⟨m15_q⟩⟩
        rw [if_pos c42] at H
        have c42b0 : decide (0 < ((rd_T49 l0 x13_2).f2)) = true := dT_q c42
        clear c42
        by_cases c43 : x11_2.length < 5864062014805
        rotate_left
        ·rw [if_neg c43] at H
         exact absurd H (by simp)
        rw [if_pos c43] at H
        have LMc43 := Ae_q c43
        clear c43
        obtain ⟨y396, hy396⟩ : ∃ y_ : List (S49), y_ = (x11_2 ++ [(⟨((rd_T49 l0 x13_2).f0), ((rd_T49 l0 x13_2).f1), ((rd_T49 l0 x13_2).f2)⟩ : S49)]) := ⟨_, rfl⟩
        replace H : (spec_StoreTake.l0 kj21 l0 a1 x2_2 a3 y396 x12_2 (wrap64 (x13_2 + 1))) = some (r1, r2, r3) := by first | (rw [hy396]; with_reducible exact H) | (have H2_ := (oS_q _ _).symm.trans H; rw [hy396]; with_reducible exact H2_) | (have H2_ := (oS_q _ _).symm.trans H; with_reducible exact H2_) | with_reducible exact H | (rw [hy396]; exact H) | exact H
        have Ny396 := Ae_q hy396
        clear hy396
        have H' := Ae_q H
        clear H
        have hcz44_0 : cI wc gb389 0 ((rd_T49 l0 x13_2).f0) := cZ BK389 0 rfl
        have hcz44_1 : cI wc gb389 1 ((rd_T49 l0 x13_2).f1) := cZ BK389 1 rfl
        have hcz44_2 : cI wc gb389 2 ((rd_T49 l0 x13_2).f2) := cZ BK389 2 rfl
        have hfz44_0 := bF_q BK389.out 0
        have hfz44_1 := bF_q BK389.out 1
        have hfz44_2 := bF_q BK389.out 2
        go_wp2_with (first | ((with_reducible refine gate_builtin (b := .append) (xs := #[.tmp 84, .tmp 86]) rfl ?_); at_builtin; refine Kd.R_append k49 (w0 := w) w.heap.size rfl (.tmp 84) (.tmp 86) 32 49 (.agg #[(.int .i64 0), (.int .i64 0), (.int .i64 0)]) 24 rfl Tryd.underlying32 info49 rfl (by decide) (by omega) u11 x11_2 (⟨((rd_T49 l0 x13_2).f0), ((rd_T49 l0 x13_2).f1), ((rd_T49 l0 x13_2).f2)⟩ : S49) [.int .i64 ((rd_T49 l0 x13_2).f0), .int .i64 ((rd_T49 l0 x13_2).f1), .int .i64 ((rd_T49 l0 x13_2).f2)] (fun k_ => some k_ ≠ (u12 : Value).ownBlock ∧ k_ ≠ gb389) (fun _ => False) rfl rfl ?aP (fun _ hk => hk.elim) ?aF ?aO ?aB ?aS ?aL ?_; (case aP => exact k49_mkM _ _ _ (⟨((rd_T49 l0 x13_2).f0), ((rd_T49 l0 x13_2).f1), ((rd_T49 l0 x13_2).f2)⟩ : S49)); (case aB => exact m15_q); (case aF => exact (fun k_ hk => ⟨Kd.fresh' (rT_q (rup HO_12.out)) k_ hk, Kd.freshB (g := gb389) (o := .cells #[.int .i64 ((rd_T49 l0 x13_2).f0), .int .i64 ((rd_T49 l0 x13_2).f1), .int .i64 ((rd_T49 l0 x13_2).f2)] 49 (0, 0)) (bup BK389.out) k_ hk⟩)); (case aO => exact (rup HO_11.out)); (case aS => exact (bZ_q m15_q)); (case aL => have := LMc43.out; omega); intro v397 w45 ho hb hg hat; rw [← Ny396.out] at ho; replace HO_12 := Ae_q (rF_q (ok := (fun k_ => k_ ≠ gb389)) m63_q hg hat); replace BK389 := Ae_q (bG_q (g := gb389) (o := .cells #[.int .i64 ((rd_T49 l0 x13_2).f0), .int .i64 ((rd_T49 l0 x13_2).f1), .int .i64 ((rd_T49 l0 x13_2).f2)] 49 (0, 0)) (bup BK389.out) hg (Kd.R_away HO_11.out (fun _ hk => hk.2))); replace HB := Ae_q (hb); have HO398 := Ae_q (ho); clear HO_11; clear ho hb hg hat))
        go_roundg kj21
        case measure => have := HJ4.out; have := HK2.out; have := HJ21.out; omega
        case rel => exact ⟨(x2_2), (y396), (x12_2), (wrap64 (x13_2 + 1)), m2_q, m2_q, H', ⟨m66_q⟩, ⟨by (with_reducible repeat (first | apply rA_q | apply rN_q | apply rD_q)); exact rM_q HO398.out (fun _ hk => hk.1)⟩, ⟨m74_q⟩, ⟨m15_q⟩⟩
       subst c30
       have H1 : (if x12_2.length < 5864062014805 then ((some (x12_2 ++ [(⟨((rd_T49 l0 x13_2).f0), ((rd_T49 l0 x13_2).f1), mn x2_2 ((rd_T49 l0 x13_2).f2)⟩ : S49)] : List (S49))).bind fun y390 => (if (wrap64 (((rd_T49 l0 x13_2).f2) - (mn x2_2 ((rd_T49 l0 x13_2).f2)))) > 0 then (if x11_2.length < 5864062014805 then (spec_StoreTake.l0 kj21 l0 a1 (wrap64 (x2_2 - (mn x2_2 ((rd_T49 l0 x13_2).f2)))) a3 (x11_2 ++ [(⟨((rd_T49 l0 x13_2).f0), ((rd_T49 l0 x13_2).f1), wrap64 (((rd_T49 l0 x13_2).f2) - (mn x2_2 ((rd_T49 l0 x13_2).f2)))⟩ : S49)]) y390 (wrap64 (x13_2 + 1))) else (none)) else (spec_StoreTake.l0 kj21 l0 a1 (wrap64 (x2_2 - (mn x2_2 ((rd_T49 l0 x13_2).f2)))) a3 x11_2 y390 (wrap64 (x13_2 + 1))))) else (none)) = some (r1, r2, r3) := by rw [if_pos rfl] at H; exact H
       clear H
       have H := H1
       clear H1
       obtain ⟨ji31, hji31⟩ : ∃ j_ : Int, (mn x2_2 ((rd_T49 l0 x13_2).f2)) = j_ := ⟨_, rfl⟩
       replace H : (if x12_2.length < 5864062014805 then ((some (x12_2 ++ [(⟨((rd_T49 l0 x13_2).f0), ((rd_T49 l0 x13_2).f1), ji31⟩ : S49)] : List (S49))).bind fun y390 => (if (wrap64 (((rd_T49 l0 x13_2).f2) - (ji31))) > 0 then (if x11_2.length < 5864062014805 then (spec_StoreTake.l0 kj21 l0 a1 (wrap64 (x2_2 - (ji31))) a3 (x11_2 ++ [(⟨((rd_T49 l0 x13_2).f0), ((rd_T49 l0 x13_2).f1), wrap64 (((rd_T49 l0 x13_2).f2) - (ji31))⟩ : S49)]) y390 (wrap64 (x13_2 + 1))) else (none)) else (spec_StoreTake.l0 kj21 l0 a1 (wrap64 (x2_2 - (ji31))) a3 x11_2 y390 (wrap64 (x13_2 + 1))))) else (none)) = some (r1, r2, r3) := by first | (rw [hji31] at H; exact H) | (simp only [hji31] at H ⊢; exact H)
       have hji31_ : (if ((rd_T49 l0 x13_2).f2) < x2_2 then ((rd_T49 l0 x13_2).f2) else x2_2) = ji31 := hji31
       by_cases c32 : x12_2.length < 5864062014805
       rotate_left
       ·rw [if_neg c32] at H
        exact absurd H (by simp)
       rw [if_pos c32] at H
       have LMc32 := Ae_q c32
       clear c32
       obtain ⟨y390, hy390⟩ : ∃ y_ : List (S49), y_ = (x12_2 ++ [(⟨((rd_T49 l0 x13_2).f0), ((rd_T49 l0 x13_2).f1), ji31⟩ : S49)]) := ⟨_, rfl⟩
       replace H : (if (wrap64 (((rd_T49 l0 x13_2).f2) - (ji31))) > 0 then (if x11_2.length < 5864062014805 then (spec_StoreTake.l0 kj21 l0 a1 (wrap64 (x2_2 - (ji31))) a3 (x11_2 ++ [(⟨((rd_T49 l0 x13_2).f0), ((rd_T49 l0 x13_2).f1), wrap64 (((rd_T49 l0 x13_2).f2) - (ji31))⟩ : S49)]) y390 (wrap64 (x13_2 + 1))) else (none)) else (spec_StoreTake.l0 kj21 l0 a1 (wrap64 (x2_2 - (ji31))) a3 x11_2 y390 (wrap64 (x13_2 + 1)))) = some (r1, r2, r3) := by first | (rw [hy390]; with_reducible exact H) | (have H2_ := (oS_q _ _).symm.trans H; rw [hy390]; with_reducible exact H2_) | (have H2_ := (oS_q _ _).symm.trans H; with_reducible exact H2_) | with_reducible exact H | (rw [hy390]; exact H) | exact H
       have Ny390 := Ae_q hy390
       clear hy390
       by_cases c33 : (wrap64 (((rd_T49 l0 x13_2).f2) - (ji31))) > 0
       rotate_left
       ·rw [if_neg c33] at H
        have c33b0 : decide (0 < (wrap64 (((rd_T49 l0 x13_2).f2) - (ji31)))) = false := dF_q c33
        clear c33
        have H' := Ae_q H
        clear H
        have hcz39_0 : cI wc gb389 0 ((rd_T49 l0 x13_2).f0) := cZ BK389 0 rfl
        have hcz39_1 : cI wc gb389 1 ((rd_T49 l0 x13_2).f1) := cZ BK389 1 rfl
        have hcz39_2 : cI wc gb389 2 ((rd_T49 l0 x13_2).f2) := cZ BK389 2 rfl
        have hfz39_0 := bF_q BK389.out 0
        have hfz39_1 := bF_q BK389.out 1
        have hfz39_2 := bF_q BK389.out 2
        go_wp2_with (first | ((with_reducible refine gate_builtin (b := .append) (xs := #[.tmp 64, .tmp 71]) rfl ?_); at_builtin; refine Kd.R_append k49 (w0 := w) w.heap.size rfl (.tmp 64) (.tmp 71) 32 49 (.agg #[(.int .i64 0), (.int .i64 0), (.int .i64 0)]) 24 rfl Tryd.underlying32 info49 rfl (by decide) (by omega) u12 x12_2 (⟨((rd_T49 l0 x13_2).f0), ((rd_T49 l0 x13_2).f1), ji31⟩ : S49) [.int .i64 ((rd_T49 l0 x13_2).f0), .int .i64 ((rd_T49 l0 x13_2).f1), .int .i64 ji31] (fun k_ => some k_ ≠ (u11 : Value).ownBlock ∧ k_ ≠ gb389) (fun _ => False) rfl rfl ?aP (fun _ hk => hk.elim) ?aF ?aO ?aB ?aS ?aL ?_; (case aP => exact m90_q); (case aB => exact m15_q); (case aF => exact m40_q); (case aO => exact (rup HO_12.out)); (case aS => exact (bZ_q m15_q)); (case aL => have := LMc32.out; omega); intro v391 w40 ho hb hg hat; rw [← Ny390.out] at ho; replace HO_11 := Ae_q (rF_q (ok := (fun k_ => k_ ≠ gb389)) m34_q hg hat); replace BK389 := Ae_q (bG_q (g := gb389) (o := .cells #[.int .i64 ((rd_T49 l0 x13_2).f0), .int .i64 ((rd_T49 l0 x13_2).f1), .int .i64 ((rd_T49 l0 x13_2).f2)] 49 (0, 0)) (bup BK389.out) hg (Kd.R_away HO_12.out (fun _ hk => hk.2))); replace HB := Ae_q (hb); have HO392 := Ae_q (ho); clear HO_12; clear ho hb hg hat; have hcz41_0 : cI w40 gb389 0 ((rd_T49 l0 x13_2).f0) := cZ BK389 0 rfl; have hcz41_1 : cI w40 gb389 1 ((rd_T49 l0 x13_2).f1) := cZ BK389 1 rfl; have hcz41_2 : cI w40 gb389 2 ((rd_T49 l0 x13_2).f2) := cZ BK389 2 rfl; have hfz41_0 := bF_q BK389.out 0; have hfz41_1 := bF_q BK389.out 1; have hfz41_2 := bF_q BK389.out 2))
        go_roundg kj21
        case measure => have := HJ4.out; have := HK2.out; have := HJ21.out; omega
        case rel => exact ⟨(wrap64 (x2_2 - (ji31))), (x11_2), (y390), (wrap64 (x13_2 + 1)), m83_q, m2_q, H', ⟨m66_q⟩, ⟨by (with_reducible repeat (first | apply rA_q | apply rN_q | apply rD_q)); exact rM_q (Kd.R_far (p := ⟨gb389, 2, none⟩) (rM_q HO_11.out (fun k_ hk => (⟨hk, hk.1⟩ : _ ∧ k_ ≠ gb389))) (fun _ hk => hk.2) (.int .i64 (wrap64 (((rd_T49 l0 x13_2).f2) - (ji31))))) (fun _ hk => hk.1.2)⟩, ⟨by (with_reducible repeat (first | apply rA_q | apply rN_q | apply rD_q)); exact rM_q (Kd.R_far (p := ⟨gb389, 2, none⟩) (rM_q HO392.out (fun k_ hk => (⟨hk, hk.2⟩ : _ ∧ k_ ≠ gb389))) (fun _ hk => hk.2) (.int .i64 (wrap64 (((rd_T49 l0 x13_2).f2) - (ji31))))) (fun _ hk => hk.1.1)⟩, ⟨m15_q⟩⟩
       rw [if_pos c33] at H
       have c33b0 : decide (0 < (wrap64 (((rd_T49 l0 x13_2).f2) - (ji31)))) = true := dT_q c33
       clear c33
       by_cases c34 : x11_2.length < 5864062014805
       rotate_left
       ·rw [if_neg c34] at H
        exact absurd H (by simp)
       rw [if_pos c34] at H
       have LMc34 := Ae_q c34
       clear c34
       obtain ⟨y393, hy393⟩ : ∃ y_ : List (S49), y_ = (x11_2 ++ [(⟨((rd_T49 l0 x13_2).f0), ((rd_T49 l0 x13_2).f1), wrap64 (((rd_T49 l0 x13_2).f2) - (ji31))⟩ : S49)]) := ⟨_, rfl⟩
       replace H : (spec_StoreTake.l0 kj21 l0 a1 (wrap64 (x2_2 - (ji31))) a3 y393 y390 (wrap64 (x13_2 + 1))) = some (r1, r2, r3) := by first | (rw [hy393]; with_reducible exact H) | (have H2_ := (oS_q _ _).symm.trans H; rw [hy393]; with_reducible exact H2_) | (have H2_ := (oS_q _ _).symm.trans H; with_reducible exact H2_) | with_reducible exact H | (rw [hy393]; exact H) | exact H
       have Ny393 := Ae_q hy393
       clear hy393
       have H' := Ae_q H
       clear H
       have hcz35_0 : cI wc gb389 0 ((rd_T49 l0 x13_2).f0) := cZ BK389 0 rfl
       have hcz35_1 : cI wc gb389 1 ((rd_T49 l0 x13_2).f1) := cZ BK389 1 rfl
       have hcz35_2 : cI wc gb389 2 ((rd_T49 l0 x13_2).f2) := cZ BK389 2 rfl
       have hfz35_0 := bF_q BK389.out 0
       have hfz35_1 := bF_q BK389.out 1
       have hfz35_2 := bF_q BK389.out 2
       go_wp2_with (first | ((with_reducible refine gate_builtin (b := .append) (xs := #[.tmp 64, .tmp 71]) rfl ?_); at_builtin; refine Kd.R_append k49 (w0 := w) w.heap.size rfl (.tmp 64) (.tmp 71) 32 49 (.agg #[(.int .i64 0), (.int .i64 0), (.int .i64 0)]) 24 rfl Tryd.underlying32 info49 rfl (by decide) (by omega) u12 x12_2 (⟨((rd_T49 l0 x13_2).f0), ((rd_T49 l0 x13_2).f1), ji31⟩ : S49) [.int .i64 ((rd_T49 l0 x13_2).f0), .int .i64 ((rd_T49 l0 x13_2).f1), .int .i64 ji31] (fun k_ => some k_ ≠ (u11 : Value).ownBlock ∧ k_ ≠ gb389) (fun _ => False) rfl rfl ?aP (fun _ hk => hk.elim) ?aF ?aO ?aB ?aS ?aL ?_; (case aP => exact m90_q); (case aB => exact m15_q); (case aF => exact m40_q); (case aO => exact (rup HO_12.out)); (case aS => exact (bZ_q m15_q)); (case aL => have := LMc32.out; omega); intro v391 w36 ho hb hg hat; rw [← Ny390.out] at ho; replace HO_11 := Ae_q (rF_q (ok := (fun k_ => k_ ≠ gb389)) m34_q hg hat); replace BK389 := Ae_q (bG_q (g := gb389) (o := .cells #[.int .i64 ((rd_T49 l0 x13_2).f0), .int .i64 ((rd_T49 l0 x13_2).f1), .int .i64 ((rd_T49 l0 x13_2).f2)] 49 (0, 0)) (bup BK389.out) hg (Kd.R_away HO_12.out (fun _ hk => hk.2))); replace HB := Ae_q (hb); have HO392 := Ae_q (ho); clear HO_12; clear ho hb hg hat; have hcz37_0 : cI w36 gb389 0 ((rd_T49 l0 x13_2).f0) := cZ BK389 0 rfl; have hcz37_1 : cI w36 gb389 1 ((rd_T49 l0 x13_2).f1) := cZ BK389 1 rfl; have hcz37_2 : cI w36 gb389 2 ((rd_T49 l0 x13_2).f2) := cZ BK389 2 rfl; have hfz37_0 := bF_q BK389.out 0; have hfz37_1 := bF_q BK389.out 1; have hfz37_2 := bF_q BK389.out 2) | ((with_reducible refine gate_builtin (b := .append) (xs := #[.tmp 84, .tmp 86]) rfl ?_); at_builtin; refine Kd.R_append k49 (w0 := w) w.heap.size rfl (.tmp 84) (.tmp 86) 32 49 (.agg #[(.int .i64 0), (.int .i64 0), (.int .i64 0)]) 24 rfl Tryd.underlying32 info49 rfl (by decide) (by omega) u11 x11_2 (⟨((rd_T49 l0 x13_2).f0), ((rd_T49 l0 x13_2).f1), wrap64 (((rd_T49 l0 x13_2).f2) - (ji31))⟩ : S49) [.int .i64 ((rd_T49 l0 x13_2).f0), .int .i64 ((rd_T49 l0 x13_2).f1), .int .i64 (wrap64 (((rd_T49 l0 x13_2).f2) - (ji31)))] (fun k_ => some k_ ≠ (v391 : Value).ownBlock ∧ k_ ≠ gb389) (fun _ => False) rfl m10_q ?aP (fun _ hk => hk.elim) ?aF ?aO ?aB ?aS ?aL ?_; (case aP => exact k49_mkM _ _ _ (⟨((rd_T49 l0 x13_2).f0), ((rd_T49 l0 x13_2).f1), wrap64 (((rd_T49 l0 x13_2).f2) - (ji31))⟩ : S49)); (case aB => exact m15_q); (case aF => exact (fun k_ hk => ⟨Kd.fresh' (rT_q (by (with_reducible repeat (first | apply rA_q | apply rN_q | apply rD_q)); exact (rM_q (Kd.R_far (p := ⟨gb389, 2, none⟩) (rM_q HO392.out (fun k_ hk => (⟨hk, hk.2⟩ : _ ∧ k_ ≠ gb389))) (fun _ hk => hk.2) (.int .i64 (wrap64 (((rd_T49 l0 x13_2).f2) - (ji31))))) (fun _ h_ => h_.1)))) k_ hk, Kd.freshB (g := gb389) (o := .cells #[.int .i64 ((rd_T49 l0 x13_2).f0), .int .i64 ((rd_T49 l0 x13_2).f1), .int .i64 (wrap64 (((rd_T49 l0 x13_2).f2) - (ji31)))] 49 (0, 0)) m32_q k_ hk⟩)); (case aO => exact (by (with_reducible repeat (first | apply rA_q | apply rN_q | apply rD_q)); exact rM_q (Kd.R_far (p := ⟨gb389, 2, none⟩) (rM_q HO_11.out (fun k_ hk => (⟨hk, hk.1⟩ : _ ∧ k_ ≠ gb389))) (fun _ hk => hk.2) (.int .i64 (wrap64 (((rd_T49 l0 x13_2).f2) - (ji31))))) (fun _ hk => ⟨hk.1.2, hk.1.1⟩))); (case aS => exact (bZ_q m15_q)); (case aL => have := LMc34.out; omega); intro v394 w38 ho hb hg hat; rw [← Ny393.out] at ho; replace BK389 := Ae_q (bG_q (g := gb389) (o := .cells #[.int .i64 ((rd_T49 l0 x13_2).f0), .int .i64 ((rd_T49 l0 x13_2).f1), .int .i64 (wrap64 (((rd_T49 l0 x13_2).f2) - (ji31)))] 49 (0, 0)) m32_q hg (Kd.R_away HO_11.out (fun _ hk => hk.1))); replace HO392 := Ae_q (rF_q (ok := (fun k_ => k_ ≠ gb389)) (by (with_reducible repeat (first | apply rA_q | apply rN_q | apply rD_q)); exact rM_q (Kd.R_far (p := ⟨gb389, 2, none⟩) (rM_q HO392.out (fun k_ hk => (⟨hk, hk.2⟩ : _ ∧ k_ ≠ gb389))) (fun _ hk => hk.2) (.int .i64 (wrap64 (((rd_T49 l0 x13_2).f2) - (ji31))))) (fun _ hk => ⟨hk.1.2, hk.1.1⟩)) hg hat); replace HB := Ae_q (hb); have HO395 := Ae_q (ho); clear HO_11; clear ho hb hg hat))
       go_roundg kj21
       case measure => have := HJ4.out; have := HK2.out; have := HJ21.out; omega
       case rel => exact ⟨(wrap64 (x2_2 - (ji31))), (y393), (y390), (wrap64 (x13_2 + 1)), m83_q, m2_q, H', ⟨m66_q⟩, ⟨by (with_reducible repeat (first | apply rA_q | apply rN_q | apply rD_q)); exact rM_q HO395.out (fun _ hk => hk.1)⟩, ⟨by (with_reducible repeat (first | apply rA_q | apply rN_q | apply rD_q)); exact rM_q HO392.out (fun _ hk => hk.2)⟩, ⟨m15_q⟩⟩

mutual
def spec_StoreDrop.l0 : Nat → List (S49) → Int → List (S49) → List (S49) → Int → Option ((List (S49)) × (List (S49)))
 | 0, _, _, _, _, _ => none
 | k + 1, x0, x1, x6, x7, x8 => if x8 < (x0.length : Int) then ((spec_StoreValid.f k x0).bind fun t405 => (spec_StoreDrop.j1 k x0 x1 x6 x7 x8 t405)) else (spec_StoreDrop.j1 k x0 x1 x6 x7 x8 false)
def spec_StoreDrop.j1 : Nat → List (S49) → Int → List (S49) → List (S49) → Int → Bool → Option ((List (S49)) × (List (S49)))
 | 0, _, _, _, _, _, _ => none
 | k + 1, x0, x1, x6, x7, x8, x18 => if x18 = true then (if 0 ≤ x8 then (if x8 < (x0.length : Int) then (if ((rd_T49 x0 x8).f1) ≥ x1 then (if x6.length < 5864062014805 then (spec_StoreDrop.l0 k x0 x1 (x6 ++ [(⟨(rd_T49 x0 x8).f0, (rd_T49 x0 x8).f1, (rd_T49 x0 x8).f2⟩ : S49)]) x7 (wrap64 (x8 + 1))) else (none)) else (if x7.length < 5864062014805 then (spec_StoreDrop.l0 k x0 x1 x6 (x7 ++ [(⟨(rd_T49 x0 x8).f0, (rd_T49 x0 x8).f1, (rd_T49 x0 x8).f2⟩ : S49)]) (wrap64 (x8 + 1))) else (none))) else (none)) else (none)) else (some (x6, x7))
end
def spec_StoreDrop.f (k : Nat) (l0 : List (S49)) (a1 : Int) : Option ((List (S49)) × (List (S49))) := spec_StoreDrop.l0 k l0 a1 (([] : List (S49))) (([] : List (S49))) 0
set_option maxHeartbeats 8000000 in
set_option maxRecDepth 100000 in
theorem spec_StoreDrop.calls (k : Nat) (A0 : Option Addr) (c0 : Nat) (l0 : List (S49)) (a1 : Int) (r1 : List (S49)) (r2 : List (S49)) (w : World) (hr0 : Kd.C k49 w A0 l0.length l0) (hc0 : l0.length ≤ c0) (h : spec_StoreDrop.f k l0 a1 = some (r1, r2)) :
    Calls Tryd.prog 39 #[.slice A0 l0.length c0, .int .i64 a1] w fun e w' => ∃ v0_ v1_ : Value, e = .returned (.tuple #[v0_, v1_]) ∧ Kd.R k49 49 w' w.heap.size (fun k_ => some k_ ≠ (v1_ : Value).ownBlock) v0_ r1 ∧ Kd.R k49 49 w' w.heap.size (fun k_ => some k_ ≠ (v0_ : Value).ownBlock) v1_ r2 ∧ Below w.heap.size w w' := by
 have hu49 := Tryd.underlying49
 have HR0 := Ae_q hr0
 have HC0 := Ae_q hc0
 clear hr0 hc0
 have HB := Ae_q (bR_q w.heap.size w)
 have H : (spec_StoreDrop.l0 k l0 a1 (([] : List (S49))) (([] : List (S49))) 0) = some (r1, r2) := h
 clear h
 obtain ⟨y399, hy399⟩ : ∃ y_ : List (S49), y_ = (([] : List (S49))) := ⟨_, rfl⟩
 replace H : (spec_StoreDrop.l0 k l0 a1 y399 (([] : List (S49))) 0) = some (r1, r2) := by first | (rw [hy399]; with_reducible exact H) | (have H2_ := (oS_q _ _).symm.trans H; rw [hy399]; with_reducible exact H2_) | (have H2_ := (oS_q _ _).symm.trans H; with_reducible exact H2_) | with_reducible exact H | (rw [hy399]; exact H) | exact H
 have Ny399 := Ae_q hy399
 clear hy399
 obtain ⟨y402, hy402⟩ : ∃ y_ : List (S49), y_ = (([] : List (S49))) := ⟨_, rfl⟩
 replace H : (spec_StoreDrop.l0 k l0 a1 y399 y402 0) = some (r1, r2) := by first | (rw [hy402]; with_reducible exact H) | (have H2_ := (oS_q _ _).symm.trans H; rw [hy402]; with_reducible exact H2_) | (have H2_ := (oS_q _ _).symm.trans H; with_reducible exact H2_) | with_reducible exact H | (rw [hy402]; exact H) | exact H
 have Ny402 := Ae_q hy402
 clear hy402
 have H' := Ae_q H
 clear H
 go_enter Tryd.func39, Tryd.ntmps39
 go_wp2_with (first | ((with_reducible refine gD_q (N := 9) rfl ?_); refine Kd.R_lit k49 _ 49 ?hg (N := 9) ?hd (xs := ([] : List (S49))) (inner := []) (ok := fun _ => True) (okp := fun _ => True) ?hr ?hp (fun _ hk => hk) trivial (bR_q _ _) (nR_q _) (by simp) ?_; (case hd => rfl); (case hg => rfl); (case hr => exact m10_q); (case hp => exact m46_q); intro v400 w3 ho4 hb hg_ hnew_; clear hg_ hnew_; (first | rw [← Ny399.out] at ho4 | (simp only [Int.reduceToNat] at ho4; rw [← Ny399.out] at ho4)); have HO401 := Ae_q (rL_q ho4 (bZ_q (bel HB.out))); replace HB := Ae_q (bT_q (bel HB.out) hb); clear hb ho4) | ((with_reducible refine gD_q (N := 10) rfl ?_); refine Kd.R_lit k49 _ 49 ?hg (N := 10) ?hd (xs := ([] : List (S49))) (inner := []) (ok := fun _ => True) (okp := fun _ => True) ?hr ?hp (fun _ hk => hk) trivial (bR_q _ _) (nR_q _) (by simp) ?_; (case hd => rfl); (case hg => rfl); (case hr => exact m10_q); (case hp => exact m46_q); intro v403 w5 ho6 hb hg_ hnew_; clear hg_ hnew_; (first | rw [← Ny402.out] at ho6 | (simp only [Int.reduceToNat] at ho6; rw [← Ny402.out] at ho6)); have HO404 := Ae_q (rL_q (rW_q ho6 (rT_q (rup HO401.out))) (bZ_q (bel HB.out))); replace HO401 := Ae_q (rE_q (rup HO401.out) (rB_q ho6) hb); replace HB := Ae_q (bT_q (bel HB.out) hb); clear hb ho6))
 go_loopg [6, 7, 8] k (fun kq v6 v7 v8 w' => ∃ (x6_1 : List (S49)) (x7_1 : List (S49)) (x8_1 : Int), v8 = .int .i64 x8_1 ∧ Aside0 (spec_StoreDrop.l0 kq l0 a1 x6_1 x7_1 x8_1 = some (r1, r2)) ∧ Aside0 (kq ≤ k) ∧ Aside0 (Kd.R k49 49 w' w.heap.size (fun k_ => some k_ ≠ (v7 : Value).ownBlock) v6 x6_1) ∧ Aside0 (Kd.R k49 49 w' w.heap.size (fun k_ => some k_ ≠ (v6 : Value).ownBlock) v7 x7_1) ∧ Aside0 (Below w.heap.size w w'))
 case atStart => exact ⟨(y399), (y402), (0), m2_q, H', ⟨nR_q _⟩, ⟨by (with_reducible repeat (first | apply rA_q | apply rN_q | apply rD_q)); exact rM_q HO401.out (fun _ hk => hk.2)⟩, ⟨by (with_reducible repeat (first | apply rA_q | apply rN_q | apply rD_q)); exact rM_q HO404.out (fun _ hk => hk.2)⟩, ⟨bel HB.out⟩⟩
 case round =>
  clear H'
  try clear p2
  try clear c3
  obtain ⟨x6_1, x7_1, x8_1, rfl, HA, HK1, HO_6, HO_7, HB⟩ := hrel
  cases gk with
  | zero => exact absurd HA.out (by simp [spec_StoreDrop.l0])
  | succ k1 =>
   have H := HA.out
   clear HA
   simp only [spec_StoreDrop.l0] at H
   have HC7 := Ae_q H
   clear H
   go_upto_region 4 with (fail)
   go_cut [18] (fun v18 wc => ∃ (kq : Nat) (x18_6 : Bool), v18 = .bool x18_6 ∧ Aside0 (spec_StoreDrop.j1 kq l0 a1 x6_1 x7_1 x8_1 x18_6 = some (r1, r2)) ∧ Aside0 (kq ≤ k1) ∧ Aside0 (Kd.R k49 49 wc w.heap.size (fun k_ => some k_ ≠ (u7 : Value).ownBlock) u6 x6_1) ∧ Aside0 (Kd.R k49 49 wc w.heap.size (fun k_ => some k_ ≠ (u6 : Value).ownBlock) u7 x7_1) ∧ Aside0 (Below w.heap.size w wc))
   case first =>
    have H := HC7.out
    clear HC7
    by_cases c8 : x8_1 < (l0.length : Int)
    rotate_left
    ·rw [if_neg c8] at H
     have c8b0 : decide (x8_1 < (l0.length : Int)) = false := dF_q c8
     clear c8
     (first | rw [c8b0] | (simp only [i64_w, i32_w]; rw [c8b0]) | skip)
     have H' := Ae_q H
     clear H
     go_wp2
     go_meet
     case rel => exact ⟨_, (false), m2_q, H', ⟨m45_q⟩, ⟨rup HO_6.out⟩, ⟨rup HO_7.out⟩, ⟨bel HB.out⟩⟩
    rw [if_pos c8] at H
    have c8b0 : decide (x8_1 < (l0.length : Int)) = true := dT_q c8
    clear c8
    (first | rw [c8b0] | (simp only [i64_w, i32_w]; rw [c8b0]) | skip)
    replace H := oB_q.mp H
    obtain ⟨t405, A90, H⟩ := H
    replace H : (spec_StoreDrop.j1 k1 l0 a1 x6_1 x7_1 x8_1 t405) = some (r1, r2) := H
    have A9 := Ae_q A90
    clear A90
    have H' := Ae_q H
    clear H
    go_wp2_with (first | (go_at_call 54; (with_reducible refine (spec_StoreValid.calls k1 _ _ l0 t405 _ ?side1 ?side2 A9.out).mono ?_); (case side1 => exact m37_q); (case side2 => exact m60_q); rintro e w' ⟨rfl, hb⟩; replace HO_6 := Ae_q (rO_q (rup HO_6.out) hb); replace HO_7 := Ae_q (rO_q (rup HO_7.out) hb); replace HB := Ae_q (bT_q (bel HB.out) hb); (try clear hb); (try clear hb2); (try clear hk); (try clear hi)))
    go_meet
    case rel => exact ⟨_, (t405), m2_q, H', ⟨m45_q⟩, ⟨rup HO_6.out⟩, ⟨rup HO_7.out⟩, ⟨bel HB.out⟩⟩
   case rest =>
    clear HC7
    try clear p2
    try clear c3
    try clear c8
    try clear c8b0
    try clear p2
    obtain ⟨kq, x18_6, rfl, HA, HJ6, HO_6, HO_7, HB⟩ := hcut
    cases kq with
    | zero => exact absurd HA.out (by simp [spec_StoreDrop.j1])
    | succ kj6 =>
     have H := HA.out
     clear HA
     simp only [spec_StoreDrop.j1] at H
     by_cases c11 : x18_6 = true
     rotate_left
     ·replace c11 := fM_q.mpr c11
      subst c11
      have H1 : (some (x6_1, x7_1)) = some (r1, r2) := by rw [if_neg (show ¬ (false = true) by decide)] at H; exact H
      clear H
      have H := H1
      clear H1
      simp only [oE_q, pE_q] at H
      obtain ⟨rfl, rfl⟩ := H
      go_wp2
      go_ret2
      exact ⟨_, _, m3_q, rup HO_6.out, rup HO_7.out, bel HB.out⟩
     subst c11
     have H1 : (if 0 ≤ x8_1 then (if x8_1 < (l0.length : Int) then (if ((rd_T49 l0 x8_1).f1) ≥ a1 then (if x6_1.length < 5864062014805 then (spec_StoreDrop.l0 kj6 l0 a1 (x6_1 ++ [(⟨(rd_T49 l0 x8_1).f0, (rd_T49 l0 x8_1).f1, (rd_T49 l0 x8_1).f2⟩ : S49)]) x7_1 (wrap64 (x8_1 + 1))) else (none)) else (if x7_1.length < 5864062014805 then (spec_StoreDrop.l0 kj6 l0 a1 x6_1 (x7_1 ++ [(⟨(rd_T49 l0 x8_1).f0, (rd_T49 l0 x8_1).f1, (rd_T49 l0 x8_1).f2⟩ : S49)]) (wrap64 (x8_1 + 1))) else (none))) else (none)) else (none)) = some (r1, r2) := by rw [if_pos rfl] at H; exact H
     clear H
     have H := H1
     clear H1
     by_cases c12 : 0 ≤ x8_1
     rotate_left
     ·rw [if_neg c12] at H
      exact absurd H (by simp)
     rw [if_pos c12] at H
     have c12b0 : decide (0 ≤ x8_1) = true := dT_q c12
     clear c12
     by_cases c13 : x8_1 < (l0.length : Int)
     rotate_left
     ·rw [if_neg c13] at H
      exact absurd H (by simp)
     rw [if_pos c13] at H
     have c13b0 : decide (x8_1 < (l0.length : Int)) = true := dT_q c13
     clear c13
     by_cases c14 : ((rd_T49 l0 x8_1).f1) ≥ a1
     ·rw [if_pos c14] at H
      have c14b0 : decide (a1 ≤ ((rd_T49 l0 x8_1).f1)) = true := dT_q c14
      clear c14
      by_cases c15 : x6_1.length < 5864062014805
      rotate_left
      ·rw [if_neg c15] at H
       exact absurd H (by simp)
      rw [if_pos c15] at H
      have LMc15 := Ae_q c15
      clear c15
      obtain ⟨y408, hy408⟩ : ∃ y_ : List (S49), y_ = (x6_1 ++ [(⟨(rd_T49 l0 x8_1).f0, (rd_T49 l0 x8_1).f1, (rd_T49 l0 x8_1).f2⟩ : S49)]) := ⟨_, rfl⟩
      replace H : (spec_StoreDrop.l0 kj6 l0 a1 y408 x7_1 (wrap64 (x8_1 + 1))) = some (r1, r2) := by first | (rw [hy408]; with_reducible exact H) | (have H2_ := (oS_q _ _).symm.trans H; rw [hy408]; with_reducible exact H2_) | (have H2_ := (oS_q _ _).symm.trans H; with_reducible exact H2_) | with_reducible exact H | (rw [hy408]; exact H) | exact H
      have Ny408 := Ae_q hy408
      clear hy408
      have H' := Ae_q H
      clear H
      have p406 : 0 ≤ (x8_1 : Int) := oD_q (by assumption)
      have q406 : x8_1 < (l0.length : Int) := oD_q (by assumption)
      obtain ⟨ad406, e406, hx406_0, hx406_1, hx406_2⟩ := at_T49 HR0.out x8_1 p406 q406
      cases e406
      replace hx406_0 := cel HB.out hx406_0
      replace hx406_1 := cel HB.out hx406_1
      replace hx406_2 := cel HB.out hx406_2
      replace p406 := eq_true p406
      replace q406 := eq_true q406
      have p407 : 0 ≤ (x8_1 : Int) := oD_q (by assumption)
      have q407 : x8_1 < (l0.length : Int) := oD_q (by assumption)
      obtain ⟨ad407, e407, hx407_0, hx407_1, hx407_2⟩ := at_T49 HR0.out x8_1 p407 q407
      obtain rfl : ad406 = ad407 := (by injection e407)
      replace hx407_0 := cel HB.out hx407_0
      replace hx407_1 := cel HB.out hx407_1
      replace hx407_2 := cel HB.out hx407_2
      replace p407 := eq_true p407
      replace q407 := eq_true q407
      go_wp2_with (first | ((with_reducible refine gate_builtin (b := .append) (xs := #[.tmp 28, .tmp 33]) rfl ?_); at_builtin; refine Kd.R_append k49 (w0 := w) w.heap.size rfl (.tmp 28) (.tmp 33) 32 49 (.agg #[(.int .i64 0), (.int .i64 0), (.int .i64 0)]) 24 rfl Tryd.underlying32 info49 rfl (by decide) (by omega) u6 x6_1 (⟨(rd_T49 l0 x8_1).f0, (rd_T49 l0 x8_1).f1, (rd_T49 l0 x8_1).f2⟩ : S49) [.int .i64 ((rd_T49 l0 x8_1).f0), .int .i64 ((rd_T49 l0 x8_1).f1), .int .i64 ((rd_T49 l0 x8_1).f2)] (fun k_ => some k_ ≠ (u7 : Value).ownBlock) (fun _ => False) rfl rfl ?aP (fun _ hk => hk.elim) ?aF ?aO ?aB ?aS ?aL ?_; (case aP => exact m85_q); (case aB => exact m98_q); (case aF => exact (fun k_ hk => Kd.fresh' (rT_q (rup HO_7.out)) k_ hk)); (case aO => exact (rup HO_6.out)); (case aS => exact m95_q); (case aL => have := LMc15.out; omega); intro v409 w16 ho hb hg hat; rw [← Ny408.out] at ho; replace HO_7 := Ae_q (rF_q (ok := (fun _ => True)) (by (with_reducible repeat (first | apply rA_q | apply rN_q | apply rD_q)); exact rM_q HO_7.out (fun _ hk => ⟨trivial, hk⟩)) hg hat); replace HB := Ae_q (hb); have HO410 := Ae_q (ho); clear HO_6; clear ho hb hg hat))
      go_roundg kj6
      case measure => have := HK1.out; have := HJ6.out; omega
      case rel => exact ⟨(y408), (x7_1), (wrap64 (x8_1 + 1)), m2_q, H', ⟨by have := HK1.out; have := HJ6.out; omega⟩, ⟨rup HO410.out⟩, ⟨m77_q⟩, ⟨bel HB.out⟩⟩
     rw [if_neg c14] at H
     have c14b0 : decide (a1 ≤ ((rd_T49 l0 x8_1).f1)) = false := dF_q c14
     clear c14
     by_cases c17 : x7_1.length < 5864062014805
     rotate_left
     ·rw [if_neg c17] at H
      exact absurd H (by simp)
     rw [if_pos c17] at H
     have LMc17 := Ae_q c17
     clear c17
     obtain ⟨y412, hy412⟩ : ∃ y_ : List (S49), y_ = (x7_1 ++ [(⟨(rd_T49 l0 x8_1).f0, (rd_T49 l0 x8_1).f1, (rd_T49 l0 x8_1).f2⟩ : S49)]) := ⟨_, rfl⟩
     replace H : (spec_StoreDrop.l0 kj6 l0 a1 x6_1 y412 (wrap64 (x8_1 + 1))) = some (r1, r2) := by first | (rw [hy412]; with_reducible exact H) | (have H2_ := (oS_q _ _).symm.trans H; rw [hy412]; with_reducible exact H2_) | (have H2_ := (oS_q _ _).symm.trans H; with_reducible exact H2_) | with_reducible exact H | (rw [hy412]; exact H) | exact H
     have Ny412 := Ae_q hy412
     clear hy412
     have H' := Ae_q H
     clear H
     have p406 : 0 ≤ (x8_1 : Int) := oD_q (by assumption)
     have q406 : x8_1 < (l0.length : Int) := oD_q (by assumption)
     obtain ⟨ad406, e406, hx406_0, hx406_1, hx406_2⟩ := at_T49 HR0.out x8_1 p406 q406
     cases e406
     replace hx406_0 := cel HB.out hx406_0
     replace hx406_1 := cel HB.out hx406_1
     replace hx406_2 := cel HB.out hx406_2
     replace p406 := eq_true p406
     replace q406 := eq_true q406
     have p411 : 0 ≤ (x8_1 : Int) := oD_q (by assumption)
     have q411 : x8_1 < (l0.length : Int) := oD_q (by assumption)
     obtain ⟨ad411, e411, hx411_0, hx411_1, hx411_2⟩ := at_T49 HR0.out x8_1 p411 q411
     obtain rfl : ad406 = ad411 := (by injection e411)
     replace hx411_0 := cel HB.out hx411_0
     replace hx411_1 := cel HB.out hx411_1
     replace hx411_2 := cel HB.out hx411_2
     replace p411 := eq_true p411
     replace q411 := eq_true q411
     go_wp2_with (first | ((with_reducible refine gate_builtin (b := .append) (xs := #[.tmp 35, .tmp 40]) rfl ?_); at_builtin; refine Kd.R_append k49 (w0 := w) w.heap.size rfl (.tmp 35) (.tmp 40) 32 49 (.agg #[(.int .i64 0), (.int .i64 0), (.int .i64 0)]) 24 rfl Tryd.underlying32 info49 rfl (by decide) (by omega) u7 x7_1 (⟨(rd_T49 l0 x8_1).f0, (rd_T49 l0 x8_1).f1, (rd_T49 l0 x8_1).f2⟩ : S49) [.int .i64 ((rd_T49 l0 x8_1).f0), .int .i64 ((rd_T49 l0 x8_1).f1), .int .i64 ((rd_T49 l0 x8_1).f2)] (fun k_ => some k_ ≠ (u6 : Value).ownBlock) (fun _ => False) rfl rfl ?aP (fun _ hk => hk.elim) ?aF ?aO ?aB ?aS ?aL ?_; (case aP => exact m85_q); (case aB => exact m98_q); (case aF => exact (fun k_ hk => Kd.fresh' (rT_q (rup HO_6.out)) k_ hk)); (case aO => exact (rup HO_7.out)); (case aS => exact m95_q); (case aL => have := LMc17.out; omega); intro v413 w18 ho hb hg hat; rw [← Ny412.out] at ho; replace HO_6 := Ae_q (rF_q (ok := (fun _ => True)) (by (with_reducible repeat (first | apply rA_q | apply rN_q | apply rD_q)); exact rM_q HO_6.out (fun _ hk => ⟨trivial, hk⟩)) hg hat); replace HB := Ae_q (hb); have HO414 := Ae_q (ho); clear HO_7; clear ho hb hg hat))
     go_roundg kj6
     case measure => have := HK1.out; have := HJ6.out; omega
     case rel => exact ⟨(x6_1), (y412), (wrap64 (x8_1 + 1)), m2_q, H', ⟨by have := HK1.out; have := HJ6.out; omega⟩, ⟨m78_q⟩, ⟨rup HO414.out⟩, ⟨bel HB.out⟩⟩

end Go.Proofs.YtbclhpibilbdbaaDoor.PSc
