import Derived.Test.YtbclhpibilbdbaaDoorVJPScx0
import Derived.Test.YtbclhpibilbdbaaDoorVJPScx9
import Derived.Test.YtbclhpibilbdbaaDoorVJPScx10
import Derived.Test.YtbclhpibilbdbaaDoorVJPScx14
namespace Go.Proofs.YtbclhpibilbdbaaDoor.PSc
open Go.RowKit Go.Proofs.YtbclhpibilbdbaaDoorW.PrintWords Go.Proofs.YtbclhpibilbdbaaDoorW.PrintLast Go.Proofs.YtbclhpibilbdbaaDoorW.PrintMore
attribute [local go_sem] max2_int min2_int max_two min_two max_three min_three max_four min_four
set_option linter.unusedVariables false
set_option linter.unusedSimpArgs false

mutual
def impl_StoreTake.j0 : Nat → List (S49) → Int → Int → Int → Bool → Option ((List (S49)) × (List (S49)) × Bool)
 | 0, _, _, _, _, _ => none
 | k + 1, x0, x1, x2, x3, x26 => if x26 = true then (some (([] : List (S49)), ([] : List (S49)), false)) else (impl_StoreTake.l0 k x1 x2 x3 (([] : List (S49))) (([] : List (S49))) x0 (x0.length : Int) 0)
def impl_StoreTake.l0 : Nat → Int → Int → Int → List (S49) → List (S49) → List (S49) → Int → Int → Option ((List (S49)) × (List (S49)) × Bool)
 | 0, _, _, _, _, _, _, _, _ => none
 | k + 1, x1, x2, x3, x11, x12, x29, x30, x31 => if x31 < x30 then (if 0 ≤ x31 then (if x31 < (x29.length : Int) then (if ((rd_T49 x29 x31).f0) = x1 then (impl_StoreTake.j2 k x1 x2 x3 x11 x12 0 x29 x30 x31 (decide (((rd_T49 x29 x31).f1) ≥ x3)) ((rd_T49 x29 x31).f0) ((rd_T49 x29 x31).f1) ((rd_T49 x29 x31).f2)) else (impl_StoreTake.j2 k x1 x2 x3 x11 x12 0 x29 x30 x31 false ((rd_T49 x29 x31).f0) ((rd_T49 x29 x31).f1) ((rd_T49 x29 x31).f2))) else (none)) else (none)) else (some (x11, x12, true))
def impl_StoreTake.j2 : Nat → Int → Int → Int → List (S49) → List (S49) → Int → List (S49) → Int → Int → Bool → Int → Int → Int → Option ((List (S49)) × (List (S49)) × Bool)
 | 0, _, _, _, _, _, _, _, _, _, _, _, _, _ => none
 | k + 1, x1, x2, x3, x11, x12, x15, x29, x30, x31, x44, x210000, x210001, x210002 => if x44 = true then (impl_StoreTake.j3 k x1 x2 x3 x11 x12 (mn x210002 x2) x29 x30 x31 x210000 x210001 x210002) else (impl_StoreTake.j3 k x1 x2 x3 x11 x12 x15 x29 x30 x31 x210000 x210001 x210002)
def impl_StoreTake.j3 : Nat → Int → Int → Int → List (S49) → List (S49) → Int → List (S49) → Int → Int → Int → Int → Int → Option ((List (S49)) × (List (S49)) × Bool)
 | 0, _, _, _, _, _, _, _, _, _, _, _, _ => none
 | k + 1, x1, x2, x3, x11, x12, x15, x29, x30, x31, x210000, x210001, x210002 => if x15 > 0 then (if x12.length < 5864062014805 then ((some (x12 ++ [(⟨x210000, x210001, x15⟩ : S49)] : List (S49))).bind fun y210 => (if x210002 > x15 then (if x11.length < 5864062014805 then (impl_StoreTake.l0 k x1 (wrap64 (x2 - x15)) x3 (x11 ++ [(⟨x210000, x210001, wrap64 (x210002 - x15)⟩ : S49)]) y210 x29 x30 (wrap64 (x31 + 1))) else (none)) else (impl_StoreTake.l0 k x1 (wrap64 (x2 - x15)) x3 x11 y210 x29 x30 (wrap64 (x31 + 1))))) else (none)) else (if x210002 > x15 then (if x11.length < 5864062014805 then (impl_StoreTake.l0 k x1 (wrap64 (x2 - x15)) x3 (x11 ++ [(⟨x210000, x210001, wrap64 (x210002 - x15)⟩ : S49)]) x12 x29 x30 (wrap64 (x31 + 1))) else (none)) else (impl_StoreTake.l0 k x1 (wrap64 (x2 - x15)) x3 x11 x12 x29 x30 (wrap64 (x31 + 1))))
end
def impl_StoreTake.f (k : Nat) (l0 : List (S49)) (a1 : Int) (a2 : Int) (a3 : Int) : Option ((List (S49)) × (List (S49)) × Bool) := (impl_within.f a2 0 999999).bind fun t200 => (if t200 = true then ((impl_StoreHas.f k l0 a1 a3).bind fun t201 => (impl_StoreTake.j0 k l0 a1 a2 a3 (decide (t201 < a2)))) else (impl_StoreTake.j0 k l0 a1 a2 a3 true))
set_option maxHeartbeats 8000000 in
set_option maxRecDepth 100000 in
theorem impl_StoreTake.calls (k : Nat) (A0 : Option Addr) (c0 : Nat) (l0 : List (S49)) (a1 : Int) (a2 : Int) (a3 : Int) (r1 : List (S49)) (r2 : List (S49)) (r3 : Bool) (w : World) (hr0 : Kd.C k49 w A0 l0.length l0) (hc0 : l0.length ≤ c0) (h : impl_StoreTake.f k l0 a1 a2 a3 = some (r1, r2, r3)) :
    Calls Tryd.prog 31 #[.slice A0 l0.length c0, .int .i64 a1, .int .i64 a2, .int .i64 a3] w fun e w' => ∃ v0_ v1_ : Value, e = .returned (.tuple #[v0_, v1_, .bool r3]) ∧ Kd.R k49 49 w' w.heap.size (fun k_ => some k_ ≠ (v1_ : Value).ownBlock) v0_ r1 ∧ Kd.R k49 49 w' w.heap.size (fun k_ => some k_ ≠ (v0_ : Value).ownBlock) v1_ r2 ∧ Below w.heap.size w w' := by
 have hu49 := Tryd.underlying49
 have HR0 := Ae_q hr0
 have HC0 := Ae_q hc0
 clear hr0 hc0
 have HB := Ae_q (bR_q w.heap.size w)
 have H : ((impl_within.f a2 0 999999).bind fun t200 => (if t200 = true then ((impl_StoreHas.f k l0 a1 a3).bind fun t201 => (impl_StoreTake.j0 k l0 a1 a2 a3 (decide (t201 < a2)))) else (impl_StoreTake.j0 k l0 a1 a2 a3 true))) = some (r1, r2, r3) := h
 clear h
 have HC5 := Ae_q H
 clear H
 go_enter Tryd.func31, Tryd.ntmps31
 go_upto_region 1 with (fail)
 go_cut [26] (fun v26 wc => ∃ (kq : Nat) (x26_4 : Bool), v26 = .bool x26_4 ∧ Aside0 (impl_StoreTake.j0 kq l0 a1 a2 a3 x26_4 = some (r1, r2, r3)) ∧ Aside0 (kq ≤ k) ∧ Aside0 (Below w.heap.size w wc))
 case first =>
  have H := HC5.out
  clear HC5
  replace H := oB_q.mp H
  obtain ⟨t200, A60, H⟩ := H
  replace H : (if t200 = true then ((impl_StoreHas.f k l0 a1 a3).bind fun t201 => (impl_StoreTake.j0 k l0 a1 a2 a3 (decide (t201 < a2)))) else (impl_StoreTake.j0 k l0 a1 a2 a3 true)) = some (r1, r2, r3) := H
  have A6 := Ae_q A60
  clear A60
  by_cases c7 : t200 = true
  rotate_left
  ·replace c7 := fM_q.mpr c7
   subst c7
   have H1 : (impl_StoreTake.j0 k l0 a1 a2 a3 true) = some (r1, r2, r3) := by rw [if_neg (show ¬ (false = true) by decide)] at H; exact H
   clear H
   have H := H1
   clear H1
   have H' := Ae_q H
   clear H
   go_wp2_with (first | ((with_reducible refine gC_q (f := 51) rfl ?_); refine gL_q (some 17) rfl rfl Tryd.func51 m6_q rfl #[.int .i64 a2, .int .i64 0, .int .i64 999999] rfl m0_q ?_; (with_reducible refine (impl_within.calls a2 0 999999 false _ A6.out).mono ?_); rintro e w' ⟨rfl, ⟨nd, rfl⟩⟩; refine ⟨_, rfl, ?_⟩))
   go_meet
   case rel => exact ⟨_, (true), m2_q, H', ⟨m48_q⟩, ⟨bel HB.out⟩⟩
  subst c7
  have H1 : ((impl_StoreHas.f k l0 a1 a3).bind fun t201 => (impl_StoreTake.j0 k l0 a1 a2 a3 (decide (t201 < a2)))) = some (r1, r2, r3) := by rw [if_pos rfl] at H; exact H
  clear H
  have H := H1
  clear H1
  replace H := oB_q.mp H
  obtain ⟨t201, A80, H⟩ := H
  replace H : (impl_StoreTake.j0 k l0 a1 a2 a3 (decide (t201 < a2))) = some (r1, r2, r3) := H
  have A8 := Ae_q A80
  clear A80
  have H' := Ae_q H
  clear H
  go_wp2_with (first | ((with_reducible refine gC_q (f := 51) rfl ?_); refine gL_q (some 17) rfl rfl Tryd.func51 m6_q rfl #[.int .i64 a2, .int .i64 0, .int .i64 999999] rfl m0_q ?_; (with_reducible refine (impl_within.calls a2 0 999999 true _ A6.out).mono ?_); rintro e w' ⟨rfl, ⟨nd, rfl⟩⟩; refine ⟨_, rfl, ?_⟩) | (go_at_call 34; (with_reducible refine (impl_StoreHas.calls k _ _ l0 a1 a3 t201 _ ?side1 ?side2 A8.out).mono ?_); (case side1 => exact m56_q); (case side2 => exact m60_q); rintro e w' ⟨rfl, hb⟩; replace HB := Ae_q (bT_q (bel HB.out) hb); (try clear hb); (try clear hb2); (try clear hk); (try clear hi)))
  go_meet
  case rel => exact ⟨_, (decide (t201 < a2)), m2_q, H', ⟨m48_q⟩, ⟨bel HB.out⟩⟩
 case rest =>
  clear HC5
  try clear p2
  try clear c3
  try clear c5
  try clear c7
  obtain ⟨kq, x26_4, rfl, HA, HJ4, HB⟩ := hcut
  cases kq with
  | zero => exact absurd HA.out (by simp [impl_StoreTake.j0])
  | succ kj4 =>
   have H := HA.out
   clear HA
   simp only [impl_StoreTake.j0] at H
   by_cases c10 : x26_4 = true
   ·subst c10
    have H1 : (some (([] : List (S49)), ([] : List (S49)), false)) = some (r1, r2, r3) := by rw [if_pos rfl] at H; exact H
    clear H
    have H := H1
    clear H1
    simp only [oE_q, pE_q] at H
    obtain ⟨rfl, rfl, rfl⟩ := H
    go_wp2
    go_ret3
    exact ⟨_, _, m3_q, m30_q, m30_q, bel HB.out⟩
   replace c10 := fM_q.mpr c10
   subst c10
   have H1 : (impl_StoreTake.l0 kj4 a1 a2 a3 (([] : List (S49))) (([] : List (S49))) l0 (l0.length : Int) 0) = some (r1, r2, r3) := by rw [if_neg (show ¬ (false = true) by decide)] at H; exact H
   clear H
   have H := H1
   clear H1
   obtain ⟨y202, hy202⟩ : ∃ y_ : List (S49), y_ = (([] : List (S49))) := ⟨_, rfl⟩
   replace H : (impl_StoreTake.l0 kj4 a1 a2 a3 y202 (([] : List (S49))) l0 (l0.length : Int) 0) = some (r1, r2, r3) := by first | (rw [hy202]; with_reducible exact H) | (have H2_ := (oS_q _ _).symm.trans H; rw [hy202]; with_reducible exact H2_) | (have H2_ := (oS_q _ _).symm.trans H; with_reducible exact H2_) | with_reducible exact H | (rw [hy202]; exact H) | exact H
   have Ny202 := Ae_q hy202
   clear hy202
   obtain ⟨y205, hy205⟩ : ∃ y_ : List (S49), y_ = (([] : List (S49))) := ⟨_, rfl⟩
   replace H : (impl_StoreTake.l0 kj4 a1 a2 a3 y202 y205 l0 (l0.length : Int) 0) = some (r1, r2, r3) := by first | (rw [hy205]; with_reducible exact H) | (have H2_ := (oS_q _ _).symm.trans H; rw [hy205]; with_reducible exact H2_) | (have H2_ := (oS_q _ _).symm.trans H; with_reducible exact H2_) | with_reducible exact H | (rw [hy205]; exact H) | exact H
   have Ny205 := Ae_q hy205
   clear hy205
   have H' := Ae_q H
   clear H
   go_wp2_with (first | ((with_reducible refine gD_q (N := 27) rfl ?_); refine Kd.R_lit k49 _ 49 ?hg (N := 27) ?hd (xs := ([] : List (S49))) (inner := []) (ok := fun _ => True) (okp := fun _ => True) ?hr ?hp (fun _ hk => hk) trivial (bR_q _ _) (nR_q _) (by simp) ?_; (case hd => rfl); (case hg => rfl); (case hr => exact m10_q); (case hp => exact m46_q); intro v203 w11 ho12 hb hg_ hnew_; clear hg_ hnew_; (first | rw [← Ny202.out] at ho12 | (simp only [Int.reduceToNat] at ho12; rw [← Ny202.out] at ho12)); have HO204 := Ae_q (rL_q ho12 (bZ_q (bel HB.out))); replace HB := Ae_q (bT_q (bel HB.out) hb); clear hb ho12) | ((with_reducible refine gD_q (N := 28) rfl ?_); refine Kd.R_lit k49 _ 49 ?hg (N := 28) ?hd (xs := ([] : List (S49))) (inner := []) (ok := fun _ => True) (okp := fun _ => True) ?hr ?hp (fun _ hk => hk) trivial (bR_q _ _) (nR_q _) (by simp) ?_; (case hd => rfl); (case hg => rfl); (case hr => exact m10_q); (case hp => exact m46_q); intro v206 w13 ho14 hb hg_ hnew_; clear hg_ hnew_; (first | rw [← Ny205.out] at ho14 | (simp only [Int.reduceToNat] at ho14; rw [← Ny205.out] at ho14)); have HO207 := Ae_q (rL_q (rW_q ho14 (rT_q (rup HO204.out))) (bZ_q (bel HB.out))); replace HO204 := Ae_q (rE_q (rup HO204.out) (rB_q ho14) hb); replace HB := Ae_q (bT_q (bel HB.out) hb); clear hb ho14))
   go_loopg [2, 11, 12, 31] kj4 (fun kq v2 v11 v12 v31 w' => ∃ (x2_2 : Int) (x11_2 : List (S49)) (x12_2 : List (S49)) (x31_2 : Int), v2 = .int .i64 x2_2 ∧ v31 = .int .i64 x31_2 ∧ Aside0 (impl_StoreTake.l0 kq a1 x2_2 a3 x11_2 x12_2 l0 (l0.length : Int) x31_2 = some (r1, r2, r3)) ∧ Aside0 (kq ≤ kj4) ∧ Aside0 (Kd.R k49 49 w' w.heap.size (fun k_ => some k_ ≠ (v12 : Value).ownBlock) v11 x11_2) ∧ Aside0 (Kd.R k49 49 w' w.heap.size (fun k_ => some k_ ≠ (v11 : Value).ownBlock) v12 x12_2) ∧ Aside0 (Below w.heap.size w w'))
   case atStart => exact ⟨(a2), (y202), (y205), (0), m2_q, m2_q, H', ⟨nR_q _⟩, ⟨by (with_reducible repeat (first | apply rA_q | apply rN_q | apply rD_q)); exact rM_q HO204.out (fun _ hk => hk.2)⟩, ⟨by (with_reducible repeat (first | apply rA_q | apply rN_q | apply rD_q)); exact rM_q HO207.out (fun _ hk => hk.2)⟩, ⟨bel HB.out⟩⟩
   case round =>
    clear H'
    try clear c1
    try clear p2
    try clear c3
    try clear c5
    try clear c7
    try clear c10
    try clear p2
    obtain ⟨x2_2, x11_2, x12_2, x31_2, rfl, rfl, HA, HK2, HO_11, HO_12, HB⟩ := hrel
    cases gk with
    | zero => exact absurd HA.out (by simp [impl_StoreTake.l0])
    | succ k2 =>
     have H := HA.out
     clear HA
     simp only [impl_StoreTake.l0] at H
     by_cases c15 : x31_2 < (l0.length : Int)
     rotate_left
     ·rw [if_neg c15] at H
      have c15b0 : decide (x31_2 < (l0.length : Int)) = false := dF_q c15
      clear c15
      simp only [oE_q, pE_q] at H
      obtain ⟨rfl, rfl, rfl⟩ := H
      go_wp2
      go_ret3
      exact ⟨_, _, m3_q, rup HO_11.out, rup HO_12.out, bel HB.out⟩
     rw [if_pos c15] at H
     have c15b0 : decide (x31_2 < (l0.length : Int)) = true := dT_q c15
     clear c15
     by_cases c16 : 0 ≤ x31_2
     rotate_left
     ·rw [if_neg c16] at H
      exact absurd H (by simp)
     rw [if_pos c16] at H
     have c16b0 : decide (0 ≤ x31_2) = true := dT_q c16
     clear c16
     by_cases c17 : x31_2 < (l0.length : Int)
     rotate_left
     ·rw [if_neg c17] at H
      exact absurd H (by simp)
     rw [if_pos c17] at H
     have c17b0 : decide (x31_2 < (l0.length : Int)) = true := dT_q c17
     clear c17
     have HC18 := Ae_q H
     clear H
     have p208 : 0 ≤ (x31_2 : Int) := oD_q (by assumption)
     have q208 : x31_2 < (l0.length : Int) := oD_q (by assumption)
     obtain ⟨ad208, e208, hx208_0, hx208_1, hx208_2⟩ := at_T49 HR0.out x31_2 p208 q208
     cases e208
     replace hx208_0 := cel HB.out hx208_0
     replace hx208_1 := cel HB.out hx208_1
     replace hx208_2 := cel HB.out hx208_2
     replace p208 := eq_true p208
     replace q208 := eq_true q208
     go_upto_region 8 with (first | ((with_reducible refine gD_q (N := 14) rfl ?_); refine bE_q ?hg (N := 14) ?hd (cs := #[.int .i64 0, .int .i64 0, .int .i64 0]) (t := 49) ?hr ?_; (case hd => rfl); (case hg => rfl); (case hr => exact m10_q); intro gb209 hg w19 hbox hb; replace HO_11 := Ae_q (rO_q (Kd.R_elderB (rup HO_11.out) gb209 (Nat.le_of_eq hg.symm)) hb); replace HO_12 := Ae_q (rO_q (Kd.R_elderB (rup HO_12.out) gb209 (Nat.le_of_eq hg.symm)) hb); have BK209 := Ae_q (hbox); have GW209 := Ae_q ((by rw [hg]; exact (bZ_q (bel HB.out)) : w.heap.size ≤ gb209)); have GE209 := Ae_q ((by rw [hg]; exact (bZ_q (bel HB.out)) : w.heap.size ≤ gb209)); replace HB := Ae_q (bT_q (bel HB.out) hb); clear hb hbox hg; have hcz20_0 : cI w19 gb209 0 0 := cZ BK209 0 rfl; have hcz20_1 : cI w19 gb209 1 0 := cZ BK209 1 rfl; have hcz20_2 : cI w19 gb209 2 0 := cZ BK209 2 rfl; have hfz20_0 := bF_q BK209.out 0; have hfz20_1 := bF_q BK209.out 1; have hfz20_2 := bF_q BK209.out 2))
     (try simp only [Act.put, sA_q, sZ_q, sS_q])
     go_cut [44] (fun v44 wc => ∃ (kq : Nat) (x44_17 : Bool), v44 = .bool x44_17 ∧ Aside0 (impl_StoreTake.j2 kq a1 x2_2 a3 x11_2 x12_2 0 l0 (l0.length : Int) x31_2 x44_17 ((rd_T49 l0 x31_2).f0) ((rd_T49 l0 x31_2).f1) ((rd_T49 l0 x31_2).f2) = some (r1, r2, r3)) ∧ Aside0 (kq ≤ k2) ∧ Aside0 (Kd.R k49 49 wc w.heap.size (fun k_ => some k_ ≠ (u12 : Value).ownBlock ∧ k_ ≠ gb209) u11 x11_2) ∧ Aside0 (Kd.R k49 49 wc w.heap.size (fun k_ => some k_ ≠ (u11 : Value).ownBlock ∧ k_ ≠ gb209) u12 x12_2) ∧ Aside0 (wc.heap[gb209]? = some (.cells #[.int .i64 ((rd_T49 l0 x31_2).f0), .int .i64 ((rd_T49 l0 x31_2).f1), .int .i64 ((rd_T49 l0 x31_2).f2)] 49 (0, 0))) ∧ Aside0 (Below w.heap.size w wc))
     case first =>
      have H := HC18.out
      clear HC18
      by_cases c21 : ((rd_T49 l0 x31_2).f0) = a1
      rotate_left
      ·rw [if_neg c21] at H
       have c21b0 : (((rd_T49 l0 x31_2).f0) == a1) = false := fN_q.mpr c21
       have c21b1 : (((rd_T49 l0 x31_2).f0) != a1) = true := nI_q.mpr c21
       (first | rw [c21b0] | (simp only [i64_w, i32_w]; rw [c21b0]) | skip)
       have H' := Ae_q H
       clear H
       have hcz23_0 : cI w19 gb209 0 0 := cZ BK209 0 rfl
       have hcz23_1 : cI w19 gb209 1 0 := cZ BK209 1 rfl
       have hcz23_2 : cI w19 gb209 2 0 := cZ BK209 2 rfl
       have hfz23_0 := bF_q BK209.out 0
       have hfz23_1 := bF_q BK209.out 1
       have hfz23_2 := bF_q BK209.out 2
       go_wp2
       go_meet
       case rel => exact ⟨_, (false), m2_q, H', ⟨m57_q⟩, ⟨m26_q⟩, ⟨m27_q⟩, ⟨m21_q⟩, ⟨m14_q⟩⟩
      rw [if_pos c21] at H
      have c21b0 : (((rd_T49 l0 x31_2).f0) == a1) = true := beq_iff_eq.mpr c21
      have c21b1 : (((rd_T49 l0 x31_2).f0) != a1) = false := nE_q.mpr c21
      clear c21
      (first | rw [c21b0] | (simp only [i64_w, i32_w]; rw [c21b0]) | skip)
      have H' := Ae_q H
      clear H
      have hcz22_0 : cI w19 gb209 0 0 := cZ BK209 0 rfl
      have hcz22_1 : cI w19 gb209 1 0 := cZ BK209 1 rfl
      have hcz22_2 : cI w19 gb209 2 0 := cZ BK209 2 rfl
      have hfz22_0 := bF_q BK209.out 0
      have hfz22_1 := bF_q BK209.out 1
      have hfz22_2 := bF_q BK209.out 2
      go_wp2
      go_meet
      case rel => exact ⟨_, (decide (((rd_T49 l0 x31_2).f1) ≥ a3)), m2_q, H', ⟨m57_q⟩, ⟨m26_q⟩, ⟨m27_q⟩, ⟨m21_q⟩, ⟨m14_q⟩⟩
     case rest =>
      clear HC18
      try clear c1
      try clear c2
      try clear p2
      try clear q2
      try clear hx2
      try clear c3
      try clear c5
      try clear c7
      try clear c10
      try clear c15
      try clear c15b0
      try clear c16
      try clear c16b0
      try clear c17
      try clear c17b0
      try clear p20
      try clear q20
      try clear hx20
      try clear c21
      try clear c21b0
      try clear c21b1
      try clear hcz20_0
      try clear hcz20_1
      try clear hcz20_2
      try clear hcz22_0
      try clear hcz22_1
      try clear hcz22_2
      try clear hcz23_0
      try clear hcz23_1
      try clear hcz23_2
      try clear hfz20_0
      try clear hfz20_1
      try clear hfz20_2
      try clear hfz22_0
      try clear hfz22_1
      try clear hfz22_2
      try clear hfz23_0
      try clear hfz23_1
      try clear hfz23_2
      try clear hx208_0
      try clear hx208_1
      try clear hx208_2
      try clear p2
      try clear p208
      try clear q208
      obtain ⟨kq, x44_17, rfl, HA, HJ17, HO_11, HO_12, BK209, HB⟩ := hcut
      cases kq with
      | zero => exact absurd HA.out (by simp [impl_StoreTake.j2])
      | succ kj17 =>
       have H := HA.out
       clear HA
       simp only [impl_StoreTake.j2] at H
       have HC24 := Ae_q H
       clear H
       go_upto_if 44 with (fail)
       go_cut [15] (fun v15 wc => ∃ (kq : Nat) (x15_23 : Int), v15 = .int .i64 x15_23 ∧ Aside0 (impl_StoreTake.j3 kq a1 x2_2 a3 x11_2 x12_2 x15_23 l0 (l0.length : Int) x31_2 ((rd_T49 l0 x31_2).f0) ((rd_T49 l0 x31_2).f1) ((rd_T49 l0 x31_2).f2) = some (r1, r2, r3)) ∧ Aside0 (kq ≤ kj17) ∧ Aside0 (Kd.R k49 49 wc w.heap.size (fun k_ => some k_ ≠ (u12 : Value).ownBlock ∧ k_ ≠ gb209) u11 x11_2) ∧ Aside0 (Kd.R k49 49 wc w.heap.size (fun k_ => some k_ ≠ (u11 : Value).ownBlock ∧ k_ ≠ gb209) u12 x12_2) ∧ Aside0 (wc.heap[gb209]? = some (.cells #[.int .i64 ((rd_T49 l0 x31_2).f0), .int .i64 ((rd_T49 l0 x31_2).f1), .int .i64 ((rd_T49 l0 x31_2).f2)] 49 (0, 0))) ∧ Aside0 (Below w.heap.size w wc))
       case first =>
        have H := HC24.out
        clear HC24
        by_cases c25 : x44_17 = true
        rotate_left
        ·replace c25 := fM_q.mpr c25
         subst c25
         have H1 : (impl_StoreTake.j3 kj17 a1 x2_2 a3 x11_2 x12_2 0 l0 (l0.length : Int) x31_2 ((rd_T49 l0 x31_2).f0) ((rd_T49 l0 x31_2).f1) ((rd_T49 l0 x31_2).f2)) = some (r1, r2, r3) := by rw [if_neg (show ¬ (false = true) by decide)] at H; exact H
         clear H
         have H := H1
         clear H1
         have H' := Ae_q H
         clear H
         go_wp2
         go_meet
         case rel => exact ⟨_, (0), m2_q, H', ⟨m92_q⟩, ⟨rup HO_11.out⟩, ⟨rup HO_12.out⟩, ⟨bup BK209.out⟩, ⟨m14_q⟩⟩
        subst c25
        have H1 : (impl_StoreTake.j3 kj17 a1 x2_2 a3 x11_2 x12_2 (mn ((rd_T49 l0 x31_2).f2) x2_2) l0 (l0.length : Int) x31_2 ((rd_T49 l0 x31_2).f0) ((rd_T49 l0 x31_2).f1) ((rd_T49 l0 x31_2).f2)) = some (r1, r2, r3) := by rw [if_pos rfl] at H; exact H
        clear H
        have H := H1
        clear H1
        obtain ⟨ji26, hji26⟩ : ∃ j_ : Int, (mn ((rd_T49 l0 x31_2).f2) x2_2) = j_ := ⟨_, rfl⟩
        replace H : (impl_StoreTake.j3 kj17 a1 x2_2 a3 x11_2 x12_2 ji26 l0 (l0.length : Int) x31_2 ((rd_T49 l0 x31_2).f0) ((rd_T49 l0 x31_2).f1) ((rd_T49 l0 x31_2).f2)) = some (r1, r2, r3) := by first | (rw [hji26] at H; exact H) | (simp only [hji26] at H ⊢; exact H)
        have hji26_ : (if x2_2 < ((rd_T49 l0 x31_2).f2) then x2_2 else ((rd_T49 l0 x31_2).f2)) = ji26 := hji26
        have H' := Ae_q H
        clear H
        have hcz27_0 : cI wc gb209 0 ((rd_T49 l0 x31_2).f0) := cZ BK209 0 rfl
        have hcz27_1 : cI wc gb209 1 ((rd_T49 l0 x31_2).f1) := cZ BK209 1 rfl
        have hcz27_2 : cI wc gb209 2 ((rd_T49 l0 x31_2).f2) := cZ BK209 2 rfl
        have hfz27_0 := bF_q BK209.out 0
        have hfz27_1 := bF_q BK209.out 1
        have hfz27_2 := bF_q BK209.out 2
        go_wp2
        go_meet
        case rel => exact ⟨_, (ji26), (by first | rfl | (simp; done) | (simp only [← hji26] <;> (first | rfl | simp)) | (simp [*]; done)), H', ⟨m92_q⟩, ⟨rup HO_11.out⟩, ⟨rup HO_12.out⟩, ⟨bup BK209.out⟩, ⟨m14_q⟩⟩
       case rest =>
        clear HC24
        try clear c1
        try clear c2
        try clear p2
        try clear q2
        try clear hx2
        try clear c3
        try clear c5
        try clear c7
        try clear c10
        try clear c15
        try clear c15b0
        try clear c16
        try clear c16b0
        try clear c17
        try clear c17b0
        try clear p20
        try clear q20
        try clear hx20
        try clear c21
        try clear c21b0
        try clear c21b1
        try clear c25
        try clear hcz20_0
        try clear hcz20_1
        try clear hcz20_2
        try clear hcz22_0
        try clear hcz22_1
        try clear hcz22_2
        try clear hcz23_0
        try clear hcz23_1
        try clear hcz23_2
        try clear hcz27_0
        try clear hcz27_1
        try clear hcz27_2
        try clear hfz20_0
        try clear hfz20_1
        try clear hfz20_2
        try clear hfz22_0
        try clear hfz22_1
        try clear hfz22_2
        try clear hfz23_0
        try clear hfz23_1
        try clear hfz23_2
        try clear hfz27_0
        try clear hfz27_1
        try clear hfz27_2
        try clear hx208_0
        try clear hx208_1
        try clear hx208_2
        try clear p2
        try clear p20
        try clear p208
        try clear q2
        try clear q20
        try clear q208
        obtain ⟨kq, x15_23, rfl, HA, HJ23, HO_11, HO_12, BK209, HB⟩ := hcut
        cases kq with
        | zero => exact absurd HA.out (by simp [impl_StoreTake.j3])
        | succ kj23 =>
         have H := HA.out
         clear HA
         simp only [impl_StoreTake.j3] at H
         by_cases c28 : x15_23 > 0
         rotate_left
         ·rw [if_neg c28] at H
          have c28b0 : decide (0 < x15_23) = false := dF_q c28
          clear c28
          by_cases c39 : ((rd_T49 l0 x31_2).f2) > x15_23
          rotate_left
          ·rw [if_neg c39] at H
           have c39b0 : decide (x15_23 < ((rd_T49 l0 x31_2).f2)) = false := dF_q c39
           clear c39
           have H' := Ae_q H
           clear H
           have hcz43_0 : cI wc gb209 0 ((rd_T49 l0 x31_2).f0) := cZ BK209 0 rfl
           have hcz43_1 : cI wc gb209 1 ((rd_T49 l0 x31_2).f1) := cZ BK209 1 rfl
           have hcz43_2 : cI wc gb209 2 ((rd_T49 l0 x31_2).f2) := cZ BK209 2 rfl
           have hfz43_0 := bF_q BK209.out 0
           have hfz43_1 := bF_q BK209.out 1
           have hfz43_2 := bF_q BK209.out 2
           go_wp2
           go_roundg kj23
           case measure => have := HJ4.out; have := HK2.out; have := HJ17.out; have := HJ23.out; omega
           case rel => exact ⟨(wrap64 (x2_2 - x15_23)), (x11_2), (x12_2), (wrap64 (x31_2 + 1)), m2_q, m2_q, H', ⟨m58_q⟩, ⟨m72_q⟩, ⟨m73_q⟩, ⟨m14_q⟩⟩
          rw [if_pos c39] at H
          have c39b0 : decide (x15_23 < ((rd_T49 l0 x31_2).f2)) = true := dT_q c39
          clear c39
          by_cases c40 : x11_2.length < 5864062014805
          rotate_left
          ·rw [if_neg c40] at H
           exact absurd H (by simp)
          rw [if_pos c40] at H
          have LMc40 := Ae_q c40
          clear c40
          obtain ⟨y216, hy216⟩ : ∃ y_ : List (S49), y_ = (x11_2 ++ [(⟨((rd_T49 l0 x31_2).f0), ((rd_T49 l0 x31_2).f1), wrap64 (((rd_T49 l0 x31_2).f2) - x15_23)⟩ : S49)]) := ⟨_, rfl⟩
          replace H : (impl_StoreTake.l0 kj23 a1 (wrap64 (x2_2 - x15_23)) a3 y216 x12_2 l0 (l0.length : Int) (wrap64 (x31_2 + 1))) = some (r1, r2, r3) := by first | (rw [hy216]; with_reducible exact H) | (have H2_ := (oS_q _ _).symm.trans H; rw [hy216]; with_reducible exact H2_) | (have H2_ := (oS_q _ _).symm.trans H; with_reducible exact H2_) | with_reducible exact H | (rw [hy216]; exact H) | exact H
          have Ny216 := Ae_q hy216
          clear hy216
          have H' := Ae_q H
          clear H
          have hcz41_0 : cI wc gb209 0 ((rd_T49 l0 x31_2).f0) := cZ BK209 0 rfl
          have hcz41_1 : cI wc gb209 1 ((rd_T49 l0 x31_2).f1) := cZ BK209 1 rfl
          have hcz41_2 : cI wc gb209 2 ((rd_T49 l0 x31_2).f2) := cZ BK209 2 rfl
          have hfz41_0 := bF_q BK209.out 0
          have hfz41_1 := bF_q BK209.out 1
          have hfz41_2 := bF_q BK209.out 2
          go_wp2_with (first | ((with_reducible refine gate_builtin (b := .append) (xs := #[.tmp 67, .tmp 77]) rfl ?_); at_builtin; refine Kd.R_append k49 (w0 := w) w.heap.size rfl (.tmp 67) (.tmp 77) 32 49 (.agg #[(.int .i64 0), (.int .i64 0), (.int .i64 0)]) 24 rfl Tryd.underlying32 info49 rfl (by decide) (by omega) u11 x11_2 (⟨((rd_T49 l0 x31_2).f0), ((rd_T49 l0 x31_2).f1), wrap64 (((rd_T49 l0 x31_2).f2) - x15_23)⟩ : S49) [.int .i64 ((rd_T49 l0 x31_2).f0), .int .i64 ((rd_T49 l0 x31_2).f1), .int .i64 (wrap64 (((rd_T49 l0 x31_2).f2) - x15_23))] (fun k_ => some k_ ≠ (u12 : Value).ownBlock ∧ k_ ≠ gb209) (fun _ => False) rfl rfl ?aP (fun _ hk => hk.elim) ?aF ?aO ?aB ?aS ?aL ?_; (case aP => exact m64_q); (case aB => exact m14_q); (case aF => exact (fun k_ hk => ⟨Kd.fresh' (rT_q (rup HO_12.out)) k_ hk, Kd.freshB (g := gb209) (o := .cells #[.int .i64 ((rd_T49 l0 x31_2).f0), .int .i64 ((rd_T49 l0 x31_2).f1), .int .i64 ((rd_T49 l0 x31_2).f2)] 49 (0, 0)) (bup BK209.out) k_ hk⟩)); (case aO => exact (rup HO_11.out)); (case aS => exact (bZ_q m14_q)); (case aL => have := LMc40.out; omega); intro v217 w42 ho hb hg hat; rw [← Ny216.out] at ho; replace HO_12 := Ae_q (rF_q (ok := (fun k_ => k_ ≠ gb209)) m63_q hg hat); replace BK209 := Ae_q (bG_q (g := gb209) (o := .cells #[.int .i64 ((rd_T49 l0 x31_2).f0), .int .i64 ((rd_T49 l0 x31_2).f1), .int .i64 ((rd_T49 l0 x31_2).f2)] 49 (0, 0)) (bup BK209.out) hg (Kd.R_away HO_11.out (fun _ hk => hk.2))); replace HB := Ae_q (hb); have HO218 := Ae_q (ho); clear HO_11; clear ho hb hg hat))
          go_roundg kj23
          case measure => have := HJ4.out; have := HK2.out; have := HJ17.out; have := HJ23.out; omega
          case rel => exact ⟨(wrap64 (x2_2 - x15_23)), (y216), (x12_2), (wrap64 (x31_2 + 1)), m2_q, m2_q, H', ⟨m58_q⟩, ⟨by (with_reducible repeat (first | apply rA_q | apply rN_q | apply rD_q)); exact rM_q HO218.out (fun _ hk => hk.1)⟩, ⟨m74_q⟩, ⟨m14_q⟩⟩
         rw [if_pos c28] at H
         have c28b0 : decide (0 < x15_23) = true := dT_q c28
         clear c28
         by_cases c29 : x12_2.length < 5864062014805
         rotate_left
         ·rw [if_neg c29] at H
          exact absurd H (by simp)
         rw [if_pos c29] at H
         have LMc29 := Ae_q c29
         clear c29
         obtain ⟨y210, hy210⟩ : ∃ y_ : List (S49), y_ = (x12_2 ++ [(⟨((rd_T49 l0 x31_2).f0), ((rd_T49 l0 x31_2).f1), x15_23⟩ : S49)]) := ⟨_, rfl⟩
         replace H : (if ((rd_T49 l0 x31_2).f2) > x15_23 then (if x11_2.length < 5864062014805 then (impl_StoreTake.l0 kj23 a1 (wrap64 (x2_2 - x15_23)) a3 (x11_2 ++ [(⟨((rd_T49 l0 x31_2).f0), ((rd_T49 l0 x31_2).f1), wrap64 (((rd_T49 l0 x31_2).f2) - x15_23)⟩ : S49)]) y210 l0 (l0.length : Int) (wrap64 (x31_2 + 1))) else (none)) else (impl_StoreTake.l0 kj23 a1 (wrap64 (x2_2 - x15_23)) a3 x11_2 y210 l0 (l0.length : Int) (wrap64 (x31_2 + 1)))) = some (r1, r2, r3) := by first | (rw [hy210]; with_reducible exact H) | (have H2_ := (oS_q _ _).symm.trans H; rw [hy210]; with_reducible exact H2_) | (have H2_ := (oS_q _ _).symm.trans H; with_reducible exact H2_) | with_reducible exact H | (rw [hy210]; exact H) | exact H
         have Ny210 := Ae_q hy210
         clear hy210
         by_cases c30 : ((rd_T49 l0 x31_2).f2) > x15_23
         rotate_left
         ·rw [if_neg c30] at H
          have c30b0 : decide (x15_23 < ((rd_T49 l0 x31_2).f2)) = false := dF_q c30
          clear c30
          have H' := Ae_q H
          clear H
          have hcz36_0 : cI wc gb209 0 ((rd_T49 l0 x31_2).f0) := cZ BK209 0 rfl
          have hcz36_1 : cI wc gb209 1 ((rd_T49 l0 x31_2).f1) := cZ BK209 1 rfl
          have hcz36_2 : cI wc gb209 2 ((rd_T49 l0 x31_2).f2) := cZ BK209 2 rfl
          have hfz36_0 := bF_q BK209.out 0
          have hfz36_1 := bF_q BK209.out 1
          have hfz36_2 := bF_q BK209.out 2
          go_wp2_with (first | ((with_reducible refine gate_builtin (b := .append) (xs := #[.tmp 54, .tmp 61]) rfl ?_); at_builtin; refine Kd.R_append k49 (w0 := w) w.heap.size rfl (.tmp 54) (.tmp 61) 32 49 (.agg #[(.int .i64 0), (.int .i64 0), (.int .i64 0)]) 24 rfl Tryd.underlying32 info49 rfl (by decide) (by omega) u12 x12_2 (⟨((rd_T49 l0 x31_2).f0), ((rd_T49 l0 x31_2).f1), x15_23⟩ : S49) [.int .i64 ((rd_T49 l0 x31_2).f0), .int .i64 ((rd_T49 l0 x31_2).f1), .int .i64 x15_23] (fun k_ => some k_ ≠ (u11 : Value).ownBlock ∧ k_ ≠ gb209) (fun _ => False) rfl rfl ?aP (fun _ hk => hk.elim) ?aF ?aO ?aB ?aS ?aL ?_; (case aP => exact m88_q); (case aB => exact m14_q); (case aF => exact m39_q); (case aO => exact (rup HO_12.out)); (case aS => exact (bZ_q m14_q)); (case aL => have := LMc29.out; omega); intro v211 w37 ho hb hg hat; rw [← Ny210.out] at ho; replace HO_11 := Ae_q (rF_q (ok := (fun k_ => k_ ≠ gb209)) m34_q hg hat); replace BK209 := Ae_q (bG_q (g := gb209) (o := .cells #[.int .i64 ((rd_T49 l0 x31_2).f0), .int .i64 ((rd_T49 l0 x31_2).f1), .int .i64 ((rd_T49 l0 x31_2).f2)] 49 (0, 0)) (bup BK209.out) hg (Kd.R_away HO_12.out (fun _ hk => hk.2))); replace HB := Ae_q (hb); have HO212 := Ae_q (ho); clear HO_12; clear ho hb hg hat; have hcz38_0 : cI w37 gb209 0 ((rd_T49 l0 x31_2).f0) := cZ BK209 0 rfl; have hcz38_1 : cI w37 gb209 1 ((rd_T49 l0 x31_2).f1) := cZ BK209 1 rfl; have hcz38_2 : cI w37 gb209 2 ((rd_T49 l0 x31_2).f2) := cZ BK209 2 rfl; have hfz38_0 := bF_q BK209.out 0; have hfz38_1 := bF_q BK209.out 1; have hfz38_2 := bF_q BK209.out 2))
          go_roundg kj23
          case measure => have := HJ4.out; have := HK2.out; have := HJ17.out; have := HJ23.out; omega
          case rel => exact ⟨(wrap64 (x2_2 - x15_23)), (x11_2), (y210), (wrap64 (x31_2 + 1)), m2_q, m2_q, H', ⟨m58_q⟩, ⟨by (with_reducible repeat (first | apply rA_q | apply rN_q | apply rD_q)); exact rM_q HO_11.out (fun _ hk => hk.2)⟩, ⟨by (with_reducible repeat (first | apply rA_q | apply rN_q | apply rD_q)); exact rM_q HO212.out (fun _ hk => hk.1)⟩, ⟨m14_q⟩⟩
         rw [if_pos c30] at H
         have c30b0 : decide (x15_23 < ((rd_T49 l0 x31_2).f2)) = true := dT_q c30
         clear c30
         by_cases c31 : x11_2.length < 5864062014805
         rotate_left
         ·rw [if_neg c31] at H
          exact absurd H (by simp)
         rw [if_pos c31] at H
         have LMc31 := Ae_q c31
         clear c31
         obtain ⟨y213, hy213⟩ : ∃ y_ : List (S49), y_ = (x11_2 ++ [(⟨((rd_T49 l0 x31_2).f0), ((rd_T49 l0 x31_2).f1), wrap64 (((rd_T49 l0 x31_2).f2) - x15_23)⟩ : S49)]) := ⟨_, rfl⟩
         replace H : (impl_StoreTake.l0 kj23 a1 (wrap64 (x2_2 - x15_23)) a3 y213 y210 l0 (l0.length : Int) (wrap64 (x31_2 + 1))) = some (r1, r2, r3) := by first | (rw [hy213]; with_reducible exact H) | (have H2_ := (oS_q _ _).symm.trans H; rw [hy213]; with_reducible exact H2_) | (have H2_ := (oS_q _ _).symm.trans H; with_reducible exact H2_) | with_reducible exact H | (rw [hy213]; exact H) | exact H
         have Ny213 := Ae_q hy213
         clear hy213
         have H' := Ae_q H
         clear H
         have hcz32_0 : cI wc gb209 0 ((rd_T49 l0 x31_2).f0) := cZ BK209 0 rfl
         have hcz32_1 : cI wc gb209 1 ((rd_T49 l0 x31_2).f1) := cZ BK209 1 rfl
         have hcz32_2 : cI wc gb209 2 ((rd_T49 l0 x31_2).f2) := cZ BK209 2 rfl
         have hfz32_0 := bF_q BK209.out 0
         have hfz32_1 := bF_q BK209.out 1
         have hfz32_2 := bF_q BK209.out 2
         go_wp2_with (first | ((with_reducible refine gate_builtin (b := .append) (xs := #[.tmp 54, .tmp 61]) rfl ?_); at_builtin; refine Kd.R_append k49 (w0 := w) w.heap.size rfl (.tmp 54) (.tmp 61) 32 49 (.agg #[(.int .i64 0), (.int .i64 0), (.int .i64 0)]) 24 rfl Tryd.underlying32 info49 rfl (by decide) (by omega) u12 x12_2 (⟨((rd_T49 l0 x31_2).f0), ((rd_T49 l0 x31_2).f1), x15_23⟩ : S49) [.int .i64 ((rd_T49 l0 x31_2).f0), .int .i64 ((rd_T49 l0 x31_2).f1), .int .i64 x15_23] (fun k_ => some k_ ≠ (u11 : Value).ownBlock ∧ k_ ≠ gb209) (fun _ => False) rfl rfl ?aP (fun _ hk => hk.elim) ?aF ?aO ?aB ?aS ?aL ?_; (case aP => exact m88_q); (case aB => exact m14_q); (case aF => exact m39_q); (case aO => exact (rup HO_12.out)); (case aS => exact (bZ_q m14_q)); (case aL => have := LMc29.out; omega); intro v211 w33 ho hb hg hat; rw [← Ny210.out] at ho; replace HO_11 := Ae_q (rF_q (ok := (fun k_ => k_ ≠ gb209)) m34_q hg hat); replace BK209 := Ae_q (bG_q (g := gb209) (o := .cells #[.int .i64 ((rd_T49 l0 x31_2).f0), .int .i64 ((rd_T49 l0 x31_2).f1), .int .i64 ((rd_T49 l0 x31_2).f2)] 49 (0, 0)) (bup BK209.out) hg (Kd.R_away HO_12.out (fun _ hk => hk.2))); replace HB := Ae_q (hb); have HO212 := Ae_q (ho); clear HO_12; clear ho hb hg hat; have hcz34_0 : cI w33 gb209 0 ((rd_T49 l0 x31_2).f0) := cZ BK209 0 rfl; have hcz34_1 : cI w33 gb209 1 ((rd_T49 l0 x31_2).f1) := cZ BK209 1 rfl; have hcz34_2 : cI w33 gb209 2 ((rd_T49 l0 x31_2).f2) := cZ BK209 2 rfl; have hfz34_0 := bF_q BK209.out 0; have hfz34_1 := bF_q BK209.out 1; have hfz34_2 := bF_q BK209.out 2) | ((with_reducible refine gate_builtin (b := .append) (xs := #[.tmp 67, .tmp 77]) rfl ?_); at_builtin; refine Kd.R_append k49 (w0 := w) w.heap.size rfl (.tmp 67) (.tmp 77) 32 49 (.agg #[(.int .i64 0), (.int .i64 0), (.int .i64 0)]) 24 rfl Tryd.underlying32 info49 rfl (by decide) (by omega) u11 x11_2 (⟨((rd_T49 l0 x31_2).f0), ((rd_T49 l0 x31_2).f1), wrap64 (((rd_T49 l0 x31_2).f2) - x15_23)⟩ : S49) [.int .i64 ((rd_T49 l0 x31_2).f0), .int .i64 ((rd_T49 l0 x31_2).f1), .int .i64 (wrap64 (((rd_T49 l0 x31_2).f2) - x15_23))] (fun k_ => some k_ ≠ (v211 : Value).ownBlock ∧ k_ ≠ gb209) (fun _ => False) rfl rfl ?aP (fun _ hk => hk.elim) ?aF ?aO ?aB ?aS ?aL ?_; (case aP => exact m64_q); (case aB => exact m14_q); (case aF => exact (fun k_ hk => ⟨Kd.fresh' (rT_q (rup HO212.out)) k_ hk, Kd.freshB (g := gb209) (o := .cells #[.int .i64 ((rd_T49 l0 x31_2).f0), .int .i64 ((rd_T49 l0 x31_2).f1), .int .i64 ((rd_T49 l0 x31_2).f2)] 49 (0, 0)) (bup BK209.out) k_ hk⟩)); (case aO => exact m34_q); (case aS => exact (bZ_q m14_q)); (case aL => have := LMc31.out; omega); intro v214 w35 ho hb hg hat; rw [← Ny213.out] at ho; replace BK209 := Ae_q (bG_q (g := gb209) (o := .cells #[.int .i64 ((rd_T49 l0 x31_2).f0), .int .i64 ((rd_T49 l0 x31_2).f1), .int .i64 ((rd_T49 l0 x31_2).f2)] 49 (0, 0)) (bup BK209.out) hg (Kd.R_away HO_11.out (fun _ hk => hk.1))); replace HO212 := Ae_q (rF_q (ok := (fun k_ => k_ ≠ gb209)) (by (with_reducible repeat (first | apply rA_q | apply rN_q | apply rD_q)); exact rM_q HO212.out (fun _ hk => ⟨hk.2, hk.1⟩)) hg hat); replace HB := Ae_q (hb); have HO215 := Ae_q (ho); clear HO_11; clear ho hb hg hat))
         go_roundg kj23
         case measure => have := HJ4.out; have := HK2.out; have := HJ17.out; have := HJ23.out; omega
         case rel => exact ⟨(wrap64 (x2_2 - x15_23)), (y213), (y210), (wrap64 (x31_2 + 1)), m2_q, m2_q, H', ⟨m58_q⟩, ⟨by (with_reducible repeat (first | apply rA_q | apply rN_q | apply rD_q)); exact rM_q HO215.out (fun _ hk => hk.1)⟩, ⟨by (with_reducible repeat (first | apply rA_q | apply rN_q | apply rD_q)); exact rM_q HO212.out (fun _ hk => hk.2)⟩, ⟨m14_q⟩⟩

def impl_StoreDrop.l0 : Nat → Int → List (S49) → List (S49) → List (S49) → Int → Int → Option ((List (S49)) × (List (S49)))
 | 0, _, _, _, _, _, _ => none
 | k + 1, x1, x6, x7, x17, x18, x19 => if x19 < x18 then (if 0 ≤ x19 then (if x19 < (x17.length : Int) then (if ((rd_T49 x17 x19).f1) ≥ x1 then (if x6.length < 5864062014805 then (impl_StoreDrop.l0 k x1 (x6 ++ [(⟨(rd_T49 x17 x19).f0, (rd_T49 x17 x19).f1, (rd_T49 x17 x19).f2⟩ : S49)]) x7 x17 x18 (wrap64 (x19 + 1))) else (none)) else (if x7.length < 5864062014805 then (impl_StoreDrop.l0 k x1 x6 (x7 ++ [(⟨(rd_T49 x17 x19).f0, (rd_T49 x17 x19).f1, (rd_T49 x17 x19).f2⟩ : S49)]) x17 x18 (wrap64 (x19 + 1))) else (none))) else (none)) else (none)) else (some (x6, x7))
def impl_StoreDrop.f (k : Nat) (l0 : List (S49)) (a1 : Int) : Option ((List (S49)) × (List (S49))) := (some (([] : List (S49)) : List (S49))).bind fun y219 => ((some (([] : List (S49)) : List (S49))).bind fun y222 => ((impl_StoreValid.f k l0).bind fun t225 => (if t225 = true then (impl_StoreDrop.l0 k a1 y219 y222 l0 (l0.length : Int) 0) else (some (y219, y222)))))
set_option maxHeartbeats 8000000 in
set_option maxRecDepth 100000 in
theorem impl_StoreDrop.calls (k : Nat) (A0 : Option Addr) (c0 : Nat) (l0 : List (S49)) (a1 : Int) (r1 : List (S49)) (r2 : List (S49)) (w : World) (hr0 : Kd.C k49 w A0 l0.length l0) (hc0 : l0.length ≤ c0) (h : impl_StoreDrop.f k l0 a1 = some (r1, r2)) :
    Calls Tryd.prog 32 #[.slice A0 l0.length c0, .int .i64 a1] w fun e w' => ∃ v0_ v1_ : Value, e = .returned (.tuple #[v0_, v1_]) ∧ Kd.R k49 49 w' w.heap.size (fun k_ => some k_ ≠ (v1_ : Value).ownBlock) v0_ r1 ∧ Kd.R k49 49 w' w.heap.size (fun k_ => some k_ ≠ (v0_ : Value).ownBlock) v1_ r2 ∧ Below w.heap.size w w' := by
 have hu49 := Tryd.underlying49
 have HR0 := Ae_q hr0
 have HC0 := Ae_q hc0
 clear hr0 hc0
 have HB := Ae_q (bR_q w.heap.size w)
 have H : ((some (([] : List (S49)) : List (S49))).bind fun y219 => ((some (([] : List (S49)) : List (S49))).bind fun y222 => ((impl_StoreValid.f k l0).bind fun t225 => (if t225 = true then (impl_StoreDrop.l0 k a1 y219 y222 l0 (l0.length : Int) 0) else (some (y219, y222)))))) = some (r1, r2) := h
 clear h
 obtain ⟨y219, hy219⟩ : ∃ y_ : List (S49), y_ = (([] : List (S49))) := ⟨_, rfl⟩
 replace H : ((some (([] : List (S49)) : List (S49))).bind fun y222 => ((impl_StoreValid.f k l0).bind fun t225 => (if t225 = true then (impl_StoreDrop.l0 k a1 y219 y222 l0 (l0.length : Int) 0) else (some (y219, y222))))) = some (r1, r2) := by first | (rw [hy219]; with_reducible exact H) | (have H2_ := (oS_q _ _).symm.trans H; rw [hy219]; with_reducible exact H2_) | (have H2_ := (oS_q _ _).symm.trans H; with_reducible exact H2_) | with_reducible exact H | (rw [hy219]; exact H) | exact H
 have Ny219 := Ae_q hy219
 clear hy219
 obtain ⟨y222, hy222⟩ : ∃ y_ : List (S49), y_ = (([] : List (S49))) := ⟨_, rfl⟩
 replace H : ((impl_StoreValid.f k l0).bind fun t225 => (if t225 = true then (impl_StoreDrop.l0 k a1 y219 y222 l0 (l0.length : Int) 0) else (some (y219, y222)))) = some (r1, r2) := by first | (rw [hy222]; with_reducible exact H) | (have H2_ := (oS_q _ _).symm.trans H; rw [hy222]; with_reducible exact H2_) | (have H2_ := (oS_q _ _).symm.trans H; with_reducible exact H2_) | with_reducible exact H | (rw [hy222]; exact H) | exact H
 have Ny222 := Ae_q hy222
 clear hy222
 replace H := oB_q.mp H
 obtain ⟨t225, A30, H⟩ := H
 replace H : (if t225 = true then (impl_StoreDrop.l0 k a1 y219 y222 l0 (l0.length : Int) 0) else (some (y219, y222))) = some (r1, r2) := H
 have A3 := Ae_q A30
 clear A30
 by_cases c4 : t225 = true
 rotate_left
 ·replace c4 := fM_q.mpr c4
  subst c4
  have H1 : (some (y219, y222)) = some (r1, r2) := by rw [if_neg (show ¬ (false = true) by decide)] at H; exact H
  clear H
  have H := H1
  clear H1
  simp only [oE_q, pE_q] at H
  obtain ⟨rfl, rfl⟩ := H
  go_enter Tryd.func32, Tryd.ntmps32
  go_wp2_with (first | ((with_reducible refine gD_q (N := 10) rfl ?_); refine Kd.R_lit k49 _ 49 ?hg (N := 10) ?hd (xs := ([] : List (S49))) (inner := []) (ok := fun _ => True) (okp := fun _ => True) ?hr ?hp (fun _ hk => hk) trivial (bR_q _ _) (nR_q _) (by simp) ?_; (case hd => rfl); (case hg => rfl); (case hr => exact m10_q); (case hp => exact m46_q); intro v220 w22 ho23 hb hg_ hnew_; clear hg_ hnew_; (first | rw [← Ny219.out] at ho23 | (simp only [Int.reduceToNat] at ho23; rw [← Ny219.out] at ho23)); have HO221 := Ae_q (rL_q ho23 (bZ_q (bel HB.out))); replace HB := Ae_q (bT_q (bel HB.out) hb); clear hb ho23) | ((with_reducible refine gD_q (N := 11) rfl ?_); refine Kd.R_lit k49 _ 49 ?hg (N := 11) ?hd (xs := ([] : List (S49))) (inner := []) (ok := fun _ => True) (okp := fun _ => True) ?hr ?hp (fun _ hk => hk) trivial (bR_q _ _) (nR_q _) (by simp) ?_; (case hd => rfl); (case hg => rfl); (case hr => exact m10_q); (case hp => exact m46_q); intro v223 w24 ho25 hb hg_ hnew_; clear hg_ hnew_; (first | rw [← Ny222.out] at ho25 | (simp only [Int.reduceToNat] at ho25; rw [← Ny222.out] at ho25)); have HO224 := Ae_q (rL_q (rW_q ho25 (rT_q (rup HO221.out))) (bZ_q (bel HB.out))); replace HO221 := Ae_q (rE_q (rup HO221.out) (rB_q ho25) hb); replace HB := Ae_q (bT_q (bel HB.out) hb); clear hb ho25) | ((with_reducible refine gC_q (f := 45) rfl ?_); refine gL_q (some 13) rfl rfl Tryd.func45 m6_q rfl #[.slice A0 l0.length c0] rfl m0_q ?_; (with_reducible refine (impl_StoreValid.calls k _ _ l0 false _ ?side1 ?side2 A3.out).mono ?_); (case side1 => exact m37_q); (case side2 => exact m60_q); rintro e w' ⟨rfl, hb⟩; refine ⟨_, rfl, ?_⟩; replace HO221 := Ae_q (rO_q (rup HO221.out) hb); replace HO224 := Ae_q (rO_q (rup HO224.out) hb); replace HB := Ae_q (bT_q (bel HB.out) hb); (try clear hb); (try clear hb2); (try clear hk); (try clear hi)))
  go_ret2
  exact ⟨_, _, m3_q, m75_q, m76_q, bel HB.out⟩
 subst c4
 have H1 : (impl_StoreDrop.l0 k a1 y219 y222 l0 (l0.length : Int) 0) = some (r1, r2) := by rw [if_pos rfl] at H; exact H
 clear H
 have H := H1
 clear H1
 have H' := Ae_q H
 clear H
 go_enter Tryd.func32, Tryd.ntmps32
 go_wp2_with (first | ((with_reducible refine gD_q (N := 10) rfl ?_); refine Kd.R_lit k49 _ 49 ?hg (N := 10) ?hd (xs := ([] : List (S49))) (inner := []) (ok := fun _ => True) (okp := fun _ => True) ?hr ?hp (fun _ hk => hk) trivial (bR_q _ _) (nR_q _) (by simp) ?_; (case hd => rfl); (case hg => rfl); (case hr => exact m10_q); (case hp => exact m46_q); intro v220 w5 ho6 hb hg_ hnew_; clear hg_ hnew_; (first | rw [← Ny219.out] at ho6 | (simp only [Int.reduceToNat] at ho6; rw [← Ny219.out] at ho6)); have HO221 := Ae_q (rL_q ho6 (bZ_q (bel HB.out))); replace HB := Ae_q (bT_q (bel HB.out) hb); clear hb ho6) | ((with_reducible refine gD_q (N := 11) rfl ?_); refine Kd.R_lit k49 _ 49 ?hg (N := 11) ?hd (xs := ([] : List (S49))) (inner := []) (ok := fun _ => True) (okp := fun _ => True) ?hr ?hp (fun _ hk => hk) trivial (bR_q _ _) (nR_q _) (by simp) ?_; (case hd => rfl); (case hg => rfl); (case hr => exact m10_q); (case hp => exact m46_q); intro v223 w7 ho8 hb hg_ hnew_; clear hg_ hnew_; (first | rw [← Ny222.out] at ho8 | (simp only [Int.reduceToNat] at ho8; rw [← Ny222.out] at ho8)); have HO224 := Ae_q (rL_q (rW_q ho8 (rT_q (rup HO221.out))) (bZ_q (bel HB.out))); replace HO221 := Ae_q (rE_q (rup HO221.out) (rB_q ho8) hb); replace HB := Ae_q (bT_q (bel HB.out) hb); clear hb ho8) | ((with_reducible refine gC_q (f := 45) rfl ?_); refine gL_q (some 13) rfl rfl Tryd.func45 m6_q rfl #[.slice A0 l0.length c0] rfl m0_q ?_; (with_reducible refine (impl_StoreValid.calls k _ _ l0 true _ ?side1 ?side2 A3.out).mono ?_); (case side1 => exact m37_q); (case side2 => exact m60_q); rintro e w' ⟨rfl, hb⟩; refine ⟨_, rfl, ?_⟩; replace HO221 := Ae_q (rO_q (rup HO221.out) hb); replace HO224 := Ae_q (rO_q (rup HO224.out) hb); replace HB := Ae_q (bT_q (bel HB.out) hb); (try clear hb); (try clear hb2); (try clear hk); (try clear hi)))
 go_loopg [6, 7, 19] k (fun kq v6 v7 v19 w' => ∃ (x6_1 : List (S49)) (x7_1 : List (S49)) (x19_1 : Int), v19 = .int .i64 x19_1 ∧ Aside0 (impl_StoreDrop.l0 kq a1 x6_1 x7_1 l0 (l0.length : Int) x19_1 = some (r1, r2)) ∧ Aside0 (kq ≤ k) ∧ Aside0 (Kd.R k49 49 w' w.heap.size (fun k_ => some k_ ≠ (v7 : Value).ownBlock) v6 x6_1) ∧ Aside0 (Kd.R k49 49 w' w.heap.size (fun k_ => some k_ ≠ (v6 : Value).ownBlock) v7 x7_1) ∧ Aside0 (Below w.heap.size w w'))
 case atStart => exact ⟨(y219), (y222), (0), m2_q, H', ⟨nR_q _⟩, ⟨m75_q⟩, ⟨m76_q⟩, ⟨bel HB.out⟩⟩
 case round =>
  clear H'
  try clear p2
  try clear c3
  try clear c4
  obtain ⟨x6_1, x7_1, x19_1, rfl, HA, HK1, HO_6, HO_7, HB⟩ := hrel
  cases gk with
  | zero => exact absurd HA.out (by simp [impl_StoreDrop.l0])
  | succ k1 =>
   have H := HA.out
   clear HA
   simp only [impl_StoreDrop.l0] at H
   by_cases c10 : x19_1 < (l0.length : Int)
   rotate_left
   ·rw [if_neg c10] at H
    have c10b0 : decide (x19_1 < (l0.length : Int)) = false := dF_q c10
    clear c10
    simp only [oE_q, pE_q] at H
    obtain ⟨rfl, rfl⟩ := H
    go_wp2
    go_ret2
    exact ⟨_, _, m3_q, rup HO_6.out, rup HO_7.out, bel HB.out⟩
   rw [if_pos c10] at H
   have c10b0 : decide (x19_1 < (l0.length : Int)) = true := dT_q c10
   clear c10
   by_cases c11 : 0 ≤ x19_1
   rotate_left
   ·rw [if_neg c11] at H
    exact absurd H (by simp)
   rw [if_pos c11] at H
   have c11b0 : decide (0 ≤ x19_1) = true := dT_q c11
   clear c11
   by_cases c12 : x19_1 < (l0.length : Int)
   rotate_left
   ·rw [if_neg c12] at H
    exact absurd H (by simp)
   rw [if_pos c12] at H
   have c12b0 : decide (x19_1 < (l0.length : Int)) = true := dT_q c12
   clear c12
   by_cases c13 : ((rd_T49 l0 x19_1).f1) ≥ a1
   ·rw [if_pos c13] at H
    have c13b0 : decide (a1 ≤ ((rd_T49 l0 x19_1).f1)) = true := dT_q c13
    clear c13
    by_cases c14 : x6_1.length < 5864062014805
    rotate_left
    ·rw [if_neg c14] at H
     exact absurd H (by simp)
    rw [if_pos c14] at H
    have LMc14 := Ae_q c14
    clear c14
    obtain ⟨y228, hy228⟩ : ∃ y_ : List (S49), y_ = (x6_1 ++ [(⟨(rd_T49 l0 x19_1).f0, (rd_T49 l0 x19_1).f1, (rd_T49 l0 x19_1).f2⟩ : S49)]) := ⟨_, rfl⟩
    replace H : (impl_StoreDrop.l0 k1 a1 y228 x7_1 l0 (l0.length : Int) (wrap64 (x19_1 + 1))) = some (r1, r2) := by first | (rw [hy228]; with_reducible exact H) | (have H2_ := (oS_q _ _).symm.trans H; rw [hy228]; with_reducible exact H2_) | (have H2_ := (oS_q _ _).symm.trans H; with_reducible exact H2_) | with_reducible exact H | (rw [hy228]; exact H) | exact H
    have Ny228 := Ae_q hy228
    clear hy228
    have H' := Ae_q H
    clear H
    have p226 : 0 ≤ (x19_1 : Int) := oD_q (by assumption)
    have q226 : x19_1 < (l0.length : Int) := oD_q (by assumption)
    obtain ⟨ad226, e226, hx226_0, hx226_1, hx226_2⟩ := at_T49 HR0.out x19_1 p226 q226
    cases e226
    replace hx226_0 := cel HB.out hx226_0
    replace hx226_1 := cel HB.out hx226_1
    replace hx226_2 := cel HB.out hx226_2
    replace p226 := eq_true p226
    replace q226 := eq_true q226
    go_wp2_with (first | ((with_reducible refine gD_q (N := 9) rfl ?_); refine bE_q ?hg (N := 9) ?hd (cs := #[.int .i64 0, .int .i64 0, .int .i64 0]) (t := 49) ?hr ?_; (case hd => rfl); (case hg => rfl); (case hr => exact m10_q); intro gb227 hg w15 hbox hb; replace HO_6 := Ae_q (rO_q (Kd.R_elderB (rup HO_6.out) gb227 (Nat.le_of_eq hg.symm)) hb); replace HO_7 := Ae_q (rO_q (Kd.R_elderB (rup HO_7.out) gb227 (Nat.le_of_eq hg.symm)) hb); have BK227 := Ae_q (hbox); have GW227 := Ae_q ((by rw [hg]; exact (bZ_q (bel HB.out)) : w.heap.size ≤ gb227)); have GE227 := Ae_q ((by rw [hg]; exact (bZ_q (bel HB.out)) : w.heap.size ≤ gb227)); replace HB := Ae_q (bT_q (bel HB.out) hb); clear hb hbox hg; have hcz16_0 : cI w15 gb227 0 0 := cZ BK227 0 rfl; have hcz16_1 : cI w15 gb227 1 0 := cZ BK227 1 rfl; have hcz16_2 : cI w15 gb227 2 0 := cZ BK227 2 rfl; have hfz16_0 := bF_q BK227.out 0; have hfz16_1 := bF_q BK227.out 1; have hfz16_2 := bF_q BK227.out 2) | ((with_reducible refine gate_builtin (b := .append) (xs := #[.tmp 27, .tmp 29]) rfl ?_); at_builtin; refine Kd.R_append k49 (w0 := w) w.heap.size rfl (.tmp 27) (.tmp 29) 32 49 (.agg #[(.int .i64 0), (.int .i64 0), (.int .i64 0)]) 24 rfl Tryd.underlying32 info49 rfl (by decide) (by omega) u6 x6_1 (⟨(rd_T49 l0 x19_1).f0, (rd_T49 l0 x19_1).f1, (rd_T49 l0 x19_1).f2⟩ : S49) [.int .i64 ((rd_T49 l0 x19_1).f0), .int .i64 ((rd_T49 l0 x19_1).f1), .int .i64 ((rd_T49 l0 x19_1).f2)] (fun k_ => some k_ ≠ (u7 : Value).ownBlock ∧ k_ ≠ gb227) (fun _ => False) rfl m10_q ?aP (fun _ hk => hk.elim) ?aF ?aO ?aB ?aS ?aL ?_; (case aP => exact m82_q); (case aB => exact m31_q); (case aF => exact (fun k_ hk => ⟨Kd.fresh' (rT_q (by (with_reducible repeat (first | apply rA_q | apply rN_q | apply rD_q)); exact (rM_q (Kd.R_far (p := ⟨gb227, 2, none⟩) (Kd.R_far (p := ⟨gb227, 1, none⟩) (Kd.R_far (p := ⟨gb227, 0, none⟩) (rM_q HO_7.out (fun k_ hk => (⟨hk, hk.2⟩ : _ ∧ k_ ≠ gb227))) (fun _ hk => hk.2) (.int .i64 ((rd_T49 l0 x19_1).f0))) (fun _ hk => hk.2) (.int .i64 ((rd_T49 l0 x19_1).f1))) (fun _ hk => hk.2) (.int .i64 ((rd_T49 l0 x19_1).f2))) (fun _ h_ => h_.1)))) k_ hk, Kd.freshB (g := gb227) (o := .cells #[.int .i64 ((rd_T49 l0 x19_1).f0), .int .i64 ((rd_T49 l0 x19_1).f1), .int .i64 ((rd_T49 l0 x19_1).f2)] 49 (0, 0)) m7_q k_ hk⟩)); (case aO => exact (by (with_reducible repeat (first | apply rA_q | apply rN_q | apply rD_q)); exact rM_q (Kd.R_far (p := ⟨gb227, 2, none⟩) (Kd.R_far (p := ⟨gb227, 1, none⟩) (Kd.R_far (p := ⟨gb227, 0, none⟩) (rM_q HO_6.out (fun k_ hk => (⟨hk, hk.2⟩ : _ ∧ k_ ≠ gb227))) (fun _ hk => hk.2) (.int .i64 ((rd_T49 l0 x19_1).f0))) (fun _ hk => hk.2) (.int .i64 ((rd_T49 l0 x19_1).f1))) (fun _ hk => hk.2) (.int .i64 ((rd_T49 l0 x19_1).f2))) (fun _ hk => ⟨hk.1.1, hk.1.2⟩))); (case aS => exact (bZ_q m31_q)); (case aL => have := LMc14.out; omega); intro v229 w17 ho hb hg hat; rw [← Ny228.out] at ho; replace HO_7 := Ae_q (rF_q (ok := (fun k_ => k_ ≠ gb227)) (by (with_reducible repeat (first | apply rA_q | apply rN_q | apply rD_q)); exact rM_q (Kd.R_far (p := ⟨gb227, 2, none⟩) (Kd.R_far (p := ⟨gb227, 1, none⟩) (Kd.R_far (p := ⟨gb227, 0, none⟩) (rM_q HO_7.out (fun k_ hk => (⟨hk, hk.2⟩ : _ ∧ k_ ≠ gb227))) (fun _ hk => hk.2) (.int .i64 ((rd_T49 l0 x19_1).f0))) (fun _ hk => hk.2) (.int .i64 ((rd_T49 l0 x19_1).f1))) (fun _ hk => hk.2) (.int .i64 ((rd_T49 l0 x19_1).f2))) (fun _ hk => ⟨hk.1.2, hk.1.1⟩)) hg hat); replace BK227 := Ae_q (bG_q (g := gb227) (o := .cells #[.int .i64 ((rd_T49 l0 x19_1).f0), .int .i64 ((rd_T49 l0 x19_1).f1), .int .i64 ((rd_T49 l0 x19_1).f2)] 49 (0, 0)) m7_q hg (Kd.R_away HO_6.out (fun _ hk => hk.2))); replace HB := Ae_q (hb); have HO230 := Ae_q (ho); clear HO_6; clear ho hb hg hat))
    go_roundg k1
    case measure => have := HK1.out; omega
    case rel => exact ⟨(y228), (x7_1), (wrap64 (x19_1 + 1)), m2_q, H', ⟨m38_q⟩, ⟨by (with_reducible repeat (first | apply rA_q | apply rN_q | apply rD_q)); exact rM_q HO230.out (fun _ hk => hk.1)⟩, ⟨m77_q⟩, ⟨m31_q⟩⟩
   rw [if_neg c13] at H
   have c13b0 : decide (a1 ≤ ((rd_T49 l0 x19_1).f1)) = false := dF_q c13
   clear c13
   by_cases c18 : x7_1.length < 5864062014805
   rotate_left
   ·rw [if_neg c18] at H
    exact absurd H (by simp)
   rw [if_pos c18] at H
   have LMc18 := Ae_q c18
   clear c18
   obtain ⟨y231, hy231⟩ : ∃ y_ : List (S49), y_ = (x7_1 ++ [(⟨(rd_T49 l0 x19_1).f0, (rd_T49 l0 x19_1).f1, (rd_T49 l0 x19_1).f2⟩ : S49)]) := ⟨_, rfl⟩
   replace H : (impl_StoreDrop.l0 k1 a1 x6_1 y231 l0 (l0.length : Int) (wrap64 (x19_1 + 1))) = some (r1, r2) := by first | (rw [hy231]; with_reducible exact H) | (have H2_ := (oS_q _ _).symm.trans H; rw [hy231]; with_reducible exact H2_) | (have H2_ := (oS_q _ _).symm.trans H; with_reducible exact H2_) | with_reducible exact H | (rw [hy231]; exact H) | exact H
   have Ny231 := Ae_q hy231
   clear hy231
   have H' := Ae_q H
   clear H
   have p226 : 0 ≤ (x19_1 : Int) := oD_q (by assumption)
   have q226 : x19_1 < (l0.length : Int) := oD_q (by assumption)
   obtain ⟨ad226, e226, hx226_0, hx226_1, hx226_2⟩ := at_T49 HR0.out x19_1 p226 q226
   cases e226
   replace hx226_0 := cel HB.out hx226_0
   replace hx226_1 := cel HB.out hx226_1
   replace hx226_2 := cel HB.out hx226_2
   replace p226 := eq_true p226
   replace q226 := eq_true q226
   go_wp2_with (first | ((with_reducible refine gD_q (N := 9) rfl ?_); refine bE_q ?hg (N := 9) ?hd (cs := #[.int .i64 0, .int .i64 0, .int .i64 0]) (t := 49) ?hr ?_; (case hd => rfl); (case hg => rfl); (case hr => exact m10_q); intro gb227 hg w19 hbox hb; replace HO_6 := Ae_q (rO_q (Kd.R_elderB (rup HO_6.out) gb227 (Nat.le_of_eq hg.symm)) hb); replace HO_7 := Ae_q (rO_q (Kd.R_elderB (rup HO_7.out) gb227 (Nat.le_of_eq hg.symm)) hb); have BK227 := Ae_q (hbox); have GW227 := Ae_q ((by rw [hg]; exact (bZ_q (bel HB.out)) : w.heap.size ≤ gb227)); have GE227 := Ae_q ((by rw [hg]; exact (bZ_q (bel HB.out)) : w.heap.size ≤ gb227)); replace HB := Ae_q (bT_q (bel HB.out) hb); clear hb hbox hg; have hcz20_0 : cI w19 gb227 0 0 := cZ BK227 0 rfl; have hcz20_1 : cI w19 gb227 1 0 := cZ BK227 1 rfl; have hcz20_2 : cI w19 gb227 2 0 := cZ BK227 2 rfl; have hfz20_0 := bF_q BK227.out 0; have hfz20_1 := bF_q BK227.out 1; have hfz20_2 := bF_q BK227.out 2) | ((with_reducible refine gate_builtin (b := .append) (xs := #[.tmp 31, .tmp 33]) rfl ?_); at_builtin; refine Kd.R_append k49 (w0 := w) w.heap.size rfl (.tmp 31) (.tmp 33) 32 49 (.agg #[(.int .i64 0), (.int .i64 0), (.int .i64 0)]) 24 rfl Tryd.underlying32 info49 rfl (by decide) (by omega) u7 x7_1 (⟨(rd_T49 l0 x19_1).f0, (rd_T49 l0 x19_1).f1, (rd_T49 l0 x19_1).f2⟩ : S49) [.int .i64 ((rd_T49 l0 x19_1).f0), .int .i64 ((rd_T49 l0 x19_1).f1), .int .i64 ((rd_T49 l0 x19_1).f2)] (fun k_ => some k_ ≠ (u6 : Value).ownBlock ∧ k_ ≠ gb227) (fun _ => False) rfl m10_q ?aP (fun _ hk => hk.elim) ?aF ?aO ?aB ?aS ?aL ?_; (case aP => exact m82_q); (case aB => exact m31_q); (case aF => exact (fun k_ hk => ⟨Kd.fresh' (rT_q (by (with_reducible repeat (first | apply rA_q | apply rN_q | apply rD_q)); exact (rM_q (Kd.R_far (p := ⟨gb227, 2, none⟩) (Kd.R_far (p := ⟨gb227, 1, none⟩) (Kd.R_far (p := ⟨gb227, 0, none⟩) (rM_q HO_6.out (fun k_ hk => (⟨hk, hk.2⟩ : _ ∧ k_ ≠ gb227))) (fun _ hk => hk.2) (.int .i64 ((rd_T49 l0 x19_1).f0))) (fun _ hk => hk.2) (.int .i64 ((rd_T49 l0 x19_1).f1))) (fun _ hk => hk.2) (.int .i64 ((rd_T49 l0 x19_1).f2))) (fun _ h_ => h_.1)))) k_ hk, Kd.freshB (g := gb227) (o := .cells #[.int .i64 ((rd_T49 l0 x19_1).f0), .int .i64 ((rd_T49 l0 x19_1).f1), .int .i64 ((rd_T49 l0 x19_1).f2)] 49 (0, 0)) m7_q k_ hk⟩)); (case aO => exact (by (with_reducible repeat (first | apply rA_q | apply rN_q | apply rD_q)); exact rM_q (Kd.R_far (p := ⟨gb227, 2, none⟩) (Kd.R_far (p := ⟨gb227, 1, none⟩) (Kd.R_far (p := ⟨gb227, 0, none⟩) (rM_q HO_7.out (fun k_ hk => (⟨hk, hk.2⟩ : _ ∧ k_ ≠ gb227))) (fun _ hk => hk.2) (.int .i64 ((rd_T49 l0 x19_1).f0))) (fun _ hk => hk.2) (.int .i64 ((rd_T49 l0 x19_1).f1))) (fun _ hk => hk.2) (.int .i64 ((rd_T49 l0 x19_1).f2))) (fun _ hk => ⟨hk.1.1, hk.1.2⟩))); (case aS => exact (bZ_q m31_q)); (case aL => have := LMc18.out; omega); intro v232 w21 ho hb hg hat; rw [← Ny231.out] at ho; replace HO_6 := Ae_q (rF_q (ok := (fun k_ => k_ ≠ gb227)) (by (with_reducible repeat (first | apply rA_q | apply rN_q | apply rD_q)); exact rM_q (Kd.R_far (p := ⟨gb227, 2, none⟩) (Kd.R_far (p := ⟨gb227, 1, none⟩) (Kd.R_far (p := ⟨gb227, 0, none⟩) (rM_q HO_6.out (fun k_ hk => (⟨hk, hk.2⟩ : _ ∧ k_ ≠ gb227))) (fun _ hk => hk.2) (.int .i64 ((rd_T49 l0 x19_1).f0))) (fun _ hk => hk.2) (.int .i64 ((rd_T49 l0 x19_1).f1))) (fun _ hk => hk.2) (.int .i64 ((rd_T49 l0 x19_1).f2))) (fun _ hk => ⟨hk.1.2, hk.1.1⟩)) hg hat); replace BK227 := Ae_q (bG_q (g := gb227) (o := .cells #[.int .i64 ((rd_T49 l0 x19_1).f0), .int .i64 ((rd_T49 l0 x19_1).f1), .int .i64 ((rd_T49 l0 x19_1).f2)] 49 (0, 0)) m7_q hg (Kd.R_away HO_7.out (fun _ hk => hk.2))); replace HB := Ae_q (hb); have HO233 := Ae_q (ho); clear HO_7; clear ho hb hg hat))
   go_roundg k1
   case measure => have := HK1.out; omega
   case rel => exact ⟨(x6_1), (y231), (wrap64 (x19_1 + 1)), m2_q, H', ⟨m38_q⟩, ⟨m78_q⟩, ⟨by (with_reducible repeat (first | apply rA_q | apply rN_q | apply rD_q)); exact rM_q HO233.out (fun _ hk => hk.1)⟩, ⟨m31_q⟩⟩

end Go.Proofs.YtbclhpibilbdbaaDoor.PSc
