import Derived.Test.YtnckblolijkdaaaVCPBtx0
import Derived.Test.YtnckblolijkdaaaVCPBtx15
import Derived.Test.YtnckblolijkdaaaVCPBtx16
import Derived.Test.YtnckblolijkdaaaVCPBtx17
namespace Go.Proofs.Ytnckblolijkdaaa.PBt
open Go.RowKit Go.Proofs.YtnckblolijkdaaaW.PrintWords Go.Proofs.YtnckblolijkdaaaW.PrintLast Go.Proofs.YtnckblolijkdaaaW.PrintMore
attribute [local go_sem] max2_int min2_int max_two min_two max_three min_three max_four min_four
set_option linter.unusedVariables false
set_option linter.unusedSimpArgs false

mutual
def laws_FnPlatesPart.j0 : Nat → List Int → List Int → Bool → Option (Bool)
 | 0, _, _, _ => none
 | k + 1, x0, x1, x19 => if x19 = true then (some true) else ((spec_DrawPlatesValid.f k x0).bind fun bt355 => ((impl_PlatesValid.f k bt355.1 bt355.2).bind fun t361 => ((spec_PlatesValid.f k bt355.1 bt355.2).bind fun t362 => (if (t361 != t362) = true then (laws_FnPlatesPart.j1 k x1 bt355.1 bt355.2 t361 t362 true) else (if t361 = true then (laws_FnPlatesPart.j1 k x1 bt355.1 bt355.2 t361 t362 ((bt355.2.length : Int) == 0)) else (laws_FnPlatesPart.j1 k x1 bt355.1 bt355.2 t361 t362 true))))))
def laws_FnPlatesPart.j1 : Nat → List Int → List (S39) → List (S49) → Bool → Bool → Bool → Option (Bool)
 | 0, _, _, _, _, _, _ => none
 | k + 1, x1, x5, x6, x7, x8, x42 => if x42 = true then (some (x7 == x8)) else (if (x6.length : Int) = 0 then (none) else ((some (([] : List (S49)) : List (S49))).bind fun y363 => (if 0 ≤ ((x1.length : Int) % (x6.length : Int)) then (if ((x1.length : Int) % (x6.length : Int)) ≤ (x6.length : Int) then ((some (x6.take (((x1.length : Int) % (x6.length : Int)) : Int).toNat : List (S49))).bind fun y366 => (if y363.length + y366.length < 5864062014805 then ((some (y363 ++ y366 : List (S49))).bind fun y371 => (if 0 ≤ (wrap64 (((x1.length : Int) % (x6.length : Int)) + 1)) then (if (wrap64 (((x1.length : Int) % (x6.length : Int)) + 1)) ≤ (x6.length : Int) then ((some (x6.drop ((wrap64 (((x1.length : Int) % (x6.length : Int)) + 1)) : Int).toNat : List (S49))).bind fun y374 => (if y371.length + y374.length < 5864062014805 then ((some (([] : List (S49)) : List (S49))).bind fun y382 => (if y382.length + x6.length < 5864062014805 then ((some (y382 ++ x6 : List (S49))).bind fun y385 => (if ((x1.length : Int) % (x6.length : Int)) < (y385.length : Int) then ((impl_PlatesValid.f k x5 (y371 ++ y374)).bind fun t389 => (if t389 = true then ((impl_PlatesValid.f k x5 (y385.set (((x1.length : Int) % (x6.length : Int)) : Int).toNat (⟨(rd_T49 y385 ((x1.length : Int) % (x6.length : Int))).f0, 0, (rd_T49 y385 ((x1.length : Int) % (x6.length : Int))).f2⟩ : S49))).bind fun t390 => (some (!t390))) else (some false))) else (none))) else (none))) else (none))) else (none)) else (none))) else (none))) else (none)) else (none))))
end
def laws_FnPlatesPart.f (k : Nat) (l0 : List Int) (l1 : List Int) : Option (Bool) := if (l0.length : Int) > 1048576 then (laws_FnPlatesPart.j0 k l0 l1 true) else (laws_FnPlatesPart.j0 k l0 l1 (decide ((l1.length : Int) > 1048576)))
def laws_FnPlatesPart.T9 : Bool × List (List Nat × List Nat) := (true, [([], []), ([], []), ([], []), ([1, 2], [1, 2]), ([0, 3], [0, 3]), ([], []), ([], []), ([6], [6]), ([5, 7], [5, 7]), ([4, 8, 4], [4, 8]), ([9, 9, 0, 1, 2, 3, 4, 5, 6, 7, 8, 9], [9])])
def laws_FnPlatesPart.B9 : List Nat := [0, 0, 0, 6, 15, 0, 0, 64, 224, 511, 1023]
theorem laws_FnPlatesPart.tab9 : rtab .any (opsOf Try.f7 9) = laws_FnPlatesPart.T9 := by kernel_rfl
theorem laws_FnPlatesPart.bits9 : waitsOk laws_FnPlatesPart.T9.2 laws_FnPlatesPart.B9 = true := by kernel_rfl
set_option maxHeartbeats 8000000 in
set_option maxRecDepth 100000 in
theorem laws_FnPlatesPart.calls (k : Nat) (A0 : Option Addr) (c0 : Nat) (l0 : List Int) (A1 : Option Addr) (c1 : Nat) (l1 : List Int) (r : Bool) (w : World) (hr0 : Kd.C (Kd.int .u8) w A0 l0.length l0) (hc0 : l0.length ≤ c0) (hr1 : Kd.C (Kd.int .u8) w A1 l1.length l1) (hc1 : l1.length ≤ c1) (h : laws_FnPlatesPart.f k l0 l1 = some r) :
    Calls Try.prog 7 #[.slice A0 l0.length c0, .slice A1 l1.length c1] w fun e w' => e = .returned (.bool r) ∧ Below w.heap.size w w' := by
 have HR0 := Ae_q hr0
 have HC0 := Ae_q hc0
 clear hr0 hc0
 have HR1 := Ae_q hr1
 have HC1 := Ae_q hc1
 clear hr1 hc1
 have HB := Ae_q (bR_q w.heap.size w)
 have H : (if (l0.length : Int) > 1048576 then (laws_FnPlatesPart.j0 k l0 l1 true) else (laws_FnPlatesPart.j0 k l0 l1 (decide ((l1.length : Int) > 1048576)))) = some r := h
 clear h
 have HC3 := Ae_q H
 clear H
 go_enter Try.func7, Try.ntmps7
 go_upto_region 1 with (fail)
 go_cut [19] (fun v19 wc => ∃ (kq : Nat) (x19_2 : Bool), v19 = .bool x19_2 ∧ Aside0 (laws_FnPlatesPart.j0 kq l0 l1 x19_2 = some r) ∧ Aside0 (kq ≤ k) ∧ Aside0 (Below w.heap.size w wc))
 case first =>
  have H := HC3.out
  clear HC3
  by_cases c4 : (l0.length : Int) > 1048576
  ·rw [if_pos c4] at H
   have c4b0 : decide (1048576 < (l0.length : Int)) = true := dT_q c4
   have c4b1 : decide (1048576 < l0.length) = true := dT_q (by omega)
   clear c4
   (first | rw [c4b0] | (simp only [i64_w, i32_w]; rw [c4b0]) | skip)
   have H' := Ae_q H
   clear H
   go_wp2
   go_meet
   case rel => exact ⟨_, (true), m6_q, H', ⟨m43_q⟩, ⟨bel HB.out⟩⟩
  rw [if_neg c4] at H
  have c4b0 : decide (1048576 < (l0.length : Int)) = false := dF_q c4
  have c4b1 : decide (1048576 < l0.length) = false := dF_q (by omega)
  clear c4
  (first | rw [c4b0] | (simp only [i64_w, i32_w]; rw [c4b0]) | skip)
  have H' := Ae_q H
  clear H
  go_wp2
  go_meet
  case rel => exact ⟨_, (decide ((l1.length : Int) > 1048576)), m6_q, H', ⟨m43_q⟩, ⟨bel HB.out⟩⟩
 case rest =>
  clear HC3
  try clear c1
  try clear p2
  try clear c4
  try clear c4b0
  try clear c4b1
  obtain ⟨kq, x19_2, rfl, HA, HJ2, HB⟩ := hcut
  cases kq with
  | zero => exact absurd HA.out (by simp [laws_FnPlatesPart.j0])
  | succ kj2 =>
   have H := HA.out
   clear HA
   simp only [laws_FnPlatesPart.j0] at H
   by_cases c5 : x19_2 = true
   ·subst c5
    have H1 : (some true) = some r := by rw [if_pos rfl] at H; exact H
    clear H
    have H := H1
    clear H1
    obtain rfl := oI_q H
    go_wp2
    go_ret
    exact ⟨m7_q, bel HB.out⟩
   replace c5 := fM_q.mpr c5
   subst c5
   have H1 : ((spec_DrawPlatesValid.f kj2 l0).bind fun bt355 => ((impl_PlatesValid.f kj2 bt355.1 bt355.2).bind fun t361 => ((spec_PlatesValid.f kj2 bt355.1 bt355.2).bind fun t362 => (if (t361 != t362) = true then (laws_FnPlatesPart.j1 kj2 l1 bt355.1 bt355.2 t361 t362 true) else (if t361 = true then (laws_FnPlatesPart.j1 kj2 l1 bt355.1 bt355.2 t361 t362 ((bt355.2.length : Int) == 0)) else (laws_FnPlatesPart.j1 kj2 l1 bt355.1 bt355.2 t361 t362 true)))))) = some r := by rw [if_neg (show ¬ (false = true) by decide)] at H; exact H
   clear H
   have H := H1
   clear H1
   replace H := oB_q.mp H
   obtain ⟨⟨t355, t358⟩, A60, H⟩ := H
   replace H : ((impl_PlatesValid.f kj2 t355 t358).bind fun t361 => ((spec_PlatesValid.f kj2 t355 t358).bind fun t362 => (if (t361 != t362) = true then (laws_FnPlatesPart.j1 kj2 l1 t355 t358 t361 t362 true) else (if t361 = true then (laws_FnPlatesPart.j1 kj2 l1 t355 t358 t361 t362 ((t358.length : Int) == 0)) else (laws_FnPlatesPart.j1 kj2 l1 t355 t358 t361 t362 true))))) = some r := H
   have A6 := Ae_q A60
   clear A60
   replace H := oB_q.mp H
   obtain ⟨t361, A70, H⟩ := H
   replace H : ((spec_PlatesValid.f kj2 t355 t358).bind fun t362 => (if (t361 != t362) = true then (laws_FnPlatesPart.j1 kj2 l1 t355 t358 t361 t362 true) else (if t361 = true then (laws_FnPlatesPart.j1 kj2 l1 t355 t358 t361 t362 ((t358.length : Int) == 0)) else (laws_FnPlatesPart.j1 kj2 l1 t355 t358 t361 t362 true)))) = some r := H
   have A7 := Ae_q A70
   clear A70
   replace H := oB_q.mp H
   obtain ⟨t362, A80, H⟩ := H
   replace H : (if (t361 != t362) = true then (laws_FnPlatesPart.j1 kj2 l1 t355 t358 t361 t362 true) else (if t361 = true then (laws_FnPlatesPart.j1 kj2 l1 t355 t358 t361 t362 ((t358.length : Int) == 0)) else (laws_FnPlatesPart.j1 kj2 l1 t355 t358 t361 t362 true))) = some r := H
   have A8 := Ae_q A80
   clear A80
   have HC9 := Ae_q H
   clear H
   go_upto_region 6 with (first | ((with_reducible refine gC_q (f := 29) rfl ?_); refine gL_q (some 22) rfl rfl Try.func29 m8_q rfl #[.slice A0 l0.length c0] rfl m1_q ?_; (with_reducible refine (spec_DrawPlatesValid.calls kj2 _ _ l0 t355 t358 _ ?side1 ?side2 A6.out).mono ?_); (case side1 => exact cup (cB_q HR0.out HB.out)); (case side2 => exact HC0.out); rintro e w' ⟨v356, v359, rfl, ho0, ho1, hb⟩; refine ⟨_, rfl, ?_⟩; have HO357 := Ae_q (Kd.N_lower (Kd.N_mono (ok' := fun k_ => some k_ ≠ (v359 : Value).ownBlock) ho0 (fun k_ hk_ => hk_.2)) (bZ_q (bel HB.out))); have HO360 := Ae_q (rL_q (rM_q (ok' := fun k_ => True) ho1 (fun _ hk_ => trivial)) (bZ_q (bel HB.out))); replace HB := Ae_q (bT_q (bel HB.out) hb); (try clear hb); (try clear hb2); (try clear hk); (try clear hi); (try clear ho0); (try clear ho1); obtain ⟨Ao11, co11, eo11⟩ := Kd.N_slice HO357.out; subst eo11; obtain ⟨Ao12, co12, eo12⟩ := rS_q HO360.out; subst eo12) | ((first | ((with_reducible refine gC_q (f := 30) rfl ?_); refine gL_q (some 27) rfl rfl Try.func30 m8_q rfl #[.slice Ao11 t355.length co11, .slice Ao12 t358.length co12] rfl m1_q ?_; (with_reducible refine (impl_PlatesValid.calls kj2 _ _ t355 _ _ t358 t361 _ ?side1 ?side2 ?side3 ?side4 A7.out).mono ?_)) | ((with_reducible refine gC_q (f := 31) rfl ?_); refine gL_q (some 30) rfl rfl Try.func31 m8_q rfl #[.slice Ao11 t355.length co11, .slice Ao12 t358.length co12] rfl m1_q ?_; (with_reducible refine (spec_PlatesValid.calls kj2 _ _ t355 _ _ t358 t362 _ ?side1 ?side2 ?side3 ?side4 A8.out).mono ?_))); (case side1 => repeat (first | exact (Kd.N_reads' HO357.out).2.2 | (with_reducible refine cA_q ?_ _) | (with_reducible refine cN_q ?_ _) | (with_reducible refine cD_q ?_))); (case side2 => exact (Kd.N_reads' HO357.out).2.1); (case side3 => exact cup (rR_q HO360.out).2.2); (case side4 => exact (rR_q HO360.out).2.1); rintro e w' ⟨rfl, hb⟩; refine ⟨_, rfl, ?_⟩; replace HO357 := Ae_q (Kd.N_below m27_q hb); replace HO360 := Ae_q (rO_q (rup HO360.out) hb); replace HB := Ae_q (bT_q (bel HB.out) hb); (try clear hb); (try clear hb2); (try clear hk); (try clear hi)))
   (try simp only [Act.put, sA_q, sZ_q, sS_q])
   go_cut [42] (fun v42 wc => ∃ (kq : Nat) (x42_8 : Bool), v42 = .bool x42_8 ∧ Aside0 (laws_FnPlatesPart.j1 kq l1 t355 t358 t361 t362 x42_8 = some r) ∧ Aside0 (kq ≤ kj2) ∧ Aside0 (Kd.N k39 39 wc w.heap.size (fun k_ => some k_ ≠ ((.slice Ao12 t358.length co12) : Value).ownBlock) (.slice Ao11 t355.length co11) t355) ∧ Aside0 (Kd.R k49 49 wc w.heap.size (fun _ => True) (.slice Ao12 t358.length co12) t358) ∧ Aside0 (Below w.heap.size w wc))
   case first =>
    have H := HC9.out
    clear HC9
    by_cases c15 : (t361 != t362) = true
    ·rw [if_pos c15] at H
     have c15b0 : (t361 != t362) = true := c15
     (try (have c15b1 : decide (t361 = t362) = false := by simpa using c15))
     (try (have c15b2 : (t361 == t362) = false := by simpa using c15))
     (try (have c15b3 : ¬ (t361 = t362) := by simpa using c15))
     clear c15
     (first | rw [c15b0] | (simp only [i64_w, i32_w]; rw [c15b0]) | skip)
     have H' := Ae_q H
     clear H
     go_wp2
     go_meet
     case rel => exact ⟨_, (true), m6_q, H', ⟨m48_q⟩, ⟨m27_q⟩, ⟨rup HO360.out⟩, ⟨bel HB.out⟩⟩
    rw [if_neg c15] at H
    have c15b0 : (t361 != t362) = false := by simpa using c15
    (try (have c15b1 : decide (t361 = t362) = true := by simpa using c15))
    (try (have c15b2 : (t361 == t362) = true := by simpa using c15))
    clear c15
    (first | rw [c15b0] | (simp only [i64_w, i32_w]; rw [c15b0]) | skip)
    by_cases c16 : t361 = true
    ·subst c16
     have H1 : (laws_FnPlatesPart.j1 kj2 l1 t355 t358 true t362 ((t358.length : Int) == 0)) = some r := by rw [if_pos rfl] at H; exact H
     clear H
     have H := H1
     clear H1
     have H' := Ae_q H
     clear H
     go_wp2
     go_meet
     case rel => exact ⟨_, (((t358.length : Int) == 0)), m6_q, H', ⟨m48_q⟩, ⟨m27_q⟩, ⟨rup HO360.out⟩, ⟨bel HB.out⟩⟩
    replace c16 := fM_q.mpr c16
    subst c16
    have H1 : (laws_FnPlatesPart.j1 kj2 l1 t355 t358 false t362 true) = some r := by rw [if_neg (show ¬ (false = true) by decide)] at H; exact H
    clear H
    have H := H1
    clear H1
    have H' := Ae_q H
    clear H
    go_wp2
    go_meet
    case rel => exact ⟨_, (true), m6_q, H', ⟨m48_q⟩, ⟨m27_q⟩, ⟨rup HO360.out⟩, ⟨bel HB.out⟩⟩
   case rest =>
    clear HC9
    try clear c1
    try clear c2
    try clear p2
    try clear c3
    try clear c4
    try clear c4b0
    try clear c4b1
    try clear c5
    try clear c7
    try clear c15
    try clear c15b0
    try clear c15b1
    try clear c15b2
    try clear c16
    try clear p2
    obtain ⟨kq, x42_8, rfl, HA, HJ8, HO_5, HO_6, HB⟩ := hcut
    cases kq with
    | zero => exact absurd HA.out (by simp [laws_FnPlatesPart.j1])
    | succ kj8 =>
     have H := HA.out
     clear HA
     simp only [laws_FnPlatesPart.j1] at H
     by_cases c17 : x42_8 = true
     ·subst c17
      have H1 : (some (t361 == t362)) = some r := by rw [if_pos rfl] at H; exact H
      clear H
      have H := H1
      clear H1
      obtain rfl := oI_q H
      go_wp2
      go_ret
      exact ⟨m7_q, bel HB.out⟩
     replace c17 := fM_q.mpr c17
     subst c17
     have H1 : (if (t358.length : Int) = 0 then (none) else ((some (([] : List (S49)) : List (S49))).bind fun y363 => (if 0 ≤ ((l1.length : Int) % (t358.length : Int)) then (if ((l1.length : Int) % (t358.length : Int)) ≤ (t358.length : Int) then ((some (t358.take (((l1.length : Int) % (t358.length : Int)) : Int).toNat : List (S49))).bind fun y366 => (if y363.length + y366.length < 5864062014805 then ((some (y363 ++ y366 : List (S49))).bind fun y371 => (if 0 ≤ (wrap64 (((l1.length : Int) % (t358.length : Int)) + 1)) then (if (wrap64 (((l1.length : Int) % (t358.length : Int)) + 1)) ≤ (t358.length : Int) then ((some (t358.drop ((wrap64 (((l1.length : Int) % (t358.length : Int)) + 1)) : Int).toNat : List (S49))).bind fun y374 => (if y371.length + y374.length < 5864062014805 then ((some (([] : List (S49)) : List (S49))).bind fun y382 => (if y382.length + t358.length < 5864062014805 then ((some (y382 ++ t358 : List (S49))).bind fun y385 => (if ((l1.length : Int) % (t358.length : Int)) < (y385.length : Int) then ((impl_PlatesValid.f kj8 t355 (y371 ++ y374)).bind fun t389 => (if t389 = true then ((impl_PlatesValid.f kj8 t355 (y385.set (((l1.length : Int) % (t358.length : Int)) : Int).toNat (⟨(rd_T49 y385 ((l1.length : Int) % (t358.length : Int))).f0, 0, (rd_T49 y385 ((l1.length : Int) % (t358.length : Int))).f2⟩ : S49))).bind fun t390 => (some (!t390))) else (some false))) else (none))) else (none))) else (none))) else (none)) else (none))) else (none))) else (none)) else (none)))) = some r := by rw [if_neg (show ¬ (false = true) by decide)] at H; exact H
     clear H
     have H := H1
     clear H1
     by_cases c18 : (t358.length : Int) = 0
     ·rw [if_pos c18] at H
      exact absurd H (by simp)
     rw [if_neg c18] at H
     have c18b0 : ((t358.length : Int) == 0) = false := fN_q.mpr c18
     have c18b1 : ((t358.length : Int) != 0) = true := nI_q.mpr c18
     have c18b2 : ¬ (t358 = []) := fun h_ => c18 (by rw [h_]; rfl)
     obtain ⟨y363, hy363⟩ : ∃ y_ : List (S49), y_ = (([] : List (S49))) := ⟨_, rfl⟩
     replace H : (if 0 ≤ ((l1.length : Int) % (t358.length : Int)) then (if ((l1.length : Int) % (t358.length : Int)) ≤ (t358.length : Int) then ((some (t358.take (((l1.length : Int) % (t358.length : Int)) : Int).toNat : List (S49))).bind fun y366 => (if y363.length + y366.length < 5864062014805 then ((some (y363 ++ y366 : List (S49))).bind fun y371 => (if 0 ≤ (wrap64 (((l1.length : Int) % (t358.length : Int)) + 1)) then (if (wrap64 (((l1.length : Int) % (t358.length : Int)) + 1)) ≤ (t358.length : Int) then ((some (t358.drop ((wrap64 (((l1.length : Int) % (t358.length : Int)) + 1)) : Int).toNat : List (S49))).bind fun y374 => (if y371.length + y374.length < 5864062014805 then ((some (([] : List (S49)) : List (S49))).bind fun y382 => (if y382.length + t358.length < 5864062014805 then ((some (y382 ++ t358 : List (S49))).bind fun y385 => (if ((l1.length : Int) % (t358.length : Int)) < (y385.length : Int) then ((impl_PlatesValid.f kj8 t355 (y371 ++ y374)).bind fun t389 => (if t389 = true then ((impl_PlatesValid.f kj8 t355 (y385.set (((l1.length : Int) % (t358.length : Int)) : Int).toNat (⟨(rd_T49 y385 ((l1.length : Int) % (t358.length : Int))).f0, 0, (rd_T49 y385 ((l1.length : Int) % (t358.length : Int))).f2⟩ : S49))).bind fun t390 => (some (!t390))) else (some false))) else (none))) else (none))) else (none))) else (none)) else (none))) else (none))) else (none)) else (none)) = some r := by first | (rw [hy363]; with_reducible exact H) | (have H2_ := (oS_q _ _).symm.trans H; rw [hy363]; with_reducible exact H2_) | (have H2_ := (oS_q _ _).symm.trans H; with_reducible exact H2_) | with_reducible exact H | (rw [hy363]; exact H) | exact H
     have Ny363 := Ae_q hy363
     clear hy363
     obtain ⟨ji19, hji19⟩ : ∃ j_ : Int, ((l1.length : Int) % (t358.length : Int)) = j_ := ⟨_, rfl⟩
     replace H : (if 0 ≤ (ji19) then (if (ji19) ≤ (t358.length : Int) then ((some (t358.take ((ji19) : Int).toNat : List (S49))).bind fun y366 => (if y363.length + y366.length < 5864062014805 then ((some (y363 ++ y366 : List (S49))).bind fun y371 => (if 0 ≤ (wrap64 ((ji19) + 1)) then (if (wrap64 ((ji19) + 1)) ≤ (t358.length : Int) then ((some (t358.drop ((wrap64 ((ji19) + 1)) : Int).toNat : List (S49))).bind fun y374 => (if y371.length + y374.length < 5864062014805 then ((some (([] : List (S49)) : List (S49))).bind fun y382 => (if y382.length + t358.length < 5864062014805 then ((some (y382 ++ t358 : List (S49))).bind fun y385 => (if (ji19) < (y385.length : Int) then ((impl_PlatesValid.f kj8 t355 (y371 ++ y374)).bind fun t389 => (if t389 = true then ((impl_PlatesValid.f kj8 t355 (y385.set ((ji19) : Int).toNat (⟨(rd_T49 y385 (ji19)).f0, 0, (rd_T49 y385 (ji19)).f2⟩ : S49))).bind fun t390 => (some (!t390))) else (some false))) else (none))) else (none))) else (none))) else (none)) else (none))) else (none))) else (none)) else (none)) = some r := by first | (rw [hji19] at H; exact H) | (simp only [hji19] at H ⊢; exact H)
     by_cases c20 : 0 ≤ (ji19)
     rotate_left
     ·rw [if_neg c20] at H
      exact absurd H (by simp)
     rw [if_pos c20] at H
     have c20b0 := eq_true c20
     have c20b1 : decide (0 ≤ (ji19)) = true := dT_q c20
     clear c20
     by_cases c21 : (ji19) ≤ (t358.length : Int)
     rotate_left
     ·rw [if_neg c21] at H
      exact absurd H (by simp)
     rw [if_pos c21] at H
     have c21b0 := eq_true c21
     have c21b1 : decide ((ji19) ≤ (t358.length : Int)) = true := dT_q c21
     clear c21
     obtain ⟨y366, hy366⟩ : ∃ y_ : List (S49), y_ = (t358.take ((ji19) : Int).toNat) := ⟨_, rfl⟩
     replace H : (if y363.length + y366.length < 5864062014805 then ((some (y363 ++ y366 : List (S49))).bind fun y371 => (if 0 ≤ (wrap64 ((ji19) + 1)) then (if (wrap64 ((ji19) + 1)) ≤ (t358.length : Int) then ((some (t358.drop ((wrap64 ((ji19) + 1)) : Int).toNat : List (S49))).bind fun y374 => (if y371.length + y374.length < 5864062014805 then ((some (([] : List (S49)) : List (S49))).bind fun y382 => (if y382.length + t358.length < 5864062014805 then ((some (y382 ++ t358 : List (S49))).bind fun y385 => (if (ji19) < (y385.length : Int) then ((impl_PlatesValid.f kj8 t355 (y371 ++ y374)).bind fun t389 => (if t389 = true then ((impl_PlatesValid.f kj8 t355 (y385.set ((ji19) : Int).toNat (⟨(rd_T49 y385 (ji19)).f0, 0, (rd_T49 y385 (ji19)).f2⟩ : S49))).bind fun t390 => (some (!t390))) else (some false))) else (none))) else (none))) else (none))) else (none)) else (none))) else (none)) = some r := by first | (rw [hy366]; with_reducible exact H) | (have H2_ := (oS_q _ _).symm.trans H; rw [hy366]; with_reducible exact H2_) | (have H2_ := (oS_q _ _).symm.trans H; with_reducible exact H2_) | with_reducible exact H | (rw [hy366]; exact H) | exact H
     have Ny366 := Ae_q hy366
     clear hy366
     by_cases c22 : y363.length + y366.length < 5864062014805
     rotate_left
     ·rw [if_neg c22] at H
      exact absurd H (by simp)
     rw [if_pos c22] at H
     have LMc22 := Ae_q c22
     clear c22
     obtain ⟨y371, hy371⟩ : ∃ y_ : List (S49), y_ = (y363 ++ y366) := ⟨_, rfl⟩
     replace H : (if 0 ≤ (wrap64 ((ji19) + 1)) then (if (wrap64 ((ji19) + 1)) ≤ (t358.length : Int) then ((some (t358.drop ((wrap64 ((ji19) + 1)) : Int).toNat : List (S49))).bind fun y374 => (if y371.length + y374.length < 5864062014805 then ((some (([] : List (S49)) : List (S49))).bind fun y382 => (if y382.length + t358.length < 5864062014805 then ((some (y382 ++ t358 : List (S49))).bind fun y385 => (if (ji19) < (y385.length : Int) then ((impl_PlatesValid.f kj8 t355 (y371 ++ y374)).bind fun t389 => (if t389 = true then ((impl_PlatesValid.f kj8 t355 (y385.set ((ji19) : Int).toNat (⟨(rd_T49 y385 (ji19)).f0, 0, (rd_T49 y385 (ji19)).f2⟩ : S49))).bind fun t390 => (some (!t390))) else (some false))) else (none))) else (none))) else (none))) else (none)) else (none)) = some r := by first | (rw [hy371]; with_reducible exact H) | (have H2_ := (oS_q _ _).symm.trans H; rw [hy371]; with_reducible exact H2_) | (have H2_ := (oS_q _ _).symm.trans H; with_reducible exact H2_) | with_reducible exact H | (rw [hy371]; exact H) | exact H
     have Ny371 := Ae_q hy371
     clear hy371
     obtain ⟨ji23, hji23⟩ : ∃ j_ : Int, (wrap64 ((ji19) + 1)) = j_ := ⟨_, rfl⟩
     replace H : (if 0 ≤ (ji23) then (if (ji23) ≤ (t358.length : Int) then ((some (t358.drop ((ji23) : Int).toNat : List (S49))).bind fun y374 => (if y371.length + y374.length < 5864062014805 then ((some (([] : List (S49)) : List (S49))).bind fun y382 => (if y382.length + t358.length < 5864062014805 then ((some (y382 ++ t358 : List (S49))).bind fun y385 => (if (ji19) < (y385.length : Int) then ((impl_PlatesValid.f kj8 t355 (y371 ++ y374)).bind fun t389 => (if t389 = true then ((impl_PlatesValid.f kj8 t355 (y385.set ((ji19) : Int).toNat (⟨(rd_T49 y385 (ji19)).f0, 0, (rd_T49 y385 (ji19)).f2⟩ : S49))).bind fun t390 => (some (!t390))) else (some false))) else (none))) else (none))) else (none))) else (none)) else (none)) = some r := by first | (rw [hji23] at H; exact H) | (simp only [hji23] at H ⊢; exact H)
     have hji23w : (IntKind.i64.wrap ((ji19) + 1)) = ji23 := (i64_w _).trans hji23
     by_cases c24 : 0 ≤ (ji23)
     rotate_left
     ·rw [if_neg c24] at H
      exact absurd H (by simp)
     rw [if_pos c24] at H
     have c24b0 := eq_true c24
     have c24b1 : decide (0 ≤ (ji23)) = true := dT_q c24
     clear c24
     by_cases c25 : (ji23) ≤ (t358.length : Int)
     rotate_left
     ·rw [if_neg c25] at H
      exact absurd H (by simp)
     rw [if_pos c25] at H
     have c25b0 := eq_true c25
     have c25b1 : decide ((ji23) ≤ (t358.length : Int)) = true := dT_q c25
     clear c25
     obtain ⟨y374, hy374⟩ : ∃ y_ : List (S49), y_ = (t358.drop ((ji23) : Int).toNat) := ⟨_, rfl⟩
     replace H : (if y371.length + y374.length < 5864062014805 then ((some (([] : List (S49)) : List (S49))).bind fun y382 => (if y382.length + t358.length < 5864062014805 then ((some (y382 ++ t358 : List (S49))).bind fun y385 => (if (ji19) < (y385.length : Int) then ((impl_PlatesValid.f kj8 t355 (y371 ++ y374)).bind fun t389 => (if t389 = true then ((impl_PlatesValid.f kj8 t355 (y385.set ((ji19) : Int).toNat (⟨(rd_T49 y385 (ji19)).f0, 0, (rd_T49 y385 (ji19)).f2⟩ : S49))).bind fun t390 => (some (!t390))) else (some false))) else (none))) else (none))) else (none)) = some r := by first | (rw [hy374]; with_reducible exact H) | (have H2_ := (oS_q _ _).symm.trans H; rw [hy374]; with_reducible exact H2_) | (have H2_ := (oS_q _ _).symm.trans H; with_reducible exact H2_) | with_reducible exact H | (rw [hy374]; exact H) | exact H
     have Ny374 := Ae_q hy374
     clear hy374
     by_cases c26 : y371.length + y374.length < 5864062014805
     rotate_left
     ·rw [if_neg c26] at H
      exact absurd H (by simp)
     rw [if_pos c26] at H
     have LMc26 := Ae_q c26
     clear c26
     obtain ⟨y379, hy379⟩ : ∃ y_ : List (S49), y_ = (y371 ++ y374) := ⟨_, rfl⟩
     replace H : ((some (([] : List (S49)) : List (S49))).bind fun y382 => (if y382.length + t358.length < 5864062014805 then ((some (y382 ++ t358 : List (S49))).bind fun y385 => (if (ji19) < (y385.length : Int) then ((impl_PlatesValid.f kj8 t355 y379).bind fun t389 => (if t389 = true then ((impl_PlatesValid.f kj8 t355 (y385.set ((ji19) : Int).toNat (⟨(rd_T49 y385 (ji19)).f0, 0, (rd_T49 y385 (ji19)).f2⟩ : S49))).bind fun t390 => (some (!t390))) else (some false))) else (none))) else (none))) = some r := by first | (rw [hy379]; with_reducible exact H) | (have H2_ := (oS_q _ _).symm.trans H; rw [hy379]; with_reducible exact H2_) | (have H2_ := (oS_q _ _).symm.trans H; with_reducible exact H2_) | with_reducible exact H | (rw [hy379]; exact H) | exact H
     have Ny379 := Ae_q hy379
     clear hy379
     obtain ⟨y382, hy382⟩ : ∃ y_ : List (S49), y_ = (([] : List (S49))) := ⟨_, rfl⟩
     replace H : (if y382.length + t358.length < 5864062014805 then ((some (y382 ++ t358 : List (S49))).bind fun y385 => (if (ji19) < (y385.length : Int) then ((impl_PlatesValid.f kj8 t355 y379).bind fun t389 => (if t389 = true then ((impl_PlatesValid.f kj8 t355 (y385.set ((ji19) : Int).toNat (⟨(rd_T49 y385 (ji19)).f0, 0, (rd_T49 y385 (ji19)).f2⟩ : S49))).bind fun t390 => (some (!t390))) else (some false))) else (none))) else (none)) = some r := by first | (rw [hy382]; with_reducible exact H) | (have H2_ := (oS_q _ _).symm.trans H; rw [hy382]; with_reducible exact H2_) | (have H2_ := (oS_q _ _).symm.trans H; with_reducible exact H2_) | with_reducible exact H | (rw [hy382]; exact H) | exact H
     have Ny382 := Ae_q hy382
     clear hy382
     by_cases c27 : y382.length + t358.length < 5864062014805
     rotate_left
     ·rw [if_neg c27] at H
      exact absurd H (by simp)
     rw [if_pos c27] at H
     have LMc27 := Ae_q c27
     clear c27
     obtain ⟨y385, hy385⟩ : ∃ y_ : List (S49), y_ = (y382 ++ t358) := ⟨_, rfl⟩
     replace H : (if (ji19) < (y385.length : Int) then ((impl_PlatesValid.f kj8 t355 y379).bind fun t389 => (if t389 = true then ((impl_PlatesValid.f kj8 t355 (y385.set ((ji19) : Int).toNat (⟨(rd_T49 y385 (ji19)).f0, 0, (rd_T49 y385 (ji19)).f2⟩ : S49))).bind fun t390 => (some (!t390))) else (some false))) else (none)) = some r := by first | (rw [hy385]; with_reducible exact H) | (have H2_ := (oS_q _ _).symm.trans H; rw [hy385]; with_reducible exact H2_) | (have H2_ := (oS_q _ _).symm.trans H; with_reducible exact H2_) | with_reducible exact H | (rw [hy385]; exact H) | exact H
     have Ny385 := Ae_q hy385
     clear hy385
     by_cases c28 : (ji19) < (y385.length : Int)
     rotate_left
     ·rw [if_neg c28] at H
      exact absurd H (by simp)
     rw [if_pos c28] at H
     have c28b0 : decide ((ji19) < (y385.length : Int)) = true := dT_q c28
     clear c28
     obtain ⟨y388, hy388⟩ : ∃ y_ : List (S49), y_ = (y385.set ((ji19) : Int).toNat (⟨(rd_T49 y385 (ji19)).f0, 0, (rd_T49 y385 (ji19)).f2⟩ : S49)) := ⟨_, rfl⟩
     replace H : ((impl_PlatesValid.f kj8 t355 y379).bind fun t389 => (if t389 = true then ((impl_PlatesValid.f kj8 t355 y388).bind fun t390 => (some (!t390))) else (some false))) = some r := by first | (rw [hy388]; with_reducible exact H) | (have H2_ := (oS_q _ _).symm.trans H; rw [hy388]; with_reducible exact H2_) | (have H2_ := (oS_q _ _).symm.trans H; with_reducible exact H2_) | with_reducible exact H | (rw [hy388]; exact H) | exact H
     have Ny388 := Ae_q hy388
     clear hy388
     replace H := oB_q.mp H
     obtain ⟨t389, A300, H⟩ := H
     replace H : (if t389 = true then ((impl_PlatesValid.f kj8 t355 y388).bind fun t390 => (some (!t390))) else (some false)) = some r := H
     have A30 := Ae_q A300
     clear A300
     by_cases c31 : t389 = true
     rotate_left
     ·replace c31 := fM_q.mpr c31
      subst c31
      have H1 : (some false) = some r := by rw [if_neg (show ¬ (false = true) by decide)] at H; exact H
      clear H
      have H := H1
      clear H1
      obtain rfl := oI_q H
      try go_wp2
      replace HO_5 := Ae_q (Kd.N_drew HO_5.out)
      replace HO_6 := Ae_q (rD_q HO_6.out)
      replace HB := Ae_q (bD_q HB.out)
      have q49 : ((ji19) : Int) ≤ ((t358.length : Int) : Int) := oD_q (by assumption)
      obtain ⟨i049, hi049, _, hsz49, _⟩ := info_parts info49
      have hroom49 : t358.length ≤ co12 := (rR_q HO_6.out).2.1
      have hC49 : Kd.F k49 _ _ Ao12 t358.length t358 := (Kd.V_at (base := w.heap.size) (Kd.R_V (Kd.R_apart' (HO_6.out) (Kd.N_typed HO_5.out) (by decide)))).2.2
      have hcut49 := cut_to (P := Try.prog) 44 49 .i64 Try.underlying44 hi049 Ao12 t358.length co12 (ji19) (oD_q (by assumption)) q49 hroom49
      have hr49 := Kd.F_take (m := ((ji19) : Int).toNat) hC49 (by omega)
      have hy49 : y366.length = ((ji19) : Int).toNat := (by rw [Ny366.out, lT_q]; omega)
      rw [← Ny366.out] at hr49
      rw [← hy49] at hcut49
      have HO370 := Ae_q (show Kd.V k49 49 _ w.heap.size _ (.slice Ao12 y366.length co12) y366 from Kd.V_mk (by omega) hr49)
      have HC370 := Ae_q (show y366.length ≤ co12 from by omega)
      clear hr49 hC49 hroom49 hi049 hsz49
      have KY49 := Ae_q hy49
      clear hy49
      replace q49 := eq_true q49
      have q50 : ((ji23) : Int) ≤ ((t358.length : Int) : Int) := oD_q (by assumption)
      obtain ⟨i050, hi050, _, hsz50, _⟩ := info_parts info49
      have hroom50 : t358.length ≤ co12 := (rR_q HO_6.out).2.1
      have hC50 : Kd.F k49 _ _ Ao12 t358.length t358 := (Kd.V_at (base := w.heap.size) (Kd.R_V (Kd.R_apart' (HO_6.out) (Kd.N_typed HO_5.out) (by decide)))).2.2
      have q050 : (0 : Int) ≤ ((ji23) : Int) := oD_q (by assumption)
      have hcut50 := cut_from (P := Try.prog) 44 49 .i64 Try.underlying44 hi050 3 hsz50 Ao12 t358.length co12 (ji23) q050 q50
      have hr50 := Kd.F_cut (m := ((ji23) : Int).toNat) (c := co12) hC50 (by omega) hroom50
      obtain ⟨A50, hA50⟩ : ∃ A1, A1 = (if co12 = ((ji23) : Int).toNat then Ao12 else (Ao12 : Option Addr).map (·.add (((ji23) : Int).toNat * 3))) := ⟨_, rfl⟩
      obtain ⟨c50, hc50⟩ : ∃ c1, c1 = co12 - ((ji23) : Int).toNat := ⟨_, rfl⟩
      have hy50 : y374.length = t358.length - ((ji23) : Int).toNat := (by rw [Ny374.out, lD_q] <;> omega)
      rw [show (t358).drop ((ji23) : Int).toNat = y374 from Ny374.out.symm] at hr50
      replace hr50 : Kd.F k49 _ _ A50 y374.length y374 := (by rw [hA50]; exact hr50)
      rw [← hy50, ← hA50, ← hc50] at hcut50
      have HO378 := Ae_q (show Kd.V k49 49 _ w.heap.size _ (.slice A50 y374.length c50) y374 from Kd.V_mk (by rw [hy50, hc50]; exact Nat.sub_le_sub_right hroom50 _) hr50)
      have HC378 := Ae_q (show y374.length ≤ c50 from by rw [hy50, hc50]; exact Nat.sub_le_sub_right hroom50 _)
      clear hr50 hC50 hroom50 hi050 hsz50 hc50
      have KY50 := Ae_q hy50
      have KA50 := Ae_q hA50
      clear hy50 hA50
      replace q50 := eq_true q50
      refine start_ (n := 11) (S := fun w' => True) (ds := []) #[false, false, false, false, false, false, false, false, false, false, false] m8_q rfl rfl trivial (fun hHeld => ?_); refine with_tabW laws_FnPlatesPart.tab9 laws_FnPlatesPart.bits9 (fun HT_ HW_ => ?_)
      generalize wc.drew = w48 at HO_5 HO_6 HB HO370 HO378 hHeld ⊢
      refine pJ HT_ 1 52 rfl rfl ?_
      refine pJ HT_ 2 53 rfl rfl ?_
      refine pJ HT_ 3 54 rfl rfl ?_
      refine pJ HT_ 5 56 rfl rfl ?_
      refine pJ HT_ 6 57 rfl rfl ?_
      refine pJ HT_ 7 58 rfl rfl ?_
      refine pJ HT_ 8 59 rfl rfl ?_
      refine one_ (i := 0) (N := some 51) #[true, true, true, true, false, true, true, true, true, false, false] rfl rfl (one_of HT_.out m8_q) (by decide) (fun K hK => ?_)
      refine rI_q k49 _ 49 ?hg (N := 51) ?hd (xs := ([] : List (S49))) (inner := []) (ok := fun _ => True) (okp := fun _ => True) ?hr ?hp (fun _ hk => hk) trivial (bR_q _ _) (nR_q _) (by simp) ?_; (case hd => rfl); (case hg => rfl); (case hr => exact m14_q); (case hp => exact m46_q)
      intro v364 w51 ho52 hb hg_ hnew_
      clear hg_ hnew_
      (first | rw [← Ny363.out] at ho52 | (simp only [Int.reduceToNat] at ho52; rw [← Ny363.out] at ho52))
      replace HO_5 := Ae_q (Kd.N_elder' m10_q (rB_q ho52) hb)
      replace HO370 := Ae_q (Kd.V_elder' m11_q (rB_q ho52) hb)
      replace HO378 := Ae_q (Kd.V_elder' m12_q (rB_q ho52) hb)
      have HO365 := Ae_q (rL_q (rW_q ho52 (rT_q (rup HO_6.out))) (bZ_q (bel HB.out)))
      replace HO_6 := Ae_q (rE_q (rup HO_6.out) (rB_q ho52) hb)
      replace HB := Ae_q (bT_q (bel HB.out) hb)
      clear hb ho52
      refine hK.out _ _ trivial (fun hHeld => ?_)
      clear hK K
      refine nJ_q ?_
      refine one_ (i := 4) (N := some 55) #[true, true, true, true, true, true, true, true, true, false, false] rfl rfl (one_of HT_.out m8_q) (by decide) (fun K hK => ?_)
      refine rP_q k49 (w0 := w) w.heap.size (by rfl) (.tmp 51) (.tmp 54) 44 49 (.agg #[(.int .i64 0), (.int .i64 0), (.int .i64 0)]) 24 rfl Try.underlying44 info49 rfl (by decide) (by omega) v364 y363 y366 _ _ _ (fun k_ => some k_ ≠ (.slice Ao12 t358.length co12 : Value).ownBlock) (fun _ => False) rfl rfl ?aO ?aR (fun _ _ h => h) (fun _ h => h.elim) ?aF ?aB ?aS ?aL ?_
      (case aR => exact m29_q)
      (case aB => exact m49_q)
      (case aF => exact m38_q)
      (case aO => exact m39_q)
      (case aS => exact m45_q)
      (case aL => have := LMc22.out; omega)
      intro v372 w53 ho hb hg hat
      rw [← Ny371.out] at ho
      replace HO_5 := Ae_q (Kd.N_afterv (ok := (fun k_ => some k_ ≠ (.slice Ao12 t358.length co12 : Value).ownBlock)) m10_q hg hat)
      replace HO_6 := Ae_q (rF_q (ok := (fun _ => True)) (rup HO_6.out) hg hat)
      replace HO370 := Ae_q (Kd.V_afterv (ok := (fun k_ => some k_ ≠ (.slice Ao11 t355.length co11 : Value).ownBlock)) m34_q hg hat)
      replace HO378 := Ae_q (Kd.V_afterv (ok := (fun k_ => some k_ ≠ (.slice Ao11 t355.length co11 : Value).ownBlock)) m35_q hg hat)
      replace HB := Ae_q (hb)
      have HO373 := Ae_q (ho)
      clear HO365
      clear ho hb hg hat
      refine hK.out _ _ trivial (fun hHeld => ?_)
      clear hK K
      refine nJ_q ?_
      refine one_ (i := 9) (N := some 60) #[true, true, true, true, true, true, true, true, true, true, false] rfl rfl (one_of HT_.out m8_q) (by decide) (fun K hK => ?_)
      refine rP_q k49 (w0 := w) w.heap.size (by rfl) (.tmp 55) (.tmp 59) 44 49 (.agg #[(.int .i64 0), (.int .i64 0), (.int .i64 0)]) 24 rfl Try.underlying44 info49 rfl (by decide) (by omega) v372 y371 y374 _ _ _ (fun k_ => some k_ ≠ (.slice Ao12 t358.length co12 : Value).ownBlock) (fun _ => False) rfl rfl ?aO ?aR (fun _ _ h => h) (fun _ h => h.elim) ?aF ?aB ?aS ?aL ?_
      (case aR => exact m30_q)
      (case aB => exact m49_q)
      (case aF => exact m38_q)
      (case aO => exact (rup HO373.out))
      (case aS => exact m45_q)
      (case aL => have := LMc26.out; omega)
      intro v380 w54 ho hb hg hat
      rw [← Ny379.out] at ho
      replace HO_5 := Ae_q (Kd.N_afterv (ok := (fun k_ => some k_ ≠ (.slice Ao12 t358.length co12 : Value).ownBlock)) m10_q hg hat)
      replace HO_6 := Ae_q (rF_q (ok := (fun _ => True)) (rup HO_6.out) hg hat)
      replace HO370 := Ae_q (Kd.V_afterv (ok := (fun k_ => some k_ ≠ (.slice Ao11 t355.length co11 : Value).ownBlock)) m11_q hg hat)
      replace HO378 := Ae_q (Kd.V_afterv (ok := (fun k_ => some k_ ≠ (.slice Ao11 t355.length co11 : Value).ownBlock)) m12_q hg hat)
      replace HB := Ae_q (hb)
      have HO381 := Ae_q (ho)
      clear HO373
      clear ho hb hg hat
      refine hK.out _ _ trivial (fun hHeld => ?_)
      clear hK K
      refine nJ_q ?_
      refine pJ HT_ 10 10 rfl rfl ?_
      refine done_ (done_of HT_.out m8_q) ?_
      try go_wp2_with (first | ((with_reducible refine gD_q (N := 61) rfl ?_); (try (refine gate_guard (by rfl) ?_; dsimp only)); refine Kd.R_lit k49 _ 49 ?hg (N := 61) ?hd (xs := ([] : List (S49))) (inner := []) (ok := fun _ => True) (okp := fun _ => True) ?hr ?hp (fun _ hk => hk) trivial (bR_q _ _) (nR_q _) (by simp) ?_; (case hd => rfl); (case hg => rfl); (case hr => exact m14_q); (case hp => exact m46_q); intro v383 w55 ho56 hb hg_ hnew_; clear hg_ hnew_; (first | rw [← Ny382.out] at ho56 | (simp only [Int.reduceToNat] at ho56; rw [← Ny382.out] at ho56)); replace HO_5 := Ae_q (Kd.N_elder' m10_q (rB_q ho56) hb); replace HO370 := Ae_q (Kd.V_elder' m11_q (rB_q ho56) hb); replace HO378 := Ae_q (Kd.V_elder' m12_q (rB_q ho56) hb); have HO384 := Ae_q (rL_q (rW_q (rW_q ho56 (rT_q (rup HO_6.out))) (rT_q (rup HO381.out))) (bZ_q (bel HB.out))); replace HO_6 := Ae_q (rE_q (rup HO_6.out) (rB_q ho56) hb); replace HO381 := Ae_q (rE_q (rup HO381.out) (rB_q ho56) hb); replace HB := Ae_q (bT_q (bel HB.out) hb); clear hb ho56) | ((with_reducible refine gate_builtin (b := .append) (xs := #[.tmp 61, .tmp 62]) rfl ?_); (try (refine gate_guard (by rfl) ?_; dsimp only)); at_builtin; refine Kd.R_append_rows k49 (w0 := w) w.heap.size rfl (.tmp 61) (.tmp 62) 44 49 (.agg #[(.int .i64 0), (.int .i64 0), (.int .i64 0)]) 24 rfl Try.underlying44 info49 rfl (by decide) (by omega) v383 y382 t358 _ _ _ (fun k_ => some k_ ≠ (.slice Ao12 t358.length co12 : Value).ownBlock ∧ some k_ ≠ (v380 : Value).ownBlock) (fun _ => False) rfl rfl ?aO ?aR (fun _ _ h => h) (fun _ h => h.elim) ?aF ?aB ?aS ?aL ?_; (case aR => exact cup (rR_q HO_6.out).2.2); (case aB => exact m49_q); (case aF => exact m42_q); (case aO => exact m36_q); (case aS => exact m45_q); (case aL => have := LMc27.out; omega); intro v386 w57 ho hb hg hat; rw [← Ny385.out] at ho; replace HO_5 := Ae_q (Kd.N_afterv (ok := (fun k_ => some k_ ≠ (.slice Ao12 t358.length co12 : Value).ownBlock ∧ some k_ ≠ (v380 : Value).ownBlock)) m10_q hg hat); replace HO_6 := Ae_q (rF_q (ok := (fun k_ => some k_ ≠ (v380 : Value).ownBlock)) m37_q hg hat); replace HO370 := Ae_q (Kd.V_afterv (ok := (fun k_ => some k_ ≠ (.slice Ao11 t355.length co11 : Value).ownBlock ∧ some k_ ≠ (v380 : Value).ownBlock)) m11_q hg hat); replace HO378 := Ae_q (Kd.V_afterv (ok := (fun k_ => some k_ ≠ (.slice Ao11 t355.length co11 : Value).ownBlock ∧ some k_ ≠ (v380 : Value).ownBlock)) m12_q hg hat); replace HO381 := Ae_q (rF_q (ok := (fun k_ => some k_ ≠ (.slice Ao12 t358.length co12 : Value).ownBlock)) (rup HO381.out) hg hat); replace HB := Ae_q (hb); have HO387 := Ae_q (ho); clear HO384; clear ho hb hg hat; have p29 : 0 ≤ ((ji19) : Int) := oD_q (by assumption); have q29 : ((ji19) : Int) < ((y385.length : Int) : Int) := oD_q (by assumption); obtain ⟨go29, co29, eo29, gb29, gl29, cl29, HG29⟩ := Kd.R_form HO387.out (by omega); (first | cases eo29 | (injection eo29 with ea_ en_ ec_; (first | subst ea_ | (injection ea_ with ea_; subst ea_)); subst ec_; clear en_)); have GB29 := Ae_q gb29; have GG29 := Ae_q HG29; clear gb29 gl29 HG29; obtain ⟨ce29, hcl29, hM29, hcc29, hfr29⟩ := Kd.R_elem HO387.out z49 ((ji19) : Int) p29 q29; obtain rfl := k49_openM hM29; have hx29_0 : w57.cell? ⟨go29, ((ji19) : Int).toNat * 3, none⟩ = some (.int .i64 ((rd_T49 y385 (ji19)).f0)) := hcc29 0 _ rfl; have hx29_1 : w57.cell? ⟨go29, ((ji19) : Int).toNat * 3 + 1, none⟩ = some (.int .i64 ((rd_T49 y385 (ji19)).f1)) := hcc29 1 _ rfl; have hx29_2 : w57.cell? ⟨go29, ((ji19) : Int).toNat * 3 + 2, none⟩ = some (.int .i64 ((rd_T49 y385 (ji19)).f2)) := hcc29 2 _ rfl; have hf29_0 : w57.frozen? ⟨go29, ((ji19) : Int).toNat * 3, none⟩ = false := hfr29 0; have hf29_1 : w57.frozen? ⟨go29, ((ji19) : Int).toNat * 3 + 1, none⟩ = false := hfr29 1; have hf29_2 : w57.frozen? ⟨go29, ((ji19) : Int).toNat * 3 + 2, none⟩ = false := hfr29 2; clear hcl29 hcc29 hfr29 hM29; replace p29 := eq_true p29; replace q29 := eq_true q29; have HX58 := Ae_q (show Kd.R k49 49 w57 w.heap.size (fun k_ => some k_ ≠ (.slice Ao12 t358.length co12 : Value).ownBlock ∧ some k_ ≠ (v380 : Value).ownBlock) (.slice (some ⟨go29, 0, none⟩) y385.length co29) y385 from (rup HO387.out)); obtain ⟨ce58, hcl58, hM58, hcc58, hfr58⟩ := Kd.R_elem HX58.out z49 ((ji19) : Int) (oD_q (by assumption)) (by have h_ : ((ji19) : Int) < ((y385.length : Int) : Int) := oD_q (by assumption); first | exact h_ | (have e_ := (rR_q HO387.out).1; omega) | simpa using h_); obtain rfl := k49_openM hM58; have HP58 := Kd.R_seg HX58.out ((ji19) : Int) (oD_q (by assumption)) (by have h_ : ((ji19) : Int) < ((y385.length : Int) : Int) := oD_q (by assumption); first | exact h_ | (have e_ := (rR_q HO387.out).1; omega) | simpa using h_) (seg := [.int .i64 0]) (j := 1) hcl58 hcc58 (show 2 ≤ 3 from by decide) (x' := (⟨(rd_T49 y385 (ji19)).f0, 0, (rd_T49 y385 (ji19)).f2⟩ : S49)) (k49_mkM _ _ _ (⟨(rd_T49 y385 (ji19)).f0, 0, (rd_T49 y385 (ji19)).f2⟩ : S49) ) (fun _ hk => hk); have hx58_1 := hcc58 1 _ rfl; (try simp only [show (k49).sz = 3 from rfl, Nat.mul_one, Nat.add_zero] at hx58_1); have hf58_1 := hfr58 1; (try simp only [show (k49).sz = 3 from rfl, Nat.mul_one, Nat.add_zero] at hf58_1); clear hcl58 hcc58 hfr58 hM58) | ((with_reducible refine gate_store (t := 3) (p := 67) rfl ?_); refine store_event (t := 3) (p := 67) (v := ?vo_w59) (w1 := (w57.setCell ⟨go29, ((ji19) : Int).toNat * 3 + 1, none⟩ (.int .i64 0))) ?hg ?ho ?hn ?hr ?_; (case ho => rfl); (case hg => rfl); (case hn => rfl); (case hr => exact m14_q); intro w59 hw; have hg : w57.grownBy w59 (some go29) := (by rw [hw]; exact HP58.2); have hp_ : Kd.R k49 49 w59 w.heap.size (fun k_ => some k_ ≠ (.slice Ao12 t358.length co12 : Value).ownBlock ∧ some k_ ≠ (v380 : Value).ownBlock) (.slice (some ⟨go29, 0, none⟩) y385.length co29) y388 := (by rw [hw, Ny388.out]; exact HP58.1); clear HP58; replace HO_5 := Ae_q (Kd.N_afterv (v := (.slice (some ⟨go29, 0, none⟩) y385.length co29)) (v1 := (.slice (some ⟨go29, 0, none⟩) y385.length co29)) (ok := (fun k_ => some k_ ≠ (.slice Ao12 t358.length co12 : Value).ownBlock ∧ some k_ ≠ (v380 : Value).ownBlock)) m10_q hg (.inl rfl)); replace HO_6 := Ae_q (rF_q (v := (.slice (some ⟨go29, 0, none⟩) y385.length co29)) (v1 := (.slice (some ⟨go29, 0, none⟩) y385.length co29)) (ok := (fun k_ => some k_ ≠ (v380 : Value).ownBlock)) (rup HO_6.out) hg (.inl rfl)); replace HO370 := Ae_q (Kd.V_afterv (v := (.slice (some ⟨go29, 0, none⟩) y385.length co29)) (v1 := (.slice (some ⟨go29, 0, none⟩) y385.length co29)) (ok := (fun k_ => some k_ ≠ (.slice Ao11 t355.length co11 : Value).ownBlock ∧ some k_ ≠ (v380 : Value).ownBlock)) m11_q hg (.inl rfl)); replace HO378 := Ae_q (Kd.V_afterv (v := (.slice (some ⟨go29, 0, none⟩) y385.length co29)) (v1 := (.slice (some ⟨go29, 0, none⟩) y385.length co29)) (ok := (fun k_ => some k_ ≠ (.slice Ao11 t355.length co11 : Value).ownBlock ∧ some k_ ≠ (v380 : Value).ownBlock)) m12_q hg (.inl rfl)); replace HO381 := Ae_q (rF_q (v := (.slice (some ⟨go29, 0, none⟩) y385.length co29)) (v1 := (.slice (some ⟨go29, 0, none⟩) y385.length co29)) (ok := (fun k_ => some k_ ≠ (.slice Ao12 t358.length co12 : Value).ownBlock)) (rup HO381.out) hg (.inl rfl)); replace HO387 := Ae_q (hp_); replace HB := Ae_q ((by rw [hw]; exact bS_q (HB.out) GB29.out : Below w.heap.size w w59)); clear hg hw hp_; obtain ⟨Ao60, co60, eo60⟩ := rS_q HO381.out; subst eo60) | ((with_reducible refine gC_q (f := 30) rfl ?_); refine gL_q (some 70) rfl rfl Try.func30 m8_q rfl #[.slice Ao11 t355.length co11, .slice Ao60 y379.length co60] rfl m1_q ?_; (with_reducible refine (impl_PlatesValid.calls kj8 _ _ t355 _ _ y379 false _ ?side1 ?side2 ?side3 ?side4 A30.out).mono ?_); (case side1 => exact m26_q); (case side2 => exact (Kd.N_reads' HO_5.out).2.1); (case side3 => exact cup (rR_q HO381.out).2.2); (case side4 => exact (rR_q HO381.out).2.1); rintro e w' ⟨rfl, hb⟩; refine ⟨_, rfl, ?_⟩; replace HO_5 := Ae_q (Kd.N_below m10_q hb); replace HO_6 := Ae_q (rO_q (rup HO_6.out) hb); replace HO370 := Ae_q (Kd.V_below m11_q hb); replace HO378 := Ae_q (Kd.V_below m12_q hb); replace HO381 := Ae_q (rO_q (rup HO381.out) hb); replace HO387 := Ae_q (rO_q (rup HO387.out) hb); replace HB := Ae_q (bT_q (bel HB.out) hb); (try clear hb); (try clear hb2); (try clear hk); (try clear hi)))
      go_ret
      exact ⟨m32_q, bel HB.out⟩
     subst c31
     have H1 : ((impl_PlatesValid.f kj8 t355 y388).bind fun t390 => (some (!t390))) = some r := by rw [if_pos rfl] at H; exact H
     clear H
     have H := H1
     clear H1
     replace H := oB_q.mp H
     obtain ⟨t390, A320, H⟩ := H
     replace H : (some (!t390)) = some r := H
     have A32 := Ae_q A320
     clear A320
     obtain rfl := oI_q H
     try go_wp2
     replace HO_5 := Ae_q (Kd.N_drew HO_5.out)
     replace HO_6 := Ae_q (rD_q HO_6.out)
     replace HB := Ae_q (bD_q HB.out)
     have q34 : ((ji19) : Int) ≤ ((t358.length : Int) : Int) := oD_q (by assumption)
     obtain ⟨i034, hi034, _, hsz34, _⟩ := info_parts info49
     have hroom34 : t358.length ≤ co12 := (rR_q HO_6.out).2.1
     have hC34 : Kd.F k49 _ _ Ao12 t358.length t358 := (Kd.V_at (base := w.heap.size) (Kd.R_V (Kd.R_apart' (HO_6.out) (Kd.N_typed HO_5.out) (by decide)))).2.2
     have hcut34 := cut_to (P := Try.prog) 44 49 .i64 Try.underlying44 hi034 Ao12 t358.length co12 (ji19) (oD_q (by assumption)) q34 hroom34
     have hr34 := Kd.F_take (m := ((ji19) : Int).toNat) hC34 (by omega)
     have hy34 : y366.length = ((ji19) : Int).toNat := (by rw [Ny366.out, lT_q]; omega)
     rw [← Ny366.out] at hr34
     rw [← hy34] at hcut34
     have HO370 := Ae_q (show Kd.V k49 49 _ w.heap.size _ (.slice Ao12 y366.length co12) y366 from Kd.V_mk (by omega) hr34)
     have HC370 := Ae_q (show y366.length ≤ co12 from by omega)
     clear hr34 hC34 hroom34 hi034 hsz34
     have KY34 := Ae_q hy34
     clear hy34
     replace q34 := eq_true q34
     have q35 : ((ji23) : Int) ≤ ((t358.length : Int) : Int) := oD_q (by assumption)
     obtain ⟨i035, hi035, _, hsz35, _⟩ := info_parts info49
     have hroom35 : t358.length ≤ co12 := (rR_q HO_6.out).2.1
     have hC35 : Kd.F k49 _ _ Ao12 t358.length t358 := (Kd.V_at (base := w.heap.size) (Kd.R_V (Kd.R_apart' (HO_6.out) (Kd.N_typed HO_5.out) (by decide)))).2.2
     have q035 : (0 : Int) ≤ ((ji23) : Int) := oD_q (by assumption)
     have hcut35 := cut_from (P := Try.prog) 44 49 .i64 Try.underlying44 hi035 3 hsz35 Ao12 t358.length co12 (ji23) q035 q35
     have hr35 := Kd.F_cut (m := ((ji23) : Int).toNat) (c := co12) hC35 (by omega) hroom35
     obtain ⟨A35, hA35⟩ : ∃ A1, A1 = (if co12 = ((ji23) : Int).toNat then Ao12 else (Ao12 : Option Addr).map (·.add (((ji23) : Int).toNat * 3))) := ⟨_, rfl⟩
     obtain ⟨c35, hc35⟩ : ∃ c1, c1 = co12 - ((ji23) : Int).toNat := ⟨_, rfl⟩
     have hy35 : y374.length = t358.length - ((ji23) : Int).toNat := (by rw [Ny374.out, lD_q] <;> omega)
     rw [show (t358).drop ((ji23) : Int).toNat = y374 from Ny374.out.symm] at hr35
     replace hr35 : Kd.F k49 _ _ A35 y374.length y374 := (by rw [hA35]; exact hr35)
     rw [← hy35, ← hA35, ← hc35] at hcut35
     have HO378 := Ae_q (show Kd.V k49 49 _ w.heap.size _ (.slice A35 y374.length c35) y374 from Kd.V_mk (by rw [hy35, hc35]; exact Nat.sub_le_sub_right hroom35 _) hr35)
     have HC378 := Ae_q (show y374.length ≤ c35 from by rw [hy35, hc35]; exact Nat.sub_le_sub_right hroom35 _)
     clear hr35 hC35 hroom35 hi035 hsz35 hc35
     have KY35 := Ae_q hy35
     have KA35 := Ae_q hA35
     clear hy35 hA35
     replace q35 := eq_true q35
     refine start_ (n := 11) (S := fun w' => True) (ds := []) #[false, false, false, false, false, false, false, false, false, false, false] m8_q rfl rfl trivial (fun hHeld => ?_); refine with_tabW laws_FnPlatesPart.tab9 laws_FnPlatesPart.bits9 (fun HT_ HW_ => ?_)
     generalize wc.drew = w33 at HO_5 HO_6 HB HO370 HO378 hHeld ⊢
     refine pJ HT_ 1 52 rfl rfl ?_
     refine pJ HT_ 2 53 rfl rfl ?_
     refine pJ HT_ 3 54 rfl rfl ?_
     refine pJ HT_ 5 56 rfl rfl ?_
     refine pJ HT_ 6 57 rfl rfl ?_
     refine pJ HT_ 7 58 rfl rfl ?_
     refine pJ HT_ 8 59 rfl rfl ?_
     refine one_ (i := 0) (N := some 51) #[true, true, true, true, false, true, true, true, true, false, false] rfl rfl (one_of HT_.out m8_q) (by decide) (fun K hK => ?_)
     refine rI_q k49 _ 49 ?hg (N := 51) ?hd (xs := ([] : List (S49))) (inner := []) (ok := fun _ => True) (okp := fun _ => True) ?hr ?hp (fun _ hk => hk) trivial (bR_q _ _) (nR_q _) (by simp) ?_; (case hd => rfl); (case hg => rfl); (case hr => exact m14_q); (case hp => exact m46_q)
     intro v364 w36 ho37 hb hg_ hnew_
     clear hg_ hnew_
     (first | rw [← Ny363.out] at ho37 | (simp only [Int.reduceToNat] at ho37; rw [← Ny363.out] at ho37))
     replace HO_5 := Ae_q (Kd.N_elder' m10_q (rB_q ho37) hb)
     replace HO370 := Ae_q (Kd.V_elder' m11_q (rB_q ho37) hb)
     replace HO378 := Ae_q (Kd.V_elder' m12_q (rB_q ho37) hb)
     have HO365 := Ae_q (rL_q (rW_q ho37 (rT_q (rup HO_6.out))) (bZ_q (bel HB.out)))
     replace HO_6 := Ae_q (rE_q (rup HO_6.out) (rB_q ho37) hb)
     replace HB := Ae_q (bT_q (bel HB.out) hb)
     clear hb ho37
     refine hK.out _ _ trivial (fun hHeld => ?_)
     clear hK K
     refine nJ_q ?_
     refine one_ (i := 4) (N := some 55) #[true, true, true, true, true, true, true, true, true, false, false] rfl rfl (one_of HT_.out m8_q) (by decide) (fun K hK => ?_)
     refine rP_q k49 (w0 := w) w.heap.size (by rfl) (.tmp 51) (.tmp 54) 44 49 (.agg #[(.int .i64 0), (.int .i64 0), (.int .i64 0)]) 24 rfl Try.underlying44 info49 rfl (by decide) (by omega) v364 y363 y366 _ _ _ (fun k_ => some k_ ≠ (.slice Ao12 t358.length co12 : Value).ownBlock) (fun _ => False) rfl rfl ?aO ?aR (fun _ _ h => h) (fun _ h => h.elim) ?aF ?aB ?aS ?aL ?_
     (case aR => exact m29_q)
     (case aB => exact m49_q)
     (case aF => exact m38_q)
     (case aO => exact m39_q)
     (case aS => exact m45_q)
     (case aL => have := LMc22.out; omega)
     intro v372 w38 ho hb hg hat
     rw [← Ny371.out] at ho
     replace HO_5 := Ae_q (Kd.N_afterv (ok := (fun k_ => some k_ ≠ (.slice Ao12 t358.length co12 : Value).ownBlock)) m10_q hg hat)
     replace HO_6 := Ae_q (rF_q (ok := (fun _ => True)) (rup HO_6.out) hg hat)
     replace HO370 := Ae_q (Kd.V_afterv (ok := (fun k_ => some k_ ≠ (.slice Ao11 t355.length co11 : Value).ownBlock)) m34_q hg hat)
     replace HO378 := Ae_q (Kd.V_afterv (ok := (fun k_ => some k_ ≠ (.slice Ao11 t355.length co11 : Value).ownBlock)) m35_q hg hat)
     replace HB := Ae_q (hb)
     have HO373 := Ae_q (ho)
     clear HO365
     clear ho hb hg hat
     refine hK.out _ _ trivial (fun hHeld => ?_)
     clear hK K
     refine nJ_q ?_
     refine one_ (i := 9) (N := some 60) #[true, true, true, true, true, true, true, true, true, true, false] rfl rfl (one_of HT_.out m8_q) (by decide) (fun K hK => ?_)
     refine rP_q k49 (w0 := w) w.heap.size (by rfl) (.tmp 55) (.tmp 59) 44 49 (.agg #[(.int .i64 0), (.int .i64 0), (.int .i64 0)]) 24 rfl Try.underlying44 info49 rfl (by decide) (by omega) v372 y371 y374 _ _ _ (fun k_ => some k_ ≠ (.slice Ao12 t358.length co12 : Value).ownBlock) (fun _ => False) rfl rfl ?aO ?aR (fun _ _ h => h) (fun _ h => h.elim) ?aF ?aB ?aS ?aL ?_
     (case aR => exact m30_q)
     (case aB => exact m49_q)
     (case aF => exact m38_q)
     (case aO => exact (rup HO373.out))
     (case aS => exact m45_q)
     (case aL => have := LMc26.out; omega)
     intro v380 w39 ho hb hg hat
     rw [← Ny379.out] at ho
     replace HO_5 := Ae_q (Kd.N_afterv (ok := (fun k_ => some k_ ≠ (.slice Ao12 t358.length co12 : Value).ownBlock)) m10_q hg hat)
     replace HO_6 := Ae_q (rF_q (ok := (fun _ => True)) (rup HO_6.out) hg hat)
     replace HO370 := Ae_q (Kd.V_afterv (ok := (fun k_ => some k_ ≠ (.slice Ao11 t355.length co11 : Value).ownBlock)) m11_q hg hat)
     replace HO378 := Ae_q (Kd.V_afterv (ok := (fun k_ => some k_ ≠ (.slice Ao11 t355.length co11 : Value).ownBlock)) m12_q hg hat)
     replace HB := Ae_q (hb)
     have HO381 := Ae_q (ho)
     clear HO373
     clear ho hb hg hat
     refine hK.out _ _ trivial (fun hHeld => ?_)
     clear hK K
     refine nJ_q ?_
     refine pJ HT_ 10 10 rfl rfl ?_
     refine done_ (done_of HT_.out m8_q) ?_
     try go_wp2_with (first | ((with_reducible refine gD_q (N := 61) rfl ?_); (try (refine gate_guard (by rfl) ?_; dsimp only)); refine Kd.R_lit k49 _ 49 ?hg (N := 61) ?hd (xs := ([] : List (S49))) (inner := []) (ok := fun _ => True) (okp := fun _ => True) ?hr ?hp (fun _ hk => hk) trivial (bR_q _ _) (nR_q _) (by simp) ?_; (case hd => rfl); (case hg => rfl); (case hr => exact m14_q); (case hp => exact m46_q); intro v383 w40 ho41 hb hg_ hnew_; clear hg_ hnew_; (first | rw [← Ny382.out] at ho41 | (simp only [Int.reduceToNat] at ho41; rw [← Ny382.out] at ho41)); replace HO_5 := Ae_q (Kd.N_elder' m10_q (rB_q ho41) hb); replace HO370 := Ae_q (Kd.V_elder' m11_q (rB_q ho41) hb); replace HO378 := Ae_q (Kd.V_elder' m12_q (rB_q ho41) hb); have HO384 := Ae_q (rL_q (rW_q (rW_q ho41 (rT_q (rup HO_6.out))) (rT_q (rup HO381.out))) (bZ_q (bel HB.out))); replace HO_6 := Ae_q (rE_q (rup HO_6.out) (rB_q ho41) hb); replace HO381 := Ae_q (rE_q (rup HO381.out) (rB_q ho41) hb); replace HB := Ae_q (bT_q (bel HB.out) hb); clear hb ho41) | ((with_reducible refine gate_builtin (b := .append) (xs := #[.tmp 61, .tmp 62]) rfl ?_); (try (refine gate_guard (by rfl) ?_; dsimp only)); at_builtin; refine Kd.R_append_rows k49 (w0 := w) w.heap.size rfl (.tmp 61) (.tmp 62) 44 49 (.agg #[(.int .i64 0), (.int .i64 0), (.int .i64 0)]) 24 rfl Try.underlying44 info49 rfl (by decide) (by omega) v383 y382 t358 _ _ _ (fun k_ => some k_ ≠ (.slice Ao12 t358.length co12 : Value).ownBlock ∧ some k_ ≠ (v380 : Value).ownBlock) (fun _ => False) rfl rfl ?aO ?aR (fun _ _ h => h) (fun _ h => h.elim) ?aF ?aB ?aS ?aL ?_; (case aR => exact cup (rR_q HO_6.out).2.2); (case aB => exact m49_q); (case aF => exact m42_q); (case aO => exact m36_q); (case aS => exact m45_q); (case aL => have := LMc27.out; omega); intro v386 w42 ho hb hg hat; rw [← Ny385.out] at ho; replace HO_5 := Ae_q (Kd.N_afterv (ok := (fun k_ => some k_ ≠ (.slice Ao12 t358.length co12 : Value).ownBlock ∧ some k_ ≠ (v380 : Value).ownBlock)) m10_q hg hat); replace HO_6 := Ae_q (rF_q (ok := (fun k_ => some k_ ≠ (v380 : Value).ownBlock)) m37_q hg hat); replace HO370 := Ae_q (Kd.V_afterv (ok := (fun k_ => some k_ ≠ (.slice Ao11 t355.length co11 : Value).ownBlock ∧ some k_ ≠ (v380 : Value).ownBlock)) m11_q hg hat); replace HO378 := Ae_q (Kd.V_afterv (ok := (fun k_ => some k_ ≠ (.slice Ao11 t355.length co11 : Value).ownBlock ∧ some k_ ≠ (v380 : Value).ownBlock)) m12_q hg hat); replace HO381 := Ae_q (rF_q (ok := (fun k_ => some k_ ≠ (.slice Ao12 t358.length co12 : Value).ownBlock)) (rup HO381.out) hg hat); replace HB := Ae_q (hb); have HO387 := Ae_q (ho); clear HO384; clear ho hb hg hat; have p29 : 0 ≤ ((ji19) : Int) := oD_q (by assumption); have q29 : ((ji19) : Int) < ((y385.length : Int) : Int) := oD_q (by assumption); obtain ⟨go29, co29, eo29, gb29, gl29, cl29, HG29⟩ := Kd.R_form HO387.out (by omega); (first | cases eo29 | (injection eo29 with ea_ en_ ec_; (first | subst ea_ | (injection ea_ with ea_; subst ea_)); subst ec_; clear en_)); have GB29 := Ae_q gb29; have GG29 := Ae_q HG29; clear gb29 gl29 HG29; obtain ⟨ce29, hcl29, hM29, hcc29, hfr29⟩ := Kd.R_elem HO387.out z49 ((ji19) : Int) p29 q29; obtain rfl := k49_openM hM29; have hx29_0 : w42.cell? ⟨go29, ((ji19) : Int).toNat * 3, none⟩ = some (.int .i64 ((rd_T49 y385 (ji19)).f0)) := hcc29 0 _ rfl; have hx29_1 : w42.cell? ⟨go29, ((ji19) : Int).toNat * 3 + 1, none⟩ = some (.int .i64 ((rd_T49 y385 (ji19)).f1)) := hcc29 1 _ rfl; have hx29_2 : w42.cell? ⟨go29, ((ji19) : Int).toNat * 3 + 2, none⟩ = some (.int .i64 ((rd_T49 y385 (ji19)).f2)) := hcc29 2 _ rfl; have hf29_0 : w42.frozen? ⟨go29, ((ji19) : Int).toNat * 3, none⟩ = false := hfr29 0; have hf29_1 : w42.frozen? ⟨go29, ((ji19) : Int).toNat * 3 + 1, none⟩ = false := hfr29 1; have hf29_2 : w42.frozen? ⟨go29, ((ji19) : Int).toNat * 3 + 2, none⟩ = false := hfr29 2; clear hcl29 hcc29 hfr29 hM29; replace p29 := eq_true p29; replace q29 := eq_true q29; have HX43 := Ae_q (show Kd.R k49 49 w42 w.heap.size (fun k_ => some k_ ≠ (.slice Ao12 t358.length co12 : Value).ownBlock ∧ some k_ ≠ (v380 : Value).ownBlock) (.slice (some ⟨go29, 0, none⟩) y385.length co29) y385 from (rup HO387.out)); obtain ⟨ce43, hcl43, hM43, hcc43, hfr43⟩ := Kd.R_elem HX43.out z49 ((ji19) : Int) (oD_q (by assumption)) (by have h_ : ((ji19) : Int) < ((y385.length : Int) : Int) := oD_q (by assumption); first | exact h_ | (have e_ := (rR_q HO387.out).1; omega) | simpa using h_); obtain rfl := k49_openM hM43; have HP43 := Kd.R_seg HX43.out ((ji19) : Int) (oD_q (by assumption)) (by have h_ : ((ji19) : Int) < ((y385.length : Int) : Int) := oD_q (by assumption); first | exact h_ | (have e_ := (rR_q HO387.out).1; omega) | simpa using h_) (seg := [.int .i64 0]) (j := 1) hcl43 hcc43 (show 2 ≤ 3 from by decide) (x' := (⟨(rd_T49 y385 (ji19)).f0, 0, (rd_T49 y385 (ji19)).f2⟩ : S49)) (k49_mkM _ _ _ (⟨(rd_T49 y385 (ji19)).f0, 0, (rd_T49 y385 (ji19)).f2⟩ : S49) ) (fun _ hk => hk); have hx43_1 := hcc43 1 _ rfl; (try simp only [show (k49).sz = 3 from rfl, Nat.mul_one, Nat.add_zero] at hx43_1); have hf43_1 := hfr43 1; (try simp only [show (k49).sz = 3 from rfl, Nat.mul_one, Nat.add_zero] at hf43_1); clear hcl43 hcc43 hfr43 hM43) | ((with_reducible refine gate_store (t := 3) (p := 67) rfl ?_); refine store_event (t := 3) (p := 67) (v := ?vo_w44) (w1 := (w42.setCell ⟨go29, ((ji19) : Int).toNat * 3 + 1, none⟩ (.int .i64 0))) ?hg ?ho ?hn ?hr ?_; (case ho => rfl); (case hg => rfl); (case hn => rfl); (case hr => exact m14_q); intro w44 hw; have hg : w42.grownBy w44 (some go29) := (by rw [hw]; exact HP43.2); have hp_ : Kd.R k49 49 w44 w.heap.size (fun k_ => some k_ ≠ (.slice Ao12 t358.length co12 : Value).ownBlock ∧ some k_ ≠ (v380 : Value).ownBlock) (.slice (some ⟨go29, 0, none⟩) y385.length co29) y388 := (by rw [hw, Ny388.out]; exact HP43.1); clear HP43; replace HO_5 := Ae_q (Kd.N_afterv (v := (.slice (some ⟨go29, 0, none⟩) y385.length co29)) (v1 := (.slice (some ⟨go29, 0, none⟩) y385.length co29)) (ok := (fun k_ => some k_ ≠ (.slice Ao12 t358.length co12 : Value).ownBlock ∧ some k_ ≠ (v380 : Value).ownBlock)) m10_q hg (.inl rfl)); replace HO_6 := Ae_q (rF_q (v := (.slice (some ⟨go29, 0, none⟩) y385.length co29)) (v1 := (.slice (some ⟨go29, 0, none⟩) y385.length co29)) (ok := (fun k_ => some k_ ≠ (v380 : Value).ownBlock)) (rup HO_6.out) hg (.inl rfl)); replace HO370 := Ae_q (Kd.V_afterv (v := (.slice (some ⟨go29, 0, none⟩) y385.length co29)) (v1 := (.slice (some ⟨go29, 0, none⟩) y385.length co29)) (ok := (fun k_ => some k_ ≠ (.slice Ao11 t355.length co11 : Value).ownBlock ∧ some k_ ≠ (v380 : Value).ownBlock)) m11_q hg (.inl rfl)); replace HO378 := Ae_q (Kd.V_afterv (v := (.slice (some ⟨go29, 0, none⟩) y385.length co29)) (v1 := (.slice (some ⟨go29, 0, none⟩) y385.length co29)) (ok := (fun k_ => some k_ ≠ (.slice Ao11 t355.length co11 : Value).ownBlock ∧ some k_ ≠ (v380 : Value).ownBlock)) m12_q hg (.inl rfl)); replace HO381 := Ae_q (rF_q (v := (.slice (some ⟨go29, 0, none⟩) y385.length co29)) (v1 := (.slice (some ⟨go29, 0, none⟩) y385.length co29)) (ok := (fun k_ => some k_ ≠ (.slice Ao12 t358.length co12 : Value).ownBlock)) (rup HO381.out) hg (.inl rfl)); replace HO387 := Ae_q (hp_); replace HB := Ae_q ((by rw [hw]; exact bS_q (HB.out) GB29.out : Below w.heap.size w w44)); clear hg hw hp_; obtain ⟨Ao45, co45, eo45⟩ := rS_q HO381.out; subst eo45) | ((with_reducible refine gC_q (f := 30) rfl ?_); refine gL_q (some 70) rfl rfl Try.func30 m8_q rfl #[.slice Ao11 t355.length co11, .slice Ao45 y379.length co45] rfl m1_q ?_; (with_reducible refine (impl_PlatesValid.calls kj8 _ _ t355 _ _ y379 true _ ?side1 ?side2 ?side3 ?side4 A30.out).mono ?_); (case side1 => exact m26_q); (case side2 => exact (Kd.N_reads' HO_5.out).2.1); (case side3 => exact cup (rR_q HO381.out).2.2); (case side4 => exact (rR_q HO381.out).2.1); rintro e w' ⟨rfl, hb⟩; refine ⟨_, rfl, ?_⟩; replace HO_5 := Ae_q (Kd.N_below m10_q hb); replace HO_6 := Ae_q (rO_q (rup HO_6.out) hb); replace HO370 := Ae_q (Kd.V_below m11_q hb); replace HO378 := Ae_q (Kd.V_below m12_q hb); replace HO381 := Ae_q (rO_q (rup HO381.out) hb); replace HO387 := Ae_q (rO_q (rup HO387.out) hb); replace HB := Ae_q (bT_q (bel HB.out) hb); (try clear hb); (try clear hb2); (try clear hk); (try clear hi)) | (go_at_call 30; refine calls_of_args (args' := #[.slice Ao11 t355.length co11, .slice (some ⟨go29, 0, none⟩) y388.length co29]) (by first | (rw [show y388.length = y385.length from (rR_q HO387.out).1.symm] <;> rfl) | rfl) ?_; (with_reducible refine (impl_PlatesValid.calls kj8 _ _ t355 _ _ y388 t390 _ ?side1 ?side2 ?side3 ?side4 A32.out).mono ?_); (case side1 => exact m26_q); (case side2 => exact (Kd.N_reads' HO_5.out).2.1); (case side3 => exact cup (rR_q HO387.out).2.2); (case side4 => rw [show y388.length = y385.length from (rR_q HO387.out).1.symm]; exact (rR_q HO387.out).2.1); rintro e w' ⟨rfl, hb⟩; replace HO_5 := Ae_q (Kd.N_below m10_q hb); replace HO_6 := Ae_q (rO_q (rup HO_6.out) hb); replace HO370 := Ae_q (Kd.V_below m11_q hb); replace HO378 := Ae_q (Kd.V_below m12_q hb); replace HO381 := Ae_q (rO_q (rup HO381.out) hb); replace HO387 := Ae_q (rO_q (rup HO387.out) hb); replace HB := Ae_q (bT_q (bel HB.out) hb); (try clear hb); (try clear hb2); (try clear hk); (try clear hi)))
     go_ret
     exact ⟨m32_q, bel HB.out⟩

def laws_FnPlatesPart.Pure : Prop := ∀ (l0 : List Int) (l1 : List Int), l0.length ≤ maxLen → l0.length * 1 ≤ 140737488351232 → (∀ x ∈ l0, (Lit.int .u8 x).wf = true) → l1.length ≤ maxLen → l1.length * 1 ≤ 140737488351232 → (∀ x ∈ l1, (Lit.int .u8 x).wf = true) → ∃ k, laws_FnPlatesPart.f k l0 l1 = some true
theorem laws_FnPlatesPart.walk (P : laws_FnPlatesPart.Pure) (a0 : Option Addr) (len0 cap0 : Nat) (z0 : List Int) (a1 : Option Addr) (len1 cap1 : Nat) (z1 : List Int) (w : World) (w0 : (a0 = none ∧ len0 = 0 ∧ cap0 = 0 ∧ z0 = []) ∨ ∃ x, a0 = some x ∧ len0 ≤ cap0 ∧ cap0 ≤ maxLen ∧ z0.length = cap0 ∧ (∀ i, i < z0.length → w.cell? (x.add i) = some (.int .u8 (z0.getD i 0))) ∧ ∀ n ∈ z0, (Lit.int .u8 n).wf = true) (y0 : len0 * 1 ≤ 140737488351232) (w1 : (a1 = none ∧ len1 = 0 ∧ cap1 = 0 ∧ z1 = []) ∨ ∃ x, a1 = some x ∧ len1 ≤ cap1 ∧ cap1 ≤ maxLen ∧ z1.length = cap1 ∧ (∀ i, i < z1.length → w.cell? (x.add i) = some (.int .u8 (z1.getD i 0))) ∧ ∀ n ∈ z1, (Lit.int .u8 n).wf = true) (y1 : len1 * 1 ≤ 140737488351232) :
    Calls Try.prog 7 #[.slice a0 len0 cap0, .slice a1 len1 cap1] w fun e w' => e = .returned (.bool true) ∧ Below w.heap.size w w' := by
 obtain ⟨l0, rfl, hr0, hm0, hw0, hc0⟩ := ReadsInt.ofRowC w0
 obtain ⟨l1, rfl, hr1, hm1, hw1, hc1⟩ := ReadsInt.ofRowC w1
 obtain ⟨k, h⟩ := P l0 l1 hm0 y0 hw0 hm1 y1 hw1
 refine (laws_FnPlatesPart.calls k _ _ l0 _ _ l1 true w (Kd.C_of_reads (d := (0 : Int)) (h1 := fun _ => rfl) hr0) hc0 (Kd.C_of_reads (d := (0 : Int)) (h1 := fun _ => rfl) hr1) hc1 h).mono ?_
 rintro e w' ⟨rfl, hd⟩
 exact ⟨rfl, hd⟩

end Go.Proofs.Ytnckblolijkdaaa.PBt
