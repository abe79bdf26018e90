import Derived.Test.YtnckblolijkdaaaVBPBtx0
import Derived.Test.YtnckblolijkdaaaVBPBtx3
import Derived.Test.YtnckblolijkdaaaVBPBtx4
import Derived.Test.YtnckblolijkdaaaVBPBtx6
namespace Go.Proofs.Ytnckblolijkdaaa.PBt
open Go.RowKit Go.Proofs.YtnckblolijkdaaaW.PrintWords Go.Proofs.YtnckblolijkdaaaW.PrintLast Go.Proofs.YtnckblolijkdaaaW.PrintMore
attribute [local go_sem] max2_int min2_int max_two min_two max_three min_three max_four min_four
set_option linter.unusedVariables false
set_option linter.unusedSimpArgs false

mutual
def laws_FnBatchesPart.j0 : Nat → List Int → List Int → Bool → Option (Bool)
 | 0, _, _, _ => none
 | k + 1, x0, x1, x18 => if x18 = true then (some true) else ((spec_DrawBatchesValid.f k x0).bind fun t138 => ((impl_BatchesValid.f k t138).bind fun t141 => ((spec_BatchesValid.f k t138).bind fun t142 => (if (t141 != t142) = true then (laws_FnBatchesPart.j1 k x1 t138 t141 t142 true) else (if t141 = true then (laws_FnBatchesPart.j1 k x1 t138 t141 t142 ((t138.length : Int) == 0)) else (laws_FnBatchesPart.j1 k x1 t138 t141 t142 true))))))
def laws_FnBatchesPart.j1 : Nat → List Int → List (S39) → Bool → Bool → Bool → Option (Bool)
 | 0, _, _, _, _, _ => none
 | k + 1, x1, x5, x6, x7, x36 => if x36 = true then (some (x6 == x7)) else (if (x5.length : Int) = 0 then (none) else ((some (([] : List (S39)) : List (S39))).bind fun y143 => (if 0 ≤ ((x1.length : Int) % (x5.length : Int)) then (if ((x1.length : Int) % (x5.length : Int)) ≤ (x5.length : Int) then ((some (x5.take (((x1.length : Int) % (x5.length : Int)) : Int).toNat : List (S39))).bind fun y146 => (if y143.length + y146.length < 2932031007402 then ((some (y143 ++ y146 : List (S39))).bind fun y151 => (if 0 ≤ (wrap64 (((x1.length : Int) % (x5.length : Int)) + 1)) then (if (wrap64 (((x1.length : Int) % (x5.length : Int)) + 1)) ≤ (x5.length : Int) then ((some (x5.drop ((wrap64 (((x1.length : Int) % (x5.length : Int)) + 1)) : Int).toNat : List (S39))).bind fun y154 => (if y151.length + y154.length < 2932031007402 then ((some (([] : List (S39)) : List (S39))).bind fun y162 => ((some (x5.take ((wrap64 (((x1.length : Int) % (x5.length : Int)) + 1)) : Int).toNat : List (S39))).bind fun y165 => (if y162.length + y165.length < 2932031007402 then ((some (y162 ++ y165 : List (S39))).bind fun y170 => ((some (x5.drop (((x1.length : Int) % (x5.length : Int)) : Int).toNat : List (S39))).bind fun y173 => (if y170.length + y173.length < 2932031007402 then ((impl_BatchesValid.f k (y151 ++ y154)).bind fun t181 => (if t181 = true then ((impl_BatchesValid.f k (y170 ++ y173)).bind fun t182 => (some (!t182))) else (some false))) else (none)))) else (none)))) else (none))) else (none)) else (none))) else (none))) else (none)) else (none))))
end
def laws_FnBatchesPart.f (k : Nat) (l0 : List Int) (l1 : List Int) : Option (Bool) := if (l0.length : Int) > 1048576 then (laws_FnBatchesPart.j0 k l0 l1 true) else (laws_FnBatchesPart.j0 k l0 l1 (decide ((l1.length : Int) > 1048576)))
def laws_FnBatchesPart.T9 : Bool × List (List Nat × List Nat) := (true, [([], []), ([], []), ([], []), ([1, 2], [1, 2]), ([0, 3], [0, 3]), ([], []), ([], []), ([6], [6]), ([5, 7], [5, 7]), ([4, 8, 4], [4, 8]), ([9, 9, 0, 1, 2, 3, 4, 5, 6, 7, 8, 9], [9])])
def laws_FnBatchesPart.B9 : List Nat := [0, 0, 0, 6, 15, 0, 0, 64, 224, 511, 1023]
theorem laws_FnBatchesPart.tab9 : rtab .any (opsOf Try.f3 9) = laws_FnBatchesPart.T9 := by kernel_rfl
theorem laws_FnBatchesPart.bits9 : waitsOk laws_FnBatchesPart.T9.2 laws_FnBatchesPart.B9 = true := by kernel_rfl
def laws_FnBatchesPart.T10 : Bool × List (List Nat × List Nat) := (true, [([], []), ([], []), ([], []), ([2], [2]), ([1, 3], [1, 3]), ([0, 4], [0, 4]), ([], []), ([], []), ([6, 7], [6, 7]), ([5, 8, 5], [5, 8]), ([9, 9, 0, 1, 2, 3, 4, 5, 6, 7, 8, 9], [9])])
def laws_FnBatchesPart.B10 : List Nat := [0, 0, 0, 4, 14, 31, 0, 0, 192, 511, 1023]
theorem laws_FnBatchesPart.tab10 : rtab .any (opsOf Try.f3 10) = laws_FnBatchesPart.T10 := by kernel_rfl
theorem laws_FnBatchesPart.bits10 : waitsOk laws_FnBatchesPart.T10.2 laws_FnBatchesPart.B10 = true := by kernel_rfl
set_option maxHeartbeats 8000000 in
set_option maxRecDepth 100000 in
theorem laws_FnBatchesPart.calls (k : Nat) (A0 : Option Addr) (c0 : Nat) (l0 : List Int) (A1 : Option Addr) (c1 : Nat) (l1 : List Int) (r : Bool) (w : World) (hr0 : Kd.C (Kd.int .u8) w A0 l0.length l0) (hc0 : l0.length ≤ c0) (hr1 : Kd.C (Kd.int .u8) w A1 l1.length l1) (hc1 : l1.length ≤ c1) (h : laws_FnBatchesPart.f k l0 l1 = some r) :
    Calls Try.prog 3 #[.slice A0 l0.length c0, .slice A1 l1.length c1] w fun e w' => e = .returned (.bool r) ∧ Below w.heap.size w w' := by
 have HR0 := Ae_q hr0
 have HC0 := Ae_q hc0
 clear hr0 hc0
 have HR1 := Ae_q hr1
 have HC1 := Ae_q hc1
 clear hr1 hc1
 have HB := Ae_q (bR_q w.heap.size w)
 have H : (if (l0.length : Int) > 1048576 then (laws_FnBatchesPart.j0 k l0 l1 true) else (laws_FnBatchesPart.j0 k l0 l1 (decide ((l1.length : Int) > 1048576)))) = some r := h
 clear h
 have HC3 := Ae_q H
 clear H
 go_enter Try.func3, Try.ntmps3
 go_upto_region 1 with (fail)
 go_cut [18] (fun v18 wc => ∃ (kq : Nat) (x18_2 : Bool), v18 = .bool x18_2 ∧ Aside0 (laws_FnBatchesPart.j0 kq l0 l1 x18_2 = some r) ∧ Aside0 (kq ≤ k) ∧ Aside0 (Below w.heap.size w wc))
 case first =>
  have H := HC3.out
  clear HC3
  by_cases c4 : (l0.length : Int) > 1048576
  ·rw [if_pos c4] at H
   have c4b0 : decide (1048576 < (l0.length : Int)) = true := dT_q c4
   have c4b1 : decide (1048576 < l0.length) = true := dT_q (by omega)
   clear c4
   (first | rw [c4b0] | (simp only [i64_w, i32_w]; rw [c4b0]) | skip)
   have H' := Ae_q H
   clear H
   go_wp2
   go_meet
   case rel => exact ⟨_, (true), m8_q, H', ⟨m53_q⟩, ⟨bel HB.out⟩⟩
  rw [if_neg c4] at H
  have c4b0 : decide (1048576 < (l0.length : Int)) = false := dF_q c4
  have c4b1 : decide (1048576 < l0.length) = false := dF_q (by omega)
  clear c4
  (first | rw [c4b0] | (simp only [i64_w, i32_w]; rw [c4b0]) | skip)
  have H' := Ae_q H
  clear H
  go_wp2
  go_meet
  case rel => exact ⟨_, (decide ((l1.length : Int) > 1048576)), m8_q, H', ⟨m53_q⟩, ⟨bel HB.out⟩⟩
 case rest =>
  clear HC3
  try clear c1
  try clear p2
  try clear c3
  try clear c4
  try clear c4b0
  try clear c4b1
  obtain ⟨kq, x18_2, rfl, HA, HJ2, HB⟩ := hcut
  cases kq with
  | zero => exact absurd HA.out (by simp [laws_FnBatchesPart.j0])
  | succ kj2 =>
   have H := HA.out
   clear HA
   simp only [laws_FnBatchesPart.j0] at H
   by_cases c5 : x18_2 = true
   ·subst c5
    have H1 : (some true) = some r := by rw [if_pos rfl] at H; exact H
    clear H
    have H := H1
    clear H1
    obtain rfl := oI_q H
    go_wp2
    go_ret
    exact ⟨m11_q, bel HB.out⟩
   replace c5 := fM_q.mpr c5
   subst c5
   have H1 : ((spec_DrawBatchesValid.f kj2 l0).bind fun t138 => ((impl_BatchesValid.f kj2 t138).bind fun t141 => ((spec_BatchesValid.f kj2 t138).bind fun t142 => (if (t141 != t142) = true then (laws_FnBatchesPart.j1 kj2 l1 t138 t141 t142 true) else (if t141 = true then (laws_FnBatchesPart.j1 kj2 l1 t138 t141 t142 ((t138.length : Int) == 0)) else (laws_FnBatchesPart.j1 kj2 l1 t138 t141 t142 true)))))) = some r := by rw [if_neg (show ¬ (false = true) by decide)] at H; exact H
   clear H
   have H := H1
   clear H1
   replace H := oB_q.mp H
   obtain ⟨t138, A60, H⟩ := H
   replace H : ((impl_BatchesValid.f kj2 t138).bind fun t141 => ((spec_BatchesValid.f kj2 t138).bind fun t142 => (if (t141 != t142) = true then (laws_FnBatchesPart.j1 kj2 l1 t138 t141 t142 true) else (if t141 = true then (laws_FnBatchesPart.j1 kj2 l1 t138 t141 t142 ((t138.length : Int) == 0)) else (laws_FnBatchesPart.j1 kj2 l1 t138 t141 t142 true))))) = some r := H
   have A6 := Ae_q A60
   clear A60
   replace H := oB_q.mp H
   obtain ⟨t141, A70, H⟩ := H
   replace H : ((spec_BatchesValid.f kj2 t138).bind fun t142 => (if (t141 != t142) = true then (laws_FnBatchesPart.j1 kj2 l1 t138 t141 t142 true) else (if t141 = true then (laws_FnBatchesPart.j1 kj2 l1 t138 t141 t142 ((t138.length : Int) == 0)) else (laws_FnBatchesPart.j1 kj2 l1 t138 t141 t142 true)))) = some r := H
   have A7 := Ae_q A70
   clear A70
   replace H := oB_q.mp H
   obtain ⟨t142, A80, H⟩ := H
   replace H : (if (t141 != t142) = true then (laws_FnBatchesPart.j1 kj2 l1 t138 t141 t142 true) else (if t141 = true then (laws_FnBatchesPart.j1 kj2 l1 t138 t141 t142 ((t138.length : Int) == 0)) else (laws_FnBatchesPart.j1 kj2 l1 t138 t141 t142 true))) = some r := H
   have A8 := Ae_q A80
   clear A80
   have HC9 := Ae_q H
   clear H
   go_upto_region 6 with (first | ((with_reducible refine gC_q (f := 14) rfl ?_); refine gL_q (some 20) rfl rfl Try.func14 m7_q rfl #[.slice A0 l0.length c0] rfl m1_q ?_; (with_reducible refine (spec_DrawBatchesValid.calls kj2 _ _ l0 t138 _ ?side1 ?side2 A6.out).mono ?_); (case side1 => exact cup (cB_q HR0.out HB.out)); (case side2 => exact HC0.out); rintro e w' ⟨v139, rfl, ho0, hb⟩; refine ⟨_, rfl, ?_⟩; have HO140 := Ae_q (Kd.N_lower (Kd.N_mono (ok' := fun k_ => True) ho0 (fun k_ hk_ => trivial)) (bZ_q (bel HB.out))); replace HB := Ae_q (bT_q (bel HB.out) hb); (try clear hb); (try clear hb2); (try clear hk); (try clear hi); (try clear ho0); obtain ⟨Ao11, co11, eo11⟩ := Kd.N_slice HO140.out; subst eo11) | ((first | ((with_reducible refine gC_q (f := 15) rfl ?_); refine gL_q (some 22) rfl rfl Try.func15 m7_q rfl #[.slice Ao11 t138.length co11] rfl m1_q ?_; (with_reducible refine (impl_BatchesValid.calls kj2 _ _ t138 t141 _ ?side1 ?side2 A7.out).mono ?_)) | ((with_reducible refine gC_q (f := 16) rfl ?_); refine gL_q (some 24) rfl rfl Try.func16 m7_q rfl #[.slice Ao11 t138.length co11] rfl m1_q ?_; (with_reducible refine (spec_BatchesValid.calls kj2 _ _ t138 t142 _ ?side1 ?side2 A8.out).mono ?_))); (case side1 => repeat (first | exact (Kd.N_reads' HO140.out).2.2 | (with_reducible refine cA_q ?_ _) | (with_reducible refine cN_q ?_ _) | (with_reducible refine cD_q ?_))); (case side2 => exact (Kd.N_reads' HO140.out).2.1); rintro e w' ⟨rfl, hb⟩; refine ⟨_, rfl, ?_⟩; replace HO140 := Ae_q (Kd.N_below m25_q hb); replace HB := Ae_q (bT_q (bel HB.out) hb); (try clear hb); (try clear hb2); (try clear hk); (try clear hi)))
   (try simp only [Act.put, sA_q, sZ_q, sS_q])
   go_cut [36] (fun v36 wc => ∃ (kq : Nat) (x36_8 : Bool), v36 = .bool x36_8 ∧ Aside0 (laws_FnBatchesPart.j1 kq l1 t138 t141 t142 x36_8 = some r) ∧ Aside0 (kq ≤ kj2) ∧ Aside0 (Kd.N k39 39 wc w.heap.size (fun _ => True) (.slice Ao11 t138.length co11) t138) ∧ Aside0 (Below w.heap.size w wc))
   case first =>
    have H := HC9.out
    clear HC9
    by_cases c14 : (t141 != t142) = true
    ·rw [if_pos c14] at H
     have c14b0 : (t141 != t142) = true := c14
     (try (have c14b1 : decide (t141 = t142) = false := by simpa using c14))
     (try (have c14b2 : (t141 == t142) = false := by simpa using c14))
     (try (have c14b3 : ¬ (t141 = t142) := by simpa using c14))
     clear c14
     (first | rw [c14b0] | (simp only [i64_w, i32_w]; rw [c14b0]) | skip)
     have H' := Ae_q H
     clear H
     go_wp2
     go_meet
     case rel => exact ⟨_, (true), m8_q, H', ⟨m50_q⟩, ⟨m25_q⟩, ⟨bel HB.out⟩⟩
    rw [if_neg c14] at H
    have c14b0 : (t141 != t142) = false := by simpa using c14
    (try (have c14b1 : decide (t141 = t142) = true := by simpa using c14))
    (try (have c14b2 : (t141 == t142) = true := by simpa using c14))
    clear c14
    (first | rw [c14b0] | (simp only [i64_w, i32_w]; rw [c14b0]) | skip)
    by_cases c15 : t141 = true
    ·subst c15
     have H1 : (laws_FnBatchesPart.j1 kj2 l1 t138 true t142 ((t138.length : Int) == 0)) = some r := by rw [if_pos rfl] at H; exact H
     clear H
     have H := H1
     clear H1
     have H' := Ae_q H
     clear H
     go_wp2
     go_meet
     case rel => exact ⟨_, (((t138.length : Int) == 0)), m8_q, H', ⟨m50_q⟩, ⟨m25_q⟩, ⟨bel HB.out⟩⟩
    replace c15 := fM_q.mpr c15
    subst c15
    have H1 : (laws_FnBatchesPart.j1 kj2 l1 t138 false t142 true) = some r := by rw [if_neg (show ¬ (false = true) by decide)] at H; exact H
    clear H
    have H := H1
    clear H1
    have H' := Ae_q H
    clear H
    go_wp2
    go_meet
    case rel => exact ⟨_, (true), m8_q, H', ⟨m50_q⟩, ⟨m25_q⟩, ⟨bel HB.out⟩⟩
   case rest =>
    clear HC9
    try clear c1
    try clear p2
    try clear c3
    try clear c4
    try clear c4b0
    try clear c4b1
    try clear c5
    try clear c14
    try clear c14b0
    try clear c14b1
    try clear c14b2
    try clear c15
    try clear p2
    obtain ⟨kq, x36_8, rfl, HA, HJ8, HO_5, HB⟩ := hcut
    cases kq with
    | zero => exact absurd HA.out (by simp [laws_FnBatchesPart.j1])
    | succ kj8 =>
     have H := HA.out
     clear HA
     simp only [laws_FnBatchesPart.j1] at H
     by_cases c16 : x36_8 = true
     ·subst c16
      have H1 : (some (t141 == t142)) = some r := by rw [if_pos rfl] at H; exact H
      clear H
      have H := H1
      clear H1
      obtain rfl := oI_q H
      go_wp2
      go_ret
      exact ⟨m11_q, bel HB.out⟩
     replace c16 := fM_q.mpr c16
     subst c16
     have H1 : (if (t138.length : Int) = 0 then (none) else ((some (([] : List (S39)) : List (S39))).bind fun y143 => (if 0 ≤ ((l1.length : Int) % (t138.length : Int)) then (if ((l1.length : Int) % (t138.length : Int)) ≤ (t138.length : Int) then ((some (t138.take (((l1.length : Int) % (t138.length : Int)) : Int).toNat : List (S39))).bind fun y146 => (if y143.length + y146.length < 2932031007402 then ((some (y143 ++ y146 : List (S39))).bind fun y151 => (if 0 ≤ (wrap64 (((l1.length : Int) % (t138.length : Int)) + 1)) then (if (wrap64 (((l1.length : Int) % (t138.length : Int)) + 1)) ≤ (t138.length : Int) then ((some (t138.drop ((wrap64 (((l1.length : Int) % (t138.length : Int)) + 1)) : Int).toNat : List (S39))).bind fun y154 => (if y151.length + y154.length < 2932031007402 then ((some (([] : List (S39)) : List (S39))).bind fun y162 => ((some (t138.take ((wrap64 (((l1.length : Int) % (t138.length : Int)) + 1)) : Int).toNat : List (S39))).bind fun y165 => (if y162.length + y165.length < 2932031007402 then ((some (y162 ++ y165 : List (S39))).bind fun y170 => ((some (t138.drop (((l1.length : Int) % (t138.length : Int)) : Int).toNat : List (S39))).bind fun y173 => (if y170.length + y173.length < 2932031007402 then ((impl_BatchesValid.f kj8 (y151 ++ y154)).bind fun t181 => (if t181 = true then ((impl_BatchesValid.f kj8 (y170 ++ y173)).bind fun t182 => (some (!t182))) else (some false))) else (none)))) else (none)))) else (none))) else (none)) else (none))) else (none))) else (none)) else (none)))) = some r := by rw [if_neg (show ¬ (false = true) by decide)] at H; exact H
     clear H
     have H := H1
     clear H1
     by_cases c17 : (t138.length : Int) = 0
     ·rw [if_pos c17] at H
      exact absurd H (by simp)
     rw [if_neg c17] at H
     have c17b0 : ((t138.length : Int) == 0) = false := fN_q.mpr c17
     have c17b1 : ((t138.length : Int) != 0) = true := nI_q.mpr c17
     have c17b2 : ¬ (t138 = []) := fun h_ => c17 (by rw [h_]; rfl)
     obtain ⟨y143, hy143⟩ : ∃ y_ : List (S39), y_ = (([] : List (S39))) := ⟨_, rfl⟩
     replace H : (if 0 ≤ ((l1.length : Int) % (t138.length : Int)) then (if ((l1.length : Int) % (t138.length : Int)) ≤ (t138.length : Int) then ((some (t138.take (((l1.length : Int) % (t138.length : Int)) : Int).toNat : List (S39))).bind fun y146 => (if y143.length + y146.length < 2932031007402 then ((some (y143 ++ y146 : List (S39))).bind fun y151 => (if 0 ≤ (wrap64 (((l1.length : Int) % (t138.length : Int)) + 1)) then (if (wrap64 (((l1.length : Int) % (t138.length : Int)) + 1)) ≤ (t138.length : Int) then ((some (t138.drop ((wrap64 (((l1.length : Int) % (t138.length : Int)) + 1)) : Int).toNat : List (S39))).bind fun y154 => (if y151.length + y154.length < 2932031007402 then ((some (([] : List (S39)) : List (S39))).bind fun y162 => ((some (t138.take ((wrap64 (((l1.length : Int) % (t138.length : Int)) + 1)) : Int).toNat : List (S39))).bind fun y165 => (if y162.length + y165.length < 2932031007402 then ((some (y162 ++ y165 : List (S39))).bind fun y170 => ((some (t138.drop (((l1.length : Int) % (t138.length : Int)) : Int).toNat : List (S39))).bind fun y173 => (if y170.length + y173.length < 2932031007402 then ((impl_BatchesValid.f kj8 (y151 ++ y154)).bind fun t181 => (if t181 = true then ((impl_BatchesValid.f kj8 (y170 ++ y173)).bind fun t182 => (some (!t182))) else (some false))) else (none)))) else (none)))) else (none))) else (none)) else (none))) else (none))) else (none)) else (none)) = some r := by first | (rw [hy143]; with_reducible exact H) | (have H2_ := (oS_q _ _).symm.trans H; rw [hy143]; with_reducible exact H2_) | (have H2_ := (oS_q _ _).symm.trans H; with_reducible exact H2_) | with_reducible exact H | (rw [hy143]; exact H) | exact H
     have Ny143 := Ae_q hy143
     clear hy143
     obtain ⟨ji18, hji18⟩ : ∃ j_ : Int, ((l1.length : Int) % (t138.length : Int)) = j_ := ⟨_, rfl⟩
     replace H : (if 0 ≤ (ji18) then (if (ji18) ≤ (t138.length : Int) then ((some (t138.take ((ji18) : Int).toNat : List (S39))).bind fun y146 => (if y143.length + y146.length < 2932031007402 then ((some (y143 ++ y146 : List (S39))).bind fun y151 => (if 0 ≤ (wrap64 ((ji18) + 1)) then (if (wrap64 ((ji18) + 1)) ≤ (t138.length : Int) then ((some (t138.drop ((wrap64 ((ji18) + 1)) : Int).toNat : List (S39))).bind fun y154 => (if y151.length + y154.length < 2932031007402 then ((some (([] : List (S39)) : List (S39))).bind fun y162 => ((some (t138.take ((wrap64 ((ji18) + 1)) : Int).toNat : List (S39))).bind fun y165 => (if y162.length + y165.length < 2932031007402 then ((some (y162 ++ y165 : List (S39))).bind fun y170 => ((some (t138.drop ((ji18) : Int).toNat : List (S39))).bind fun y173 => (if y170.length + y173.length < 2932031007402 then ((impl_BatchesValid.f kj8 (y151 ++ y154)).bind fun t181 => (if t181 = true then ((impl_BatchesValid.f kj8 (y170 ++ y173)).bind fun t182 => (some (!t182))) else (some false))) else (none)))) else (none)))) else (none))) else (none)) else (none))) else (none))) else (none)) else (none)) = some r := by first | (rw [hji18] at H; exact H) | (simp only [hji18] at H ⊢; exact H)
     by_cases c19 : 0 ≤ (ji18)
     rotate_left
     ·rw [if_neg c19] at H
      exact absurd H (by simp)
     rw [if_pos c19] at H
     have c19b0 := eq_true c19
     have c19b1 : decide (0 ≤ (ji18)) = true := dT_q c19
     clear c19
     by_cases c20 : (ji18) ≤ (t138.length : Int)
     rotate_left
     ·rw [if_neg c20] at H
      exact absurd H (by simp)
     rw [if_pos c20] at H
     have c20b0 := eq_true c20
     have c20b1 : decide ((ji18) ≤ (t138.length : Int)) = true := dT_q c20
     clear c20
     obtain ⟨y146, hy146⟩ : ∃ y_ : List (S39), y_ = (t138.take ((ji18) : Int).toNat) := ⟨_, rfl⟩
     replace H : (if y143.length + y146.length < 2932031007402 then ((some (y143 ++ y146 : List (S39))).bind fun y151 => (if 0 ≤ (wrap64 ((ji18) + 1)) then (if (wrap64 ((ji18) + 1)) ≤ (t138.length : Int) then ((some (t138.drop ((wrap64 ((ji18) + 1)) : Int).toNat : List (S39))).bind fun y154 => (if y151.length + y154.length < 2932031007402 then ((some (([] : List (S39)) : List (S39))).bind fun y162 => ((some (t138.take ((wrap64 ((ji18) + 1)) : Int).toNat : List (S39))).bind fun y165 => (if y162.length + y165.length < 2932031007402 then ((some (y162 ++ y165 : List (S39))).bind fun y170 => ((some (t138.drop ((ji18) : Int).toNat : List (S39))).bind fun y173 => (if y170.length + y173.length < 2932031007402 then ((impl_BatchesValid.f kj8 (y151 ++ y154)).bind fun t181 => (if t181 = true then ((impl_BatchesValid.f kj8 (y170 ++ y173)).bind fun t182 => (some (!t182))) else (some false))) else (none)))) else (none)))) else (none))) else (none)) else (none))) else (none)) = some r := by first | (rw [hy146]; with_reducible exact H) | (have H2_ := (oS_q _ _).symm.trans H; rw [hy146]; with_reducible exact H2_) | (have H2_ := (oS_q _ _).symm.trans H; with_reducible exact H2_) | with_reducible exact H | (rw [hy146]; exact H) | exact H
     have Ny146 := Ae_q hy146
     clear hy146
     by_cases c21 : y143.length + y146.length < 2932031007402
     rotate_left
     ·rw [if_neg c21] at H
      exact absurd H (by simp)
     rw [if_pos c21] at H
     have LMc21 := Ae_q c21
     clear c21
     obtain ⟨y151, hy151⟩ : ∃ y_ : List (S39), y_ = (y143 ++ y146) := ⟨_, rfl⟩
     replace H : (if 0 ≤ (wrap64 ((ji18) + 1)) then (if (wrap64 ((ji18) + 1)) ≤ (t138.length : Int) then ((some (t138.drop ((wrap64 ((ji18) + 1)) : Int).toNat : List (S39))).bind fun y154 => (if y151.length + y154.length < 2932031007402 then ((some (([] : List (S39)) : List (S39))).bind fun y162 => ((some (t138.take ((wrap64 ((ji18) + 1)) : Int).toNat : List (S39))).bind fun y165 => (if y162.length + y165.length < 2932031007402 then ((some (y162 ++ y165 : List (S39))).bind fun y170 => ((some (t138.drop ((ji18) : Int).toNat : List (S39))).bind fun y173 => (if y170.length + y173.length < 2932031007402 then ((impl_BatchesValid.f kj8 (y151 ++ y154)).bind fun t181 => (if t181 = true then ((impl_BatchesValid.f kj8 (y170 ++ y173)).bind fun t182 => (some (!t182))) else (some false))) else (none)))) else (none)))) else (none))) else (none)) else (none)) = some r := by first | (rw [hy151]; with_reducible exact H) | (have H2_ := (oS_q _ _).symm.trans H; rw [hy151]; with_reducible exact H2_) | (have H2_ := (oS_q _ _).symm.trans H; with_reducible exact H2_) | with_reducible exact H | (rw [hy151]; exact H) | exact H
     have Ny151 := Ae_q hy151
     clear hy151
     obtain ⟨ji22, hji22⟩ : ∃ j_ : Int, (wrap64 ((ji18) + 1)) = j_ := ⟨_, rfl⟩
     replace H : (if 0 ≤ (ji22) then (if (ji22) ≤ (t138.length : Int) then ((some (t138.drop ((ji22) : Int).toNat : List (S39))).bind fun y154 => (if y151.length + y154.length < 2932031007402 then ((some (([] : List (S39)) : List (S39))).bind fun y162 => ((some (t138.take ((ji22) : Int).toNat : List (S39))).bind fun y165 => (if y162.length + y165.length < 2932031007402 then ((some (y162 ++ y165 : List (S39))).bind fun y170 => ((some (t138.drop ((ji18) : Int).toNat : List (S39))).bind fun y173 => (if y170.length + y173.length < 2932031007402 then ((impl_BatchesValid.f kj8 (y151 ++ y154)).bind fun t181 => (if t181 = true then ((impl_BatchesValid.f kj8 (y170 ++ y173)).bind fun t182 => (some (!t182))) else (some false))) else (none)))) else (none)))) else (none))) else (none)) else (none)) = some r := by first | (rw [hji22] at H; exact H) | (simp only [hji22] at H ⊢; exact H)
     have hji22w : (IntKind.i64.wrap ((ji18) + 1)) = ji22 := (i64_w _).trans hji22
     by_cases c23 : 0 ≤ (ji22)
     rotate_left
     ·rw [if_neg c23] at H
      exact absurd H (by simp)
     rw [if_pos c23] at H
     have c23b0 := eq_true c23
     have c23b1 : decide (0 ≤ (ji22)) = true := dT_q c23
     clear c23
     by_cases c24 : (ji22) ≤ (t138.length : Int)
     rotate_left
     ·rw [if_neg c24] at H
      exact absurd H (by simp)
     rw [if_pos c24] at H
     have c24b0 := eq_true c24
     have c24b1 : decide ((ji22) ≤ (t138.length : Int)) = true := dT_q c24
     clear c24
     obtain ⟨y154, hy154⟩ : ∃ y_ : List (S39), y_ = (t138.drop ((ji22) : Int).toNat) := ⟨_, rfl⟩
     replace H : (if y151.length + y154.length < 2932031007402 then ((some (([] : List (S39)) : List (S39))).bind fun y162 => ((some (t138.take ((ji22) : Int).toNat : List (S39))).bind fun y165 => (if y162.length + y165.length < 2932031007402 then ((some (y162 ++ y165 : List (S39))).bind fun y170 => ((some (t138.drop ((ji18) : Int).toNat : List (S39))).bind fun y173 => (if y170.length + y173.length < 2932031007402 then ((impl_BatchesValid.f kj8 (y151 ++ y154)).bind fun t181 => (if t181 = true then ((impl_BatchesValid.f kj8 (y170 ++ y173)).bind fun t182 => (some (!t182))) else (some false))) else (none)))) else (none)))) else (none)) = some r := by first | (rw [hy154]; with_reducible exact H) | (have H2_ := (oS_q _ _).symm.trans H; rw [hy154]; with_reducible exact H2_) | (have H2_ := (oS_q _ _).symm.trans H; with_reducible exact H2_) | with_reducible exact H | (rw [hy154]; exact H) | exact H
     have Ny154 := Ae_q hy154
     clear hy154
     by_cases c25 : y151.length + y154.length < 2932031007402
     rotate_left
     ·rw [if_neg c25] at H
      exact absurd H (by simp)
     rw [if_pos c25] at H
     have LMc25 := Ae_q c25
     clear c25
     obtain ⟨y159, hy159⟩ : ∃ y_ : List (S39), y_ = (y151 ++ y154) := ⟨_, rfl⟩
     replace H : ((some (([] : List (S39)) : List (S39))).bind fun y162 => ((some (t138.take ((ji22) : Int).toNat : List (S39))).bind fun y165 => (if y162.length + y165.length < 2932031007402 then ((some (y162 ++ y165 : List (S39))).bind fun y170 => ((some (t138.drop ((ji18) : Int).toNat : List (S39))).bind fun y173 => (if y170.length + y173.length < 2932031007402 then ((impl_BatchesValid.f kj8 y159).bind fun t181 => (if t181 = true then ((impl_BatchesValid.f kj8 (y170 ++ y173)).bind fun t182 => (some (!t182))) else (some false))) else (none)))) else (none)))) = some r := by first | (rw [hy159]; with_reducible exact H) | (have H2_ := (oS_q _ _).symm.trans H; rw [hy159]; with_reducible exact H2_) | (have H2_ := (oS_q _ _).symm.trans H; with_reducible exact H2_) | with_reducible exact H | (rw [hy159]; exact H) | exact H
     have Ny159 := Ae_q hy159
     clear hy159
     obtain ⟨y162, hy162⟩ : ∃ y_ : List (S39), y_ = (([] : List (S39))) := ⟨_, rfl⟩
     replace H : ((some (t138.take ((ji22) : Int).toNat : List (S39))).bind fun y165 => (if y162.length + y165.length < 2932031007402 then ((some (y162 ++ y165 : List (S39))).bind fun y170 => ((some (t138.drop ((ji18) : Int).toNat : List (S39))).bind fun y173 => (if y170.length + y173.length < 2932031007402 then ((impl_BatchesValid.f kj8 y159).bind fun t181 => (if t181 = true then ((impl_BatchesValid.f kj8 (y170 ++ y173)).bind fun t182 => (some (!t182))) else (some false))) else (none)))) else (none))) = some r := by first | (rw [hy162]; with_reducible exact H) | (have H2_ := (oS_q _ _).symm.trans H; rw [hy162]; with_reducible exact H2_) | (have H2_ := (oS_q _ _).symm.trans H; with_reducible exact H2_) | with_reducible exact H | (rw [hy162]; exact H) | exact H
     have Ny162 := Ae_q hy162
     clear hy162
     have c26b0 := eq_true (oD_q (by assumption) : 0 ≤ (ji22))
     have c27b0 := eq_true (oD_q (by assumption) : (ji22) ≤ (t138.length : Int))
     obtain ⟨y165, hy165⟩ : ∃ y_ : List (S39), y_ = (t138.take ((ji22) : Int).toNat) := ⟨_, rfl⟩
     replace H : (if y162.length + y165.length < 2932031007402 then ((some (y162 ++ y165 : List (S39))).bind fun y170 => ((some (t138.drop ((ji18) : Int).toNat : List (S39))).bind fun y173 => (if y170.length + y173.length < 2932031007402 then ((impl_BatchesValid.f kj8 y159).bind fun t181 => (if t181 = true then ((impl_BatchesValid.f kj8 (y170 ++ y173)).bind fun t182 => (some (!t182))) else (some false))) else (none)))) else (none)) = some r := by first | (rw [hy165]; with_reducible exact H) | (have H2_ := (oS_q _ _).symm.trans H; rw [hy165]; with_reducible exact H2_) | (have H2_ := (oS_q _ _).symm.trans H; with_reducible exact H2_) | with_reducible exact H | (rw [hy165]; exact H) | exact H
     have Ny165 := Ae_q hy165
     clear hy165
     by_cases c28 : y162.length + y165.length < 2932031007402
     rotate_left
     ·rw [if_neg c28] at H
      exact absurd H (by simp)
     rw [if_pos c28] at H
     have LMc28 := Ae_q c28
     clear c28
     obtain ⟨y170, hy170⟩ : ∃ y_ : List (S39), y_ = (y162 ++ y165) := ⟨_, rfl⟩
     replace H : ((some (t138.drop ((ji18) : Int).toNat : List (S39))).bind fun y173 => (if y170.length + y173.length < 2932031007402 then ((impl_BatchesValid.f kj8 y159).bind fun t181 => (if t181 = true then ((impl_BatchesValid.f kj8 (y170 ++ y173)).bind fun t182 => (some (!t182))) else (some false))) else (none))) = some r := by first | (rw [hy170]; with_reducible exact H) | (have H2_ := (oS_q _ _).symm.trans H; rw [hy170]; with_reducible exact H2_) | (have H2_ := (oS_q _ _).symm.trans H; with_reducible exact H2_) | with_reducible exact H | (rw [hy170]; exact H) | exact H
     have Ny170 := Ae_q hy170
     clear hy170
     have c29b0 := eq_true (oD_q (by assumption) : 0 ≤ (ji18))
     have c30b0 := eq_true (oD_q (by assumption) : (ji18) ≤ (t138.length : Int))
     obtain ⟨y173, hy173⟩ : ∃ y_ : List (S39), y_ = (t138.drop ((ji18) : Int).toNat) := ⟨_, rfl⟩
     replace H : (if y170.length + y173.length < 2932031007402 then ((impl_BatchesValid.f kj8 y159).bind fun t181 => (if t181 = true then ((impl_BatchesValid.f kj8 (y170 ++ y173)).bind fun t182 => (some (!t182))) else (some false))) else (none)) = some r := by first | (rw [hy173]; with_reducible exact H) | (have H2_ := (oS_q _ _).symm.trans H; rw [hy173]; with_reducible exact H2_) | (have H2_ := (oS_q _ _).symm.trans H; with_reducible exact H2_) | with_reducible exact H | (rw [hy173]; exact H) | exact H
     have Ny173 := Ae_q hy173
     clear hy173
     by_cases c31 : y170.length + y173.length < 2932031007402
     rotate_left
     ·rw [if_neg c31] at H
      exact absurd H (by simp)
     rw [if_pos c31] at H
     have LMc31 := Ae_q c31
     clear c31
     obtain ⟨y178, hy178⟩ : ∃ y_ : List (S39), y_ = (y170 ++ y173) := ⟨_, rfl⟩
     replace H : ((impl_BatchesValid.f kj8 y159).bind fun t181 => (if t181 = true then ((impl_BatchesValid.f kj8 y178).bind fun t182 => (some (!t182))) else (some false))) = some r := by first | (rw [hy178]; with_reducible exact H) | (have H2_ := (oS_q _ _).symm.trans H; rw [hy178]; with_reducible exact H2_) | (have H2_ := (oS_q _ _).symm.trans H; with_reducible exact H2_) | with_reducible exact H | (rw [hy178]; exact H) | exact H
     have Ny178 := Ae_q hy178
     clear hy178
     replace H := oB_q.mp H
     obtain ⟨t181, A320, H⟩ := H
     replace H : (if t181 = true then ((impl_BatchesValid.f kj8 y178).bind fun t182 => (some (!t182))) else (some false)) = some r := H
     have A32 := Ae_q A320
     clear A320
     by_cases c33 : t181 = true
     rotate_left
     ·replace c33 := fM_q.mpr c33
      subst c33
      have H1 : (some false) = some r := by rw [if_neg (show ¬ (false = true) by decide)] at H; exact H
      clear H
      have H := H1
      clear H1
      obtain rfl := oI_q H
      try go_wp2
      replace HO_5 := Ae_q (Kd.N_drew HO_5.out)
      replace HB := Ae_q (bD_q HB.out)
      have q54 : ((ji18) : Int) ≤ ((t138.length : Int) : Int) := oD_q (by assumption)
      obtain ⟨i054, hi054, _, hsz54, _⟩ := info_parts info39
      have hroom54 : t138.length ≤ co11 := (Kd.N_reads' HO_5.out).2.1
      have hC54 : Kd.F k39 _ _ Ao11 t138.length t138 := (Kd.V_at (base := w.heap.size) (Kd.N_V HO_5.out)).2.2
      have hcut54 := cut_to (P := Try.prog) 23 39 .i64 Try.underlying23 hi054 Ao11 t138.length co11 (ji18) (oD_q (by assumption)) q54 hroom54
      have hr54 := Kd.F_take (m := ((ji18) : Int).toNat) hC54 (by omega)
      have hy54 : y146.length = ((ji18) : Int).toNat := (by rw [Ny146.out, lT_q]; omega)
      rw [← Ny146.out] at hr54
      rw [← hy54] at hcut54
      have HO150 := Ae_q (show Kd.V k39 39 _ w.heap.size _ (.slice Ao11 y146.length co11) y146 from Kd.V_mk (by omega) hr54)
      have HC150 := Ae_q (show y146.length ≤ co11 from by omega)
      clear hr54 hC54 hroom54 hi054 hsz54
      have KY54 := Ae_q hy54
      clear hy54
      replace q54 := eq_true q54
      have q55 : ((ji22) : Int) ≤ ((t138.length : Int) : Int) := oD_q (by assumption)
      obtain ⟨i055, hi055, _, hsz55, _⟩ := info_parts info39
      have hroom55 : t138.length ≤ co11 := (Kd.N_reads' HO_5.out).2.1
      have hC55 : Kd.F k39 _ _ Ao11 t138.length t138 := (Kd.V_at (base := w.heap.size) (Kd.N_V HO_5.out)).2.2
      have q055 : (0 : Int) ≤ ((ji22) : Int) := oD_q (by assumption)
      have hcut55 := cut_from (P := Try.prog) 23 39 .i64 Try.underlying23 hi055 4 hsz55 Ao11 t138.length co11 (ji22) q055 q55
      have hr55 := Kd.F_cut (m := ((ji22) : Int).toNat) (c := co11) hC55 (by omega) hroom55
      obtain ⟨A55, hA55⟩ : ∃ A1, A1 = (if co11 = ((ji22) : Int).toNat then Ao11 else (Ao11 : Option Addr).map (·.add (((ji22) : Int).toNat * 4))) := ⟨_, rfl⟩
      obtain ⟨c55, hc55⟩ : ∃ c1, c1 = co11 - ((ji22) : Int).toNat := ⟨_, rfl⟩
      have hy55 : y154.length = t138.length - ((ji22) : Int).toNat := (by rw [Ny154.out, lD_q] <;> omega)
      rw [show (t138).drop ((ji22) : Int).toNat = y154 from Ny154.out.symm] at hr55
      replace hr55 : Kd.F k39 _ _ A55 y154.length y154 := (by rw [hA55]; exact hr55)
      rw [← hy55, ← hA55, ← hc55] at hcut55
      have HO158 := Ae_q (show Kd.V k39 39 _ w.heap.size _ (.slice A55 y154.length c55) y154 from Kd.V_mk (by rw [hy55, hc55]; exact Nat.sub_le_sub_right hroom55 _) hr55)
      have HC158 := Ae_q (show y154.length ≤ c55 from by rw [hy55, hc55]; exact Nat.sub_le_sub_right hroom55 _)
      clear hr55 hC55 hroom55 hi055 hsz55 hc55
      have KY55 := Ae_q hy55
      have KA55 := Ae_q hA55
      clear hy55 hA55
      replace q55 := eq_true q55
      refine start_ (n := 11) (S := fun w' => True) (ds := []) #[false, false, false, false, false, false, false, false, false, false, false] m7_q rfl rfl trivial (fun hHeld => ?_); refine with_tabW laws_FnBatchesPart.tab9 laws_FnBatchesPart.bits9 (fun HT_ HW_ => ?_)
      generalize wc.drew = w53 at HO_5 HB HO150 HO158 hHeld ⊢
      refine pJ HT_ 1 46 rfl rfl ?_
      refine pJ HT_ 2 47 rfl rfl ?_
      refine pJ HT_ 3 48 rfl rfl ?_
      refine pJ HT_ 5 50 rfl rfl ?_
      refine pJ HT_ 6 51 rfl rfl ?_
      refine pJ HT_ 7 52 rfl rfl ?_
      refine pJ HT_ 8 53 rfl rfl ?_
      refine one_ (i := 0) (N := some 45) #[true, true, true, true, false, true, true, true, true, false, false] rfl rfl (one_of HT_.out m7_q) (by decide) (fun K hK => ?_)
      refine Kd.N_lit_step k39 _ 39 ?hg (N' := 45) ?hd (xs := ([] : List (S39))) (inner := []) (ok := (fun k_ => some k_ ≠ (.slice Ao11 t138.length co11 : Value).ownBlock)) (okp := (fun k_ => some k_ ≠ (.slice Ao11 t138.length co11 : Value).ownBlock)) ?hr ?hp (fun _ hk => hk) ((show ∀ k_, w53.heap.size ≤ k_ → (fun k_ => some k_ ≠ (.slice Ao11 t138.length co11 : Value).ownBlock) k_ from fun k_ hk => Kd.fresh' (Kd.N_lt m6_q) k_ hk) _ (nR_q _)) (bR_q _ _) (nR_q _) (by simp) ?_; (case hd => rfl); (case hg => rfl); (case hr => exact m18_q); (case hp => exact m52_q)
      intro v144 w56 ho57 hb hg_ hnew_
      clear hg_ hnew_
      (first | rw [← Ny143.out] at ho57 | (simp only [Int.reduceToNat] at ho57; rw [← Ny143.out] at ho57))
      replace HO_5 := Ae_q (Kd.N_elder' m6_q (Kd.N_base ho57) hb)
      replace HO150 := Ae_q (Kd.V_elder' m12_q (Kd.N_base ho57) hb)
      replace HO158 := Ae_q (Kd.V_elder' m13_q (Kd.N_base ho57) hb)
      have HO145 := Ae_q (Kd.N_lower ho57 (bZ_q (bel HB.out)))
      replace HB := Ae_q (bT_q (bel HB.out) hb)
      clear hb ho57
      refine hK.out _ _ trivial (fun hHeld => ?_)
      clear hK K
      refine nJ_q ?_
      refine one_ (i := 4) (N := some 49) #[true, true, true, true, true, true, true, true, true, false, false] rfl rfl (one_of HT_.out m7_q) (by decide) (fun K hK => ?_)
      refine Kd.N_append_rows_step k39 (w0 := w) w.heap.size (by rfl) (.tmp 45) (.tmp 48) 23 39 (.agg #[(.int .i64 0), (.slice none 0 0), (.int .i64 0), (.int .i64 0)]) 48 rfl Try.underlying23 info39 rfl (by decide) (by omega) v144 y143 y146 _ _ _ (fun _ => True) (fun k_ => ((fun _ => True)) k_ ∧ some k_ ≠ (v144 : Value).ownBlock) rfl rfl ?aO ?aR (fun _ hk => hk) ?aF ?aB ?aS ?aL ?_
      (case aR => exact m32_q)
      (case aB => exact m48_q)
      (case aF => exact m51_q)
      (case aO => exact m40_q)
      (case aS => exact m44_q)
      (case aL => have := LMc21.out; omega)
      intro v152 w58 ho hb hg hat
      rw [← Ny151.out] at ho
      replace HO_5 := Ae_q (Kd.N_afterv (ok := (fun _ => True)) m6_q hg hat)
      replace HO150 := Ae_q (Kd.V_afterv (ok := (fun _ => True)) m12_q hg hat)
      replace HO158 := Ae_q (Kd.V_afterv (ok := (fun _ => True)) m13_q hg hat)
      replace HB := Ae_q (hb)
      have HO153 := Ae_q (ho)
      clear HO145
      clear ho hb hg hat
      refine hK.out _ _ trivial (fun hHeld => ?_)
      clear hK K
      refine nJ_q ?_
      refine one_ (i := 9) (N := some 54) #[true, true, true, true, true, true, true, true, true, true, false] rfl rfl (one_of HT_.out m7_q) (by decide) (fun K hK => ?_)
      refine Kd.N_append_rows_step k39 (w0 := w) w.heap.size (by rfl) (.tmp 49) (.tmp 53) 23 39 (.agg #[(.int .i64 0), (.slice none 0 0), (.int .i64 0), (.int .i64 0)]) 48 rfl Try.underlying23 info39 rfl (by decide) (by omega) v152 y151 y154 _ _ _ (fun _ => True) (fun k_ => ((fun _ => True)) k_ ∧ some k_ ≠ (v152 : Value).ownBlock) rfl rfl ?aO ?aR (fun _ hk => hk) ?aF ?aB ?aS ?aL ?_
      (case aR => exact m33_q)
      (case aB => exact m48_q)
      (case aF => exact m51_q)
      (case aO => exact m42_q)
      (case aS => exact m44_q)
      (case aL => have := LMc25.out; omega)
      intro v160 w59 ho hb hg hat
      rw [← Ny159.out] at ho
      replace HO_5 := Ae_q (Kd.N_afterv (ok := (fun _ => True)) m6_q hg hat)
      replace HO150 := Ae_q (Kd.V_afterv (ok := (fun _ => True)) m12_q hg hat)
      replace HO158 := Ae_q (Kd.V_afterv (ok := (fun _ => True)) m13_q hg hat)
      replace HB := Ae_q (hb)
      have HO161 := Ae_q (ho)
      clear HO153
      clear ho hb hg hat
      refine hK.out _ _ trivial (fun hHeld => ?_)
      clear hK K
      refine nJ_q ?_
      refine pJ HT_ 10 9 rfl rfl ?_
      refine done_ (done_of HT_.out m7_q) ?_
      try go_wp2
      replace HO_5 := Ae_q (Kd.N_drew HO_5.out)
      replace HO150 := Ae_q (Kd.V_drew HO150.out)
      replace HO158 := Ae_q (Kd.V_drew HO158.out)
      replace HO161 := Ae_q (Kd.N_drew HO161.out)
      replace HB := Ae_q (bD_q HB.out)
      have q61 : ((ji22) : Int) ≤ ((t138.length : Int) : Int) := oD_q (by assumption)
      obtain ⟨i061, hi061, _, hsz61, _⟩ := info_parts info39
      have hroom61 : t138.length ≤ co11 := (Kd.N_reads' HO_5.out).2.1
      have hC61 : Kd.F k39 _ _ Ao11 t138.length t138 := (Kd.V_at (base := w.heap.size) (Kd.N_V HO_5.out)).2.2
      have hcut61 := cut_to (P := Try.prog) 23 39 .i64 Try.underlying23 hi061 Ao11 t138.length co11 (ji22) (oD_q (by assumption)) q61 hroom61
      have hr61 := Kd.F_take (m := ((ji22) : Int).toNat) hC61 (by omega)
      have hy61 : y165.length = ((ji22) : Int).toNat := (by rw [Ny165.out, lT_q]; omega)
      rw [← Ny165.out] at hr61
      rw [← hy61] at hcut61
      have HO169 := Ae_q (show Kd.V k39 39 _ w.heap.size _ (.slice Ao11 y165.length co11) y165 from Kd.V_mk (by omega) hr61)
      have HC169 := Ae_q (show y165.length ≤ co11 from by omega)
      clear hr61 hC61 hroom61 hi061 hsz61
      have KY61 := Ae_q hy61
      clear hy61
      replace q61 := eq_true q61
      have q62 : ((ji18) : Int) ≤ ((t138.length : Int) : Int) := oD_q (by assumption)
      obtain ⟨i062, hi062, _, hsz62, _⟩ := info_parts info39
      have hroom62 : t138.length ≤ co11 := (Kd.N_reads' HO_5.out).2.1
      have hC62 : Kd.F k39 _ _ Ao11 t138.length t138 := (Kd.V_at (base := w.heap.size) (Kd.N_V HO_5.out)).2.2
      have q062 : (0 : Int) ≤ ((ji18) : Int) := oD_q (by assumption)
      have hcut62 := cut_from (P := Try.prog) 23 39 .i64 Try.underlying23 hi062 4 hsz62 Ao11 t138.length co11 (ji18) q062 q62
      have hr62 := Kd.F_cut (m := ((ji18) : Int).toNat) (c := co11) hC62 (by omega) hroom62
      obtain ⟨A62, hA62⟩ : ∃ A1, A1 = (if co11 = ((ji18) : Int).toNat then Ao11 else (Ao11 : Option Addr).map (·.add (((ji18) : Int).toNat * 4))) := ⟨_, rfl⟩
      obtain ⟨c62, hc62⟩ : ∃ c1, c1 = co11 - ((ji18) : Int).toNat := ⟨_, rfl⟩
      have hy62 : y173.length = t138.length - ((ji18) : Int).toNat := (by rw [Ny173.out, lD_q] <;> omega)
      rw [show (t138).drop ((ji18) : Int).toNat = y173 from Ny173.out.symm] at hr62
      replace hr62 : Kd.F k39 _ _ A62 y173.length y173 := (by rw [hA62]; exact hr62)
      rw [← hy62, ← hA62, ← hc62] at hcut62
      have HO177 := Ae_q (show Kd.V k39 39 _ w.heap.size _ (.slice A62 y173.length c62) y173 from Kd.V_mk (by rw [hy62, hc62]; exact Nat.sub_le_sub_right hroom62 _) hr62)
      have HC177 := Ae_q (show y173.length ≤ c62 from by rw [hy62, hc62]; exact Nat.sub_le_sub_right hroom62 _)
      clear hr62 hC62 hroom62 hi062 hsz62 hc62
      have KY62 := Ae_q hy62
      have KA62 := Ae_q hA62
      clear hy62 hA62
      replace q62 := eq_true q62
      refine start_ (n := 11) (S := fun w' => True) (ds := []) #[false, false, false, false, false, false, false, false, false, false, false] m7_q rfl rfl trivial (fun hHeld => ?_); refine with_tabW laws_FnBatchesPart.tab10 laws_FnBatchesPart.bits10 (fun HT_ HW_ => ?_)
      generalize w59.drew = w60 at HO_5 HO150 HO158 HO161 HB HO169 HO177 hHeld ⊢
      refine pJ HT_ 1 56 rfl rfl ?_
      refine pJ HT_ 2 57 rfl rfl ?_
      refine pJ HT_ 3 58 rfl rfl ?_
      refine pJ HT_ 4 59 rfl rfl ?_
      refine pJ HT_ 6 61 rfl rfl ?_
      refine pJ HT_ 7 62 rfl rfl ?_
      refine pJ HT_ 8 63 rfl rfl ?_
      refine one_ (i := 0) (N := some 55) #[true, true, true, true, true, false, true, true, true, false, false] rfl rfl (one_of HT_.out m7_q) (by decide) (fun K hK => ?_)
      refine Kd.N_lit_step k39 _ 39 ?hg (N' := 55) ?hd (xs := ([] : List (S39))) (inner := []) (ok := (fun k_ => some k_ ≠ (.slice Ao11 t138.length co11 : Value).ownBlock ∧ some k_ ≠ (v160 : Value).ownBlock)) (okp := (fun k_ => some k_ ≠ (.slice Ao11 t138.length co11 : Value).ownBlock ∧ some k_ ≠ (v160 : Value).ownBlock)) ?hr ?hp (fun _ hk => hk) ((show ∀ k_, w60.heap.size ≤ k_ → (fun k_ => some k_ ≠ (.slice Ao11 t138.length co11 : Value).ownBlock ∧ some k_ ≠ (v160 : Value).ownBlock) k_ from fun k_ hk => ⟨Kd.fresh' (Kd.N_lt m6_q) k_ hk, Kd.fresh' (Kd.N_lt m9_q) k_ hk⟩) _ (nR_q _)) (bR_q _ _) (nR_q _) (by simp) ?_; (case hd => rfl); (case hg => rfl); (case hr => exact m18_q); (case hp => exact m52_q)
      intro v163 w63 ho64 hb hg_ hnew_
      clear hg_ hnew_
      (first | rw [← Ny162.out] at ho64 | (simp only [Int.reduceToNat] at ho64; rw [← Ny162.out] at ho64))
      replace HO_5 := Ae_q (Kd.N_elder' m6_q (Kd.N_base ho64) hb)
      replace HO150 := Ae_q (Kd.V_elder' m12_q (Kd.N_base ho64) hb)
      replace HO158 := Ae_q (Kd.V_elder' m13_q (Kd.N_base ho64) hb)
      replace HO161 := Ae_q (Kd.N_elder' m9_q (Kd.N_base ho64) hb)
      replace HO169 := Ae_q (Kd.V_elder' m19_q (Kd.N_base ho64) hb)
      replace HO177 := Ae_q (Kd.V_elder' m20_q (Kd.N_base ho64) hb)
      have HO164 := Ae_q (Kd.N_lower ho64 (bZ_q (bel HB.out)))
      replace HB := Ae_q (bT_q (bel HB.out) hb)
      clear hb ho64
      refine hK.out _ _ trivial (fun hHeld => ?_)
      clear hK K
      refine nJ_q ?_
      refine one_ (i := 5) (N := some 60) #[true, true, true, true, true, true, true, true, true, false, false] rfl rfl (one_of HT_.out m7_q) (by decide) (fun K hK => ?_)
      refine Kd.N_append_rows_step k39 (w0 := w) w.heap.size (by rfl) (.tmp 55) (.tmp 59) 23 39 (.agg #[(.int .i64 0), (.slice none 0 0), (.int .i64 0), (.int .i64 0)]) 48 rfl Try.underlying23 info39 rfl (by decide) (by omega) v163 y162 y165 _ _ _ (fun k_ => some k_ ≠ (v160 : Value).ownBlock) (fun k_ => ((fun k_ => some k_ ≠ (v160 : Value).ownBlock)) k_ ∧ some k_ ≠ (v163 : Value).ownBlock) rfl rfl ?aO ?aR (fun _ hk => hk) ?aF ?aB ?aS ?aL ?_
      (case aR => exact m26_q)
      (case aB => exact m48_q)
      (case aF => exact m55_q)
      (case aO => exact m41_q)
      (case aS => exact m44_q)
      (case aL => have := LMc28.out; omega)
      intro v171 w65 ho hb hg hat
      rw [← Ny170.out] at ho
      replace HO_5 := Ae_q (Kd.N_afterv (ok := (fun k_ => some k_ ≠ (v160 : Value).ownBlock)) m39_q hg hat)
      replace HO150 := Ae_q (Kd.V_afterv (ok := (fun k_ => some k_ ≠ (v160 : Value).ownBlock)) m35_q hg hat)
      replace HO158 := Ae_q (Kd.V_afterv (ok := (fun k_ => some k_ ≠ (v160 : Value).ownBlock)) m36_q hg hat)
      replace HO161 := Ae_q (Kd.N_afterv (ok := (fun _ => True)) m9_q hg hat)
      replace HO169 := Ae_q (Kd.V_afterv (ok := (fun k_ => some k_ ≠ (v160 : Value).ownBlock)) m37_q hg hat)
      replace HO177 := Ae_q (Kd.V_afterv (ok := (fun k_ => some k_ ≠ (v160 : Value).ownBlock)) m38_q hg hat)
      replace HB := Ae_q (hb)
      have HO172 := Ae_q (ho)
      clear HO164
      clear ho hb hg hat
      refine hK.out _ _ trivial (fun hHeld => ?_)
      clear hK K
      refine nJ_q ?_
      refine one_ (i := 9) (N := some 64) #[true, true, true, true, true, true, true, true, true, true, false] rfl rfl (one_of HT_.out m7_q) (by decide) (fun K hK => ?_)
      refine Kd.N_append_rows_step k39 (w0 := w) w.heap.size (by rfl) (.tmp 60) (.tmp 63) 23 39 (.agg #[(.int .i64 0), (.slice none 0 0), (.int .i64 0), (.int .i64 0)]) 48 rfl Try.underlying23 info39 rfl (by decide) (by omega) v171 y170 y173 _ _ _ (fun k_ => some k_ ≠ (v160 : Value).ownBlock) (fun k_ => ((fun k_ => some k_ ≠ (v160 : Value).ownBlock)) k_ ∧ some k_ ≠ (v171 : Value).ownBlock) rfl rfl ?aO ?aR (fun _ hk => hk) ?aF ?aB ?aS ?aL ?_
      (case aR => exact m27_q)
      (case aB => exact m48_q)
      (case aF => exact m55_q)
      (case aO => exact m43_q)
      (case aS => exact m44_q)
      (case aL => have := LMc31.out; omega)
      intro v179 w66 ho hb hg hat
      rw [← Ny178.out] at ho
      replace HO_5 := Ae_q (Kd.N_afterv (ok := (fun k_ => some k_ ≠ (v160 : Value).ownBlock)) m6_q hg hat)
      replace HO150 := Ae_q (Kd.V_afterv (ok := (fun k_ => some k_ ≠ (v160 : Value).ownBlock)) m12_q hg hat)
      replace HO158 := Ae_q (Kd.V_afterv (ok := (fun k_ => some k_ ≠ (v160 : Value).ownBlock)) m13_q hg hat)
      replace HO161 := Ae_q (Kd.N_afterv (ok := (fun _ => True)) m9_q hg hat)
      replace HO169 := Ae_q (Kd.V_afterv (ok := (fun k_ => some k_ ≠ (v160 : Value).ownBlock)) m19_q hg hat)
      replace HO177 := Ae_q (Kd.V_afterv (ok := (fun k_ => some k_ ≠ (v160 : Value).ownBlock)) m20_q hg hat)
      replace HB := Ae_q (hb)
      have HO180 := Ae_q (ho)
      clear HO172
      clear ho hb hg hat
      refine hK.out _ _ trivial (fun hHeld => ?_)
      clear hK K
      refine nJ_q ?_
      refine pJ HT_ 10 10 rfl rfl ?_
      refine done_ (done_of HT_.out m7_q) ?_
      obtain ⟨Ao67, co67, eo67⟩ := Kd.N_slice HO161.out
      subst eo67
      try go_wp2_with (first | ((with_reducible refine gC_q (f := 15) rfl ?_); refine gL_q (some 66) rfl rfl Try.func15 m7_q rfl #[.slice Ao67 y159.length co67] rfl m1_q ?_; (with_reducible refine (impl_BatchesValid.calls kj8 _ _ y159 false _ ?side1 ?side2 A32.out).mono ?_); (case side1 => exact m29_q); (case side2 => exact (Kd.N_reads' HO161.out).2.1); rintro e w' ⟨rfl, hb⟩; refine ⟨_, rfl, ?_⟩; replace HO_5 := Ae_q (Kd.N_below m6_q hb); replace HO150 := Ae_q (Kd.V_below m12_q hb); replace HO158 := Ae_q (Kd.V_below m13_q hb); replace HO161 := Ae_q (Kd.N_below m9_q hb); replace HO169 := Ae_q (Kd.V_below m19_q hb); replace HO177 := Ae_q (Kd.V_below m20_q hb); replace HO180 := Ae_q (Kd.N_below m30_q hb); replace HB := Ae_q (bT_q (bel HB.out) hb); (try clear hb); (try clear hb2); (try clear hk); (try clear hi)))
      go_ret
      exact ⟨m34_q, bel HB.out⟩
     subst c33
     have H1 : ((impl_BatchesValid.f kj8 y178).bind fun t182 => (some (!t182))) = some r := by rw [if_pos rfl] at H; exact H
     clear H
     have H := H1
     clear H1
     replace H := oB_q.mp H
     obtain ⟨t182, A340, H⟩ := H
     replace H : (some (!t182)) = some r := H
     have A34 := Ae_q A340
     clear A340
     obtain rfl := oI_q H
     try go_wp2
     replace HO_5 := Ae_q (Kd.N_drew HO_5.out)
     replace HB := Ae_q (bD_q HB.out)
     have q36 : ((ji18) : Int) ≤ ((t138.length : Int) : Int) := oD_q (by assumption)
     obtain ⟨i036, hi036, _, hsz36, _⟩ := info_parts info39
     have hroom36 : t138.length ≤ co11 := (Kd.N_reads' HO_5.out).2.1
     have hC36 : Kd.F k39 _ _ Ao11 t138.length t138 := (Kd.V_at (base := w.heap.size) (Kd.N_V HO_5.out)).2.2
     have hcut36 := cut_to (P := Try.prog) 23 39 .i64 Try.underlying23 hi036 Ao11 t138.length co11 (ji18) (oD_q (by assumption)) q36 hroom36
     have hr36 := Kd.F_take (m := ((ji18) : Int).toNat) hC36 (by omega)
     have hy36 : y146.length = ((ji18) : Int).toNat := (by rw [Ny146.out, lT_q]; omega)
     rw [← Ny146.out] at hr36
     rw [← hy36] at hcut36
     have HO150 := Ae_q (show Kd.V k39 39 _ w.heap.size _ (.slice Ao11 y146.length co11) y146 from Kd.V_mk (by omega) hr36)
     have HC150 := Ae_q (show y146.length ≤ co11 from by omega)
     clear hr36 hC36 hroom36 hi036 hsz36
     have KY36 := Ae_q hy36
     clear hy36
     replace q36 := eq_true q36
     have q37 : ((ji22) : Int) ≤ ((t138.length : Int) : Int) := oD_q (by assumption)
     obtain ⟨i037, hi037, _, hsz37, _⟩ := info_parts info39
     have hroom37 : t138.length ≤ co11 := (Kd.N_reads' HO_5.out).2.1
     have hC37 : Kd.F k39 _ _ Ao11 t138.length t138 := (Kd.V_at (base := w.heap.size) (Kd.N_V HO_5.out)).2.2
     have q037 : (0 : Int) ≤ ((ji22) : Int) := oD_q (by assumption)
     have hcut37 := cut_from (P := Try.prog) 23 39 .i64 Try.underlying23 hi037 4 hsz37 Ao11 t138.length co11 (ji22) q037 q37
     have hr37 := Kd.F_cut (m := ((ji22) : Int).toNat) (c := co11) hC37 (by omega) hroom37
     obtain ⟨A37, hA37⟩ : ∃ A1, A1 = (if co11 = ((ji22) : Int).toNat then Ao11 else (Ao11 : Option Addr).map (·.add (((ji22) : Int).toNat * 4))) := ⟨_, rfl⟩
     obtain ⟨c37, hc37⟩ : ∃ c1, c1 = co11 - ((ji22) : Int).toNat := ⟨_, rfl⟩
     have hy37 : y154.length = t138.length - ((ji22) : Int).toNat := (by rw [Ny154.out, lD_q] <;> omega)
     rw [show (t138).drop ((ji22) : Int).toNat = y154 from Ny154.out.symm] at hr37
     replace hr37 : Kd.F k39 _ _ A37 y154.length y154 := (by rw [hA37]; exact hr37)
     rw [← hy37, ← hA37, ← hc37] at hcut37
     have HO158 := Ae_q (show Kd.V k39 39 _ w.heap.size _ (.slice A37 y154.length c37) y154 from Kd.V_mk (by rw [hy37, hc37]; exact Nat.sub_le_sub_right hroom37 _) hr37)
     have HC158 := Ae_q (show y154.length ≤ c37 from by rw [hy37, hc37]; exact Nat.sub_le_sub_right hroom37 _)
     clear hr37 hC37 hroom37 hi037 hsz37 hc37
     have KY37 := Ae_q hy37
     have KA37 := Ae_q hA37
     clear hy37 hA37
     replace q37 := eq_true q37
     refine start_ (n := 11) (S := fun w' => True) (ds := []) #[false, false, false, false, false, false, false, false, false, false, false] m7_q rfl rfl trivial (fun hHeld => ?_); refine with_tabW laws_FnBatchesPart.tab9 laws_FnBatchesPart.bits9 (fun HT_ HW_ => ?_)
     generalize wc.drew = w35 at HO_5 HB HO150 HO158 hHeld ⊢
     refine pJ HT_ 1 46 rfl rfl ?_
     refine pJ HT_ 2 47 rfl rfl ?_
     refine pJ HT_ 3 48 rfl rfl ?_
     refine pJ HT_ 5 50 rfl rfl ?_
     refine pJ HT_ 6 51 rfl rfl ?_
     refine pJ HT_ 7 52 rfl rfl ?_
     refine pJ HT_ 8 53 rfl rfl ?_
     refine one_ (i := 0) (N := some 45) #[true, true, true, true, false, true, true, true, true, false, false] rfl rfl (one_of HT_.out m7_q) (by decide) (fun K hK => ?_)
     refine Kd.N_lit_step k39 _ 39 ?hg (N' := 45) ?hd (xs := ([] : List (S39))) (inner := []) (ok := (fun k_ => some k_ ≠ (.slice Ao11 t138.length co11 : Value).ownBlock)) (okp := (fun k_ => some k_ ≠ (.slice Ao11 t138.length co11 : Value).ownBlock)) ?hr ?hp (fun _ hk => hk) ((show ∀ k_, w35.heap.size ≤ k_ → (fun k_ => some k_ ≠ (.slice Ao11 t138.length co11 : Value).ownBlock) k_ from fun k_ hk => Kd.fresh' (Kd.N_lt m6_q) k_ hk) _ (nR_q _)) (bR_q _ _) (nR_q _) (by simp) ?_; (case hd => rfl); (case hg => rfl); (case hr => exact m18_q); (case hp => exact m52_q)
     intro v144 w38 ho39 hb hg_ hnew_
     clear hg_ hnew_
     (first | rw [← Ny143.out] at ho39 | (simp only [Int.reduceToNat] at ho39; rw [← Ny143.out] at ho39))
     replace HO_5 := Ae_q (Kd.N_elder' m6_q (Kd.N_base ho39) hb)
     replace HO150 := Ae_q (Kd.V_elder' m12_q (Kd.N_base ho39) hb)
     replace HO158 := Ae_q (Kd.V_elder' m13_q (Kd.N_base ho39) hb)
     have HO145 := Ae_q (Kd.N_lower ho39 (bZ_q (bel HB.out)))
     replace HB := Ae_q (bT_q (bel HB.out) hb)
     clear hb ho39
     refine hK.out _ _ trivial (fun hHeld => ?_)
     clear hK K
     refine nJ_q ?_
     refine one_ (i := 4) (N := some 49) #[true, true, true, true, true, true, true, true, true, false, false] rfl rfl (one_of HT_.out m7_q) (by decide) (fun K hK => ?_)
     refine Kd.N_append_rows_step k39 (w0 := w) w.heap.size (by rfl) (.tmp 45) (.tmp 48) 23 39 (.agg #[(.int .i64 0), (.slice none 0 0), (.int .i64 0), (.int .i64 0)]) 48 rfl Try.underlying23 info39 rfl (by decide) (by omega) v144 y143 y146 _ _ _ (fun _ => True) (fun k_ => ((fun _ => True)) k_ ∧ some k_ ≠ (v144 : Value).ownBlock) rfl rfl ?aO ?aR (fun _ hk => hk) ?aF ?aB ?aS ?aL ?_
     (case aR => exact m32_q)
     (case aB => exact m48_q)
     (case aF => exact m51_q)
     (case aO => exact m40_q)
     (case aS => exact m44_q)
     (case aL => have := LMc21.out; omega)
     intro v152 w40 ho hb hg hat
     rw [← Ny151.out] at ho
     replace HO_5 := Ae_q (Kd.N_afterv (ok := (fun _ => True)) m6_q hg hat)
     replace HO150 := Ae_q (Kd.V_afterv (ok := (fun _ => True)) m12_q hg hat)
     replace HO158 := Ae_q (Kd.V_afterv (ok := (fun _ => True)) m13_q hg hat)
     replace HB := Ae_q (hb)
     have HO153 := Ae_q (ho)
     clear HO145
     clear ho hb hg hat
     refine hK.out _ _ trivial (fun hHeld => ?_)
     clear hK K
     refine nJ_q ?_
     refine one_ (i := 9) (N := some 54) #[true, true, true, true, true, true, true, true, true, true, false] rfl rfl (one_of HT_.out m7_q) (by decide) (fun K hK => ?_)
     refine Kd.N_append_rows_step k39 (w0 := w) w.heap.size (by rfl) (.tmp 49) (.tmp 53) 23 39 (.agg #[(.int .i64 0), (.slice none 0 0), (.int .i64 0), (.int .i64 0)]) 48 rfl Try.underlying23 info39 rfl (by decide) (by omega) v152 y151 y154 _ _ _ (fun _ => True) (fun k_ => ((fun _ => True)) k_ ∧ some k_ ≠ (v152 : Value).ownBlock) rfl rfl ?aO ?aR (fun _ hk => hk) ?aF ?aB ?aS ?aL ?_
     (case aR => exact m33_q)
     (case aB => exact m48_q)
     (case aF => exact m51_q)
     (case aO => exact m42_q)
     (case aS => exact m44_q)
     (case aL => have := LMc25.out; omega)
     intro v160 w41 ho hb hg hat
     rw [← Ny159.out] at ho
     replace HO_5 := Ae_q (Kd.N_afterv (ok := (fun _ => True)) m6_q hg hat)
     replace HO150 := Ae_q (Kd.V_afterv (ok := (fun _ => True)) m12_q hg hat)
     replace HO158 := Ae_q (Kd.V_afterv (ok := (fun _ => True)) m13_q hg hat)
     replace HB := Ae_q (hb)
     have HO161 := Ae_q (ho)
     clear HO153
     clear ho hb hg hat
     refine hK.out _ _ trivial (fun hHeld => ?_)
     clear hK K
     refine nJ_q ?_
     refine pJ HT_ 10 9 rfl rfl ?_
     refine done_ (done_of HT_.out m7_q) ?_
     try go_wp2
     replace HO_5 := Ae_q (Kd.N_drew HO_5.out)
     replace HO150 := Ae_q (Kd.V_drew HO150.out)
     replace HO158 := Ae_q (Kd.V_drew HO158.out)
     replace HO161 := Ae_q (Kd.N_drew HO161.out)
     replace HB := Ae_q (bD_q HB.out)
     have q43 : ((ji22) : Int) ≤ ((t138.length : Int) : Int) := oD_q (by assumption)
     obtain ⟨i043, hi043, _, hsz43, _⟩ := info_parts info39
     have hroom43 : t138.length ≤ co11 := (Kd.N_reads' HO_5.out).2.1
     have hC43 : Kd.F k39 _ _ Ao11 t138.length t138 := (Kd.V_at (base := w.heap.size) (Kd.N_V HO_5.out)).2.2
     have hcut43 := cut_to (P := Try.prog) 23 39 .i64 Try.underlying23 hi043 Ao11 t138.length co11 (ji22) (oD_q (by assumption)) q43 hroom43
     have hr43 := Kd.F_take (m := ((ji22) : Int).toNat) hC43 (by omega)
     have hy43 : y165.length = ((ji22) : Int).toNat := (by rw [Ny165.out, lT_q]; omega)
     rw [← Ny165.out] at hr43
     rw [← hy43] at hcut43
     have HO169 := Ae_q (show Kd.V k39 39 _ w.heap.size _ (.slice Ao11 y165.length co11) y165 from Kd.V_mk (by omega) hr43)
     have HC169 := Ae_q (show y165.length ≤ co11 from by omega)
     clear hr43 hC43 hroom43 hi043 hsz43
     have KY43 := Ae_q hy43
     clear hy43
     replace q43 := eq_true q43
     have q44 : ((ji18) : Int) ≤ ((t138.length : Int) : Int) := oD_q (by assumption)
     obtain ⟨i044, hi044, _, hsz44, _⟩ := info_parts info39
     have hroom44 : t138.length ≤ co11 := (Kd.N_reads' HO_5.out).2.1
     have hC44 : Kd.F k39 _ _ Ao11 t138.length t138 := (Kd.V_at (base := w.heap.size) (Kd.N_V HO_5.out)).2.2
     have q044 : (0 : Int) ≤ ((ji18) : Int) := oD_q (by assumption)
     have hcut44 := cut_from (P := Try.prog) 23 39 .i64 Try.underlying23 hi044 4 hsz44 Ao11 t138.length co11 (ji18) q044 q44
     have hr44 := Kd.F_cut (m := ((ji18) : Int).toNat) (c := co11) hC44 (by omega) hroom44
     obtain ⟨A44, hA44⟩ : ∃ A1, A1 = (if co11 = ((ji18) : Int).toNat then Ao11 else (Ao11 : Option Addr).map (·.add (((ji18) : Int).toNat * 4))) := ⟨_, rfl⟩
     obtain ⟨c44, hc44⟩ : ∃ c1, c1 = co11 - ((ji18) : Int).toNat := ⟨_, rfl⟩
     have hy44 : y173.length = t138.length - ((ji18) : Int).toNat := (by rw [Ny173.out, lD_q] <;> omega)
     rw [show (t138).drop ((ji18) : Int).toNat = y173 from Ny173.out.symm] at hr44
     replace hr44 : Kd.F k39 _ _ A44 y173.length y173 := (by rw [hA44]; exact hr44)
     rw [← hy44, ← hA44, ← hc44] at hcut44
     have HO177 := Ae_q (show Kd.V k39 39 _ w.heap.size _ (.slice A44 y173.length c44) y173 from Kd.V_mk (by rw [hy44, hc44]; exact Nat.sub_le_sub_right hroom44 _) hr44)
     have HC177 := Ae_q (show y173.length ≤ c44 from by rw [hy44, hc44]; exact Nat.sub_le_sub_right hroom44 _)
     clear hr44 hC44 hroom44 hi044 hsz44 hc44
     have KY44 := Ae_q hy44
     have KA44 := Ae_q hA44
     clear hy44 hA44
     replace q44 := eq_true q44
     refine start_ (n := 11) (S := fun w' => True) (ds := []) #[false, false, false, false, false, false, false, false, false, false, false] m7_q rfl rfl trivial (fun hHeld => ?_); refine with_tabW laws_FnBatchesPart.tab10 laws_FnBatchesPart.bits10 (fun HT_ HW_ => ?_)
     generalize w41.drew = w42 at HO_5 HO150 HO158 HO161 HB HO169 HO177 hHeld ⊢
     refine pJ HT_ 1 56 rfl rfl ?_
     refine pJ HT_ 2 57 rfl rfl ?_
     refine pJ HT_ 3 58 rfl rfl ?_
     refine pJ HT_ 4 59 rfl rfl ?_
     refine pJ HT_ 6 61 rfl rfl ?_
     refine pJ HT_ 7 62 rfl rfl ?_
     refine pJ HT_ 8 63 rfl rfl ?_
     refine one_ (i := 0) (N := some 55) #[true, true, true, true, true, false, true, true, true, false, false] rfl rfl (one_of HT_.out m7_q) (by decide) (fun K hK => ?_)
     refine Kd.N_lit_step k39 _ 39 ?hg (N' := 55) ?hd (xs := ([] : List (S39))) (inner := []) (ok := (fun k_ => some k_ ≠ (.slice Ao11 t138.length co11 : Value).ownBlock ∧ some k_ ≠ (v160 : Value).ownBlock)) (okp := (fun k_ => some k_ ≠ (.slice Ao11 t138.length co11 : Value).ownBlock ∧ some k_ ≠ (v160 : Value).ownBlock)) ?hr ?hp (fun _ hk => hk) ((show ∀ k_, w42.heap.size ≤ k_ → (fun k_ => some k_ ≠ (.slice Ao11 t138.length co11 : Value).ownBlock ∧ some k_ ≠ (v160 : Value).ownBlock) k_ from fun k_ hk => ⟨Kd.fresh' (Kd.N_lt m6_q) k_ hk, Kd.fresh' (Kd.N_lt m9_q) k_ hk⟩) _ (nR_q _)) (bR_q _ _) (nR_q _) (by simp) ?_; (case hd => rfl); (case hg => rfl); (case hr => exact m18_q); (case hp => exact m52_q)
     intro v163 w45 ho46 hb hg_ hnew_
     clear hg_ hnew_
     (first | rw [← Ny162.out] at ho46 | (simp only [Int.reduceToNat] at ho46; rw [← Ny162.out] at ho46))
     replace HO_5 := Ae_q (Kd.N_elder' m6_q (Kd.N_base ho46) hb)
     replace HO150 := Ae_q (Kd.V_elder' m12_q (Kd.N_base ho46) hb)
     replace HO158 := Ae_q (Kd.V_elder' m13_q (Kd.N_base ho46) hb)
     replace HO161 := Ae_q (Kd.N_elder' m9_q (Kd.N_base ho46) hb)
     replace HO169 := Ae_q (Kd.V_elder' m19_q (Kd.N_base ho46) hb)
     replace HO177 := Ae_q (Kd.V_elder' m20_q (Kd.N_base ho46) hb)
     have HO164 := Ae_q (Kd.N_lower ho46 (bZ_q (bel HB.out)))
     replace HB := Ae_q (bT_q (bel HB.out) hb)
     clear hb ho46
     refine hK.out _ _ trivial (fun hHeld => ?_)
     clear hK K
     refine nJ_q ?_
     refine one_ (i := 5) (N := some 60) #[true, true, true, true, true, true, true, true, true, false, false] rfl rfl (one_of HT_.out m7_q) (by decide) (fun K hK => ?_)
     refine Kd.N_append_rows_step k39 (w0 := w) w.heap.size (by rfl) (.tmp 55) (.tmp 59) 23 39 (.agg #[(.int .i64 0), (.slice none 0 0), (.int .i64 0), (.int .i64 0)]) 48 rfl Try.underlying23 info39 rfl (by decide) (by omega) v163 y162 y165 _ _ _ (fun k_ => some k_ ≠ (v160 : Value).ownBlock) (fun k_ => ((fun k_ => some k_ ≠ (v160 : Value).ownBlock)) k_ ∧ some k_ ≠ (v163 : Value).ownBlock) rfl rfl ?aO ?aR (fun _ hk => hk) ?aF ?aB ?aS ?aL ?_
     (case aR => exact m26_q)
     (case aB => exact m48_q)
     (case aF => exact m55_q)
     (case aO => exact m41_q)
     (case aS => exact m44_q)
     (case aL => have := LMc28.out; omega)
     intro v171 w47 ho hb hg hat
     rw [← Ny170.out] at ho
     replace HO_5 := Ae_q (Kd.N_afterv (ok := (fun k_ => some k_ ≠ (v160 : Value).ownBlock)) m39_q hg hat)
     replace HO150 := Ae_q (Kd.V_afterv (ok := (fun k_ => some k_ ≠ (v160 : Value).ownBlock)) m35_q hg hat)
     replace HO158 := Ae_q (Kd.V_afterv (ok := (fun k_ => some k_ ≠ (v160 : Value).ownBlock)) m36_q hg hat)
     replace HO161 := Ae_q (Kd.N_afterv (ok := (fun _ => True)) m9_q hg hat)
     replace HO169 := Ae_q (Kd.V_afterv (ok := (fun k_ => some k_ ≠ (v160 : Value).ownBlock)) m37_q hg hat)
     replace HO177 := Ae_q (Kd.V_afterv (ok := (fun k_ => some k_ ≠ (v160 : Value).ownBlock)) m38_q hg hat)
     replace HB := Ae_q (hb)
     have HO172 := Ae_q (ho)
     clear HO164
     clear ho hb hg hat
     refine hK.out _ _ trivial (fun hHeld => ?_)
     clear hK K
     refine nJ_q ?_
     refine one_ (i := 9) (N := some 64) #[true, true, true, true, true, true, true, true, true, true, false] rfl rfl (one_of HT_.out m7_q) (by decide) (fun K hK => ?_)
     refine Kd.N_append_rows_step k39 (w0 := w) w.heap.size (by rfl) (.tmp 60) (.tmp 63) 23 39 (.agg #[(.int .i64 0), (.slice none 0 0), (.int .i64 0), (.int .i64 0)]) 48 rfl Try.underlying23 info39 rfl (by decide) (by omega) v171 y170 y173 _ _ _ (fun k_ => some k_ ≠ (v160 : Value).ownBlock) (fun k_ => ((fun k_ => some k_ ≠ (v160 : Value).ownBlock)) k_ ∧ some k_ ≠ (v171 : Value).ownBlock) rfl rfl ?aO ?aR (fun _ hk => hk) ?aF ?aB ?aS ?aL ?_
     (case aR => exact m27_q)
     (case aB => exact m48_q)
     (case aF => exact m55_q)
     (case aO => exact m43_q)
     (case aS => exact m44_q)
     (case aL => have := LMc31.out; omega)
     intro v179 w48 ho hb hg hat
     rw [← Ny178.out] at ho
     replace HO_5 := Ae_q (Kd.N_afterv (ok := (fun k_ => some k_ ≠ (v160 : Value).ownBlock)) m6_q hg hat)
     replace HO150 := Ae_q (Kd.V_afterv (ok := (fun k_ => some k_ ≠ (v160 : Value).ownBlock)) m12_q hg hat)
     replace HO158 := Ae_q (Kd.V_afterv (ok := (fun k_ => some k_ ≠ (v160 : Value).ownBlock)) m13_q hg hat)
     replace HO161 := Ae_q (Kd.N_afterv (ok := (fun _ => True)) m9_q hg hat)
     replace HO169 := Ae_q (Kd.V_afterv (ok := (fun k_ => some k_ ≠ (v160 : Value).ownBlock)) m19_q hg hat)
     replace HO177 := Ae_q (Kd.V_afterv (ok := (fun k_ => some k_ ≠ (v160 : Value).ownBlock)) m20_q hg hat)
     replace HB := Ae_q (hb)
     have HO180 := Ae_q (ho)
     clear HO172
     clear ho hb hg hat
     refine hK.out _ _ trivial (fun hHeld => ?_)
     clear hK K
     refine nJ_q ?_
     refine pJ HT_ 10 10 rfl rfl ?_
     refine done_ (done_of HT_.out m7_q) ?_
     obtain ⟨Ao49, co49, eo49⟩ := Kd.N_slice HO161.out
     subst eo49
     try go_wp2_with (first | ((with_reducible refine gC_q (f := 15) rfl ?_); refine gL_q (some 66) rfl rfl Try.func15 m7_q rfl #[.slice Ao49 y159.length co49] rfl m1_q ?_; (with_reducible refine (impl_BatchesValid.calls kj8 _ _ y159 true _ ?side1 ?side2 A32.out).mono ?_); (case side1 => exact m29_q); (case side2 => exact (Kd.N_reads' HO161.out).2.1); rintro e w' ⟨rfl, hb⟩; refine ⟨_, rfl, ?_⟩; replace HO_5 := Ae_q (Kd.N_below m6_q hb); replace HO150 := Ae_q (Kd.V_below m12_q hb); replace HO158 := Ae_q (Kd.V_below m13_q hb); replace HO161 := Ae_q (Kd.N_below m9_q hb); replace HO169 := Ae_q (Kd.V_below m19_q hb); replace HO177 := Ae_q (Kd.V_below m20_q hb); replace HO180 := Ae_q (Kd.N_below m30_q hb); replace HB := Ae_q (bT_q (bel HB.out) hb); (try clear hb); (try clear hb2); (try clear hk); (try clear hi); obtain ⟨Ao51, co51, eo51⟩ := Kd.N_slice HO180.out; subst eo51) | (go_at_call 15; (with_reducible refine (impl_BatchesValid.calls kj8 _ _ y178 t182 _ ?side1 ?side2 A34.out).mono ?_); (case side1 => repeat (first | exact (Kd.N_reads' HO180.out).2.2 | (with_reducible refine cA_q ?_ _) | (with_reducible refine cN_q ?_ _) | (with_reducible refine cD_q ?_))); (case side2 => exact (Kd.N_reads' HO180.out).2.1); rintro e w' ⟨rfl, hb⟩; replace HO_5 := Ae_q (Kd.N_below m6_q hb); replace HO150 := Ae_q (Kd.V_below m12_q hb); replace HO158 := Ae_q (Kd.V_below m13_q hb); replace HO161 := Ae_q (Kd.N_below m9_q hb); replace HO169 := Ae_q (Kd.V_below m19_q hb); replace HO177 := Ae_q (Kd.V_below m20_q hb); replace HO180 := Ae_q (Kd.N_below m30_q hb); replace HB := Ae_q (bT_q (bel HB.out) hb); (try clear hb); (try clear hb2); (try clear hk); (try clear hi)))
     go_ret
     exact ⟨m34_q, bel HB.out⟩

def laws_FnBatchesPart.Pure : Prop := ∀ (l0 : List Int) (l1 : List Int), l0.length ≤ maxLen → l0.length * 1 ≤ 140737488351232 → (∀ x ∈ l0, (Lit.int .u8 x).wf = true) → l1.length ≤ maxLen → l1.length * 1 ≤ 140737488351232 → (∀ x ∈ l1, (Lit.int .u8 x).wf = true) → ∃ k, laws_FnBatchesPart.f k l0 l1 = some true
theorem laws_FnBatchesPart.walk (P : laws_FnBatchesPart.Pure) (a0 : Option Addr) (len0 cap0 : Nat) (z0 : List Int) (a1 : Option Addr) (len1 cap1 : Nat) (z1 : List Int) (w : World) (w0 : (a0 = none ∧ len0 = 0 ∧ cap0 = 0 ∧ z0 = []) ∨ ∃ x, a0 = some x ∧ len0 ≤ cap0 ∧ cap0 ≤ maxLen ∧ z0.length = cap0 ∧ (∀ i, i < z0.length → w.cell? (x.add i) = some (.int .u8 (z0.getD i 0))) ∧ ∀ n ∈ z0, (Lit.int .u8 n).wf = true) (y0 : len0 * 1 ≤ 140737488351232) (w1 : (a1 = none ∧ len1 = 0 ∧ cap1 = 0 ∧ z1 = []) ∨ ∃ x, a1 = some x ∧ len1 ≤ cap1 ∧ cap1 ≤ maxLen ∧ z1.length = cap1 ∧ (∀ i, i < z1.length → w.cell? (x.add i) = some (.int .u8 (z1.getD i 0))) ∧ ∀ n ∈ z1, (Lit.int .u8 n).wf = true) (y1 : len1 * 1 ≤ 140737488351232) :
    Calls Try.prog 3 #[.slice a0 len0 cap0, .slice a1 len1 cap1] w fun e w' => e = .returned (.bool true) ∧ Below w.heap.size w w' := by
 obtain ⟨l0, rfl, hr0, hm0, hw0, hc0⟩ := ReadsInt.ofRowC w0
 obtain ⟨l1, rfl, hr1, hm1, hw1, hc1⟩ := ReadsInt.ofRowC w1
 obtain ⟨k, h⟩ := P l0 l1 hm0 y0 hw0 hm1 y1 hw1
 refine (laws_FnBatchesPart.calls k _ _ l0 _ _ l1 true w (Kd.C_of_reads (d := (0 : Int)) (h1 := fun _ => rfl) hr0) hc0 (Kd.C_of_reads (d := (0 : Int)) (h1 := fun _ => rfl) hr1) hc1 h).mono ?_
 rintro e w' ⟨rfl, hd⟩
 exact ⟨rfl, hd⟩

end Go.Proofs.Ytnckblolijkdaaa.PBt
