import Derived.Test.YtbclhpibilbdbaaDoorVJPScx0
import Derived.Test.YtbclhpibilbdbaaDoorVJPScx17
import Derived.Test.YtbclhpibilbdbaaDoorVJPScx18
import Derived.Test.YtbclhpibilbdbaaDoorVJPScx19
import Derived.Test.YtbclhpibilbdbaaDoorVJPScx21
import Derived.Test.YtbclhpibilbdbaaDoorVJPScx22
namespace Go.Proofs.YtbclhpibilbdbaaDoor.PSc
open Go.RowKit Go.Proofs.YtbclhpibilbdbaaDoorW.PrintWords Go.Proofs.YtbclhpibilbdbaaDoorW.PrintLast Go.Proofs.YtbclhpibilbdbaaDoorW.PrintMore
attribute [local go_sem] max2_int min2_int max_two min_two max_three min_three max_four min_four
set_option linter.unusedVariables false
set_option linter.unusedSimpArgs false

mutual
def spec_l51Line.l0 : Nat → List (S49) → List ByteArray → List Int → Int → Option ((List (S49)) × ByteArray)
 | 0, _, _, _, _ => none
 | k + 1, x0, x6, x7, x8 => if x8 < (x6.length : Int) then (spec_l51Line.j1 k x0 x6 x7 x8 (decide (x8 < 4))) else (spec_l51Line.j1 k x0 x6 x7 x8 false)
def spec_l51Line.j1 : Nat → List (S49) → List ByteArray → List Int → Int → Bool → Option ((List (S49)) × ByteArray)
 | 0, _, _, _, _, _ => none
 | k + 1, x0, x6, x7, x8, x26 => if x26 = true then (if 0 ≤ x8 then (if x8 < (x6.length : Int) then ((spec_l1Number.f k (rdOf ByteArray.empty x6 x8)).bind fun t422 => (if x8 < (x7.length : Int) then ((some (x7.set (x8 : Int).toNat t422 : List Int)).bind fun y423 => (if (rd y423 x8) < 0 then (some (x0, (⟨#[119, 104, 97, 116, 10]⟩ : ByteArray))) else (spec_l51Line.l0 k x0 x6 y423 (wrap64 (x8 + 1))))) else (none))) else (none)) else (none)) else (if 0 < (x6.length : Int) then (if (rdOf ByteArray.empty x6 0).toList = ([112, 117, 116] : List UInt8) then (spec_l51Line.j2 k x0 x6 x7 ((x6.length : Int) == 4)) else (spec_l51Line.j2 k x0 x6 x7 false)) else (none))
def spec_l51Line.j2 : Nat → List (S49) → List ByteArray → List Int → Bool → Option ((List (S49)) × ByteArray)
 | 0, _, _, _, _ => none
 | k + 1, x0, x6, x7, x43 => if x43 = true then (if 1 < (x7.length : Int) then (if 2 < (x7.length : Int) then (if 3 < (x7.length : Int) then ((spec_StorePut.f k x0 (rd x7 1) (rd x7 2) (rd x7 3)).bind fun bt429 => (if bt429.2 = true then (some (bt429.1, (⟨#[111, 107, 10]⟩ : ByteArray))) else (some (x0, (⟨#[110, 111, 10]⟩ : ByteArray))))) else (none)) else (none)) else (none)) else (if 0 < (x6.length : Int) then (if (rdOf ByteArray.empty x6 0).toList = ([116, 97, 107, 101] : List UInt8) then (spec_l51Line.j3 k x0 x6 x7 ((x6.length : Int) == 4)) else (spec_l51Line.j3 k x0 x6 x7 false)) else (none))
def spec_l51Line.j3 : Nat → List (S49) → List ByteArray → List Int → Bool → Option ((List (S49)) × ByteArray)
 | 0, _, _, _, _ => none
 | k + 1, x0, x6, x7, x72 => if x72 = true then (if 1 < (x7.length : Int) then (if 2 < (x7.length : Int) then (if 3 < (x7.length : Int) then ((spec_StoreTake.f k x0 (rd x7 1) (rd x7 2) (rd x7 3)).bind fun bt437 => (if bt437.2.2 = true then ((spec_l51Lots.f k (⟨#[116, 111, 111, 107]⟩ : ByteArray) bt437.2.1).bind fun t444 => (some (bt437.1, t444))) else (some (x0, (⟨#[110, 111, 10]⟩ : ByteArray))))) else (none)) else (none)) else (none)) else (if 0 < (x6.length : Int) then (if (rdOf ByteArray.empty x6 0).toList = ([100, 114, 111, 112] : List UInt8) then (spec_l51Line.j4 k x0 x6 x7 ((x6.length : Int) == 2)) else (spec_l51Line.j4 k x0 x6 x7 false)) else (none))
def spec_l51Line.j4 : Nat → List (S49) → List ByteArray → List Int → Bool → Option ((List (S49)) × ByteArray)
 | 0, _, _, _, _ => none
 | k + 1, x0, x6, x7, x103 => if x103 = true then (if 1 < (x7.length : Int) then ((spec_StoreDrop.f k x0 (rd x7 1)).bind fun bt447 => ((spec_l51Lots.f k (⟨#[100, 114, 111, 112, 112, 101, 100]⟩ : ByteArray) bt447.2).bind fun t453 => (some (bt447.1, t453)))) else (none)) else (if 0 < (x6.length : Int) then (if (rdOf ByteArray.empty x6 0).toList = ([104, 97, 118, 101] : List UInt8) then (spec_l51Line.j5 k x0 x6 x7 ((x6.length : Int) == 3)) else (spec_l51Line.j5 k x0 x6 x7 false)) else (none))
def spec_l51Line.j5 : Nat → List (S49) → List ByteArray → List Int → Bool → Option ((List (S49)) × ByteArray)
 | 0, _, _, _, _ => none
 | k + 1, x0, x6, x7, x124 => if x124 = true then (if 1 < (x7.length : Int) then (if 2 < (x7.length : Int) then ((spec_StoreHas.f k x0 (rd x7 1) (rd x7 2)).bind fun t457 => ((spec_l6Dec.f k t457).bind fun t458 => (if 5 + t458.size ≤ 9223372036854775807 then (if ((⟨#[104, 97, 118, 101, 32]⟩ : ByteArray) ++ t458).size + 1 ≤ 9223372036854775807 then (some (x0, ((⟨#[104, 97, 118, 101, 32]⟩ : ByteArray) ++ t458) ++ (⟨#[10]⟩ : ByteArray))) else (none)) else (none)))) else (none)) else (none)) else (if 0 < (x6.length : Int) then (if (rdOf ByteArray.empty x6 0).toList = ([115, 104, 111, 119] : List UInt8) then (if (x6.length : Int) = 1 then ((spec_l51Lots.f k (⟨#[108, 111, 116, 115]⟩ : ByteArray) x0).bind fun t460 => (some (x0, t460))) else (some (x0, (⟨#[119, 104, 97, 116, 10]⟩ : ByteArray)))) else (some (x0, (⟨#[119, 104, 97, 116, 10]⟩ : ByteArray)))) else (none))
end
def spec_l51Line.f (k : Nat) (l0 : List (S49)) (a1 : ByteArray) : Option ((List (S49)) × ByteArray) := (spec_l51Cut.f k a1).bind fun t415 => (spec_l51Line.l0 k l0 t415 (([0, 0, 0, 0] : List Int)) 1)
def spec_l51Line.T10 : Bool × List (List Nat × List Nat) := (true, [([], []), ([], []), ([1], [1]), ([2], [2]), ([], []), ([4], [4]), ([5], [5]), ([], []), ([7], [7]), ([8], [8]), ([3, 6, 9], [3, 6, 9]), ([0, 10], [0, 10]), ([11], [11]), ([12], [12]), ([12], [12]), ([13, 11, 0, 1, 2, 3, 4, 5, 6, 7, 8, 9, 10, 11, 12, 13], [13]), ([14, 15, 0, 1, 2, 3, 4, 5, 6, 7, 8, 9, 10, 11, 12, 13, 14, 15], [14])])
def spec_l51Line.B10 : List Nat := [0, 0, 2, 6, 0, 16, 48, 0, 128, 384, 1022, 2047, 4095, 8191, 8191, 16383, 65535]
theorem spec_l51Line.tab10 : rtab .any (opsOf Tryd.f24 10) = spec_l51Line.T10 := by kernel_rfl
theorem spec_l51Line.bits10 : waitsOk spec_l51Line.T10.2 spec_l51Line.B10 = true := by kernel_rfl
def spec_l51Line.T15 : Bool × List (List Nat × List Nat) := (true, [([], []), ([], []), ([1], [1]), ([2], [2]), ([], []), ([4], [4]), ([5], [5]), ([], []), ([7], [7]), ([8], [8]), ([0, 3, 6, 9], [0, 3, 6, 9]), ([10], [10]), ([11], [11]), ([11], [11]), ([11], [11]), ([12, 10, 0, 1, 2, 3, 4, 5, 6, 7, 8, 9, 10, 11, 12], [12]), ([13, 15, 0, 1, 2, 3, 4, 5, 6, 7, 8, 9, 10, 11, 12, 13, 15], [13]), ([14, 16, 0, 1, 2, 3, 4, 5, 6, 7, 8, 9, 10, 11, 12, 13, 14, 15, 16], [14])])
def spec_l51Line.B15 : List Nat := [0, 0, 2, 6, 0, 16, 48, 0, 128, 384, 1023, 2047, 4095, 4095, 4095, 8191, 49151, 131071]
theorem spec_l51Line.tab15 : rtab .any (opsOf Tryd.f24 15) = spec_l51Line.T15 := by kernel_rfl
theorem spec_l51Line.bits15 : waitsOk spec_l51Line.T15.2 spec_l51Line.B15 = true := by kernel_rfl
def spec_l51Line.T23 : Bool × List (List Nat × List Nat) := (true, [([], []), ([], []), ([], []), ([2], [2]), ([3], [3]), ([], []), ([5], [5]), ([6], [6]), ([1, 4, 7], [1, 4, 7]), ([8, 8], [8]), ([9], [9]), ([10], [10]), ([0, 9, 0], [0]), ([11, 12, 0, 1, 2, 3, 4, 5, 6, 7, 8, 9, 10, 11, 12], [11])])
def spec_l51Line.B23 : List Nat := [0, 0, 0, 4, 12, 0, 32, 96, 254, 510, 1022, 2046, 1023, 8191]
theorem spec_l51Line.tab23 : rtab .any (opsOf Tryd.f24 23) = spec_l51Line.T23 := by kernel_rfl
theorem spec_l51Line.bits23 : waitsOk spec_l51Line.T23.2 spec_l51Line.B23 = true := by kernel_rfl
set_option maxHeartbeats 8000000 in
set_option maxRecDepth 100000 in
theorem spec_l51Line.calls (k : Nat) (P0_ : Nat → Prop) (u9000_ : Value) (l0 : List (S49)) (a1 : ByteArray) (r1 : List (S49)) (r2 : ByteArray) (w0 w : World) (hB : Below w0.heap.size w0 w) (ho0 : Kd.R k49 49 w w0.heap.size P0_ u9000_ l0) (h : spec_l51Line.f k l0 a1 = some (r1, r2)) :
    Calls Tryd.prog 24 #[u9000_, .string a1] w fun e w' => ∃ v0_ : Value, e = .returned (.tuple #[v0_, .string r2]) ∧ Kd.R k49 49 w' w0.heap.size (fun k_ => (P0_ k_ ∨ w.heap.size ≤ k_)) v0_ r1 ∧ Below w0.heap.size w0 w' ∧ Kept w w' (fun k_ => P0_ k_) := by
 have hu49 := Tryd.underlying49
 have HO0 := Ae_q (show Kd.R k49 49 w w0.heap.size (fun k_ => (P0_ k_ ∨ w.heap.size ≤ k_)) u9000_ l0 from rM_q ho0 (fun k_ hk => (.inl hk)))
 have HK := Ae_q (Kept.refl w (fun k_ => P0_ k_))
 have HW0 := Ae_q hB.size
 have HB := Ae_q hB
 clear hB
 have H : ((spec_l51Cut.f k a1).bind fun t415 => (spec_l51Line.l0 k l0 t415 (([0, 0, 0, 0] : List Int)) 1)) = some (r1, r2) := h
 clear h
 replace H := oB_q.mp H
 obtain ⟨t415, A30, H⟩ := H
 replace H : (spec_l51Line.l0 k l0 t415 (([0, 0, 0, 0] : List Int)) 1) = some (r1, r2) := H
 have A3 := Ae_q A30
 clear A30
 obtain ⟨y418, hy418⟩ : ∃ y_ : List Int, y_ = (([0, 0, 0, 0] : List Int)) := ⟨_, rfl⟩
 replace H : (spec_l51Line.l0 k l0 t415 y418 1) = some (r1, r2) := by first | (rw [hy418]; with_reducible exact H) | (have H2_ := (oS_q _ _).symm.trans H; rw [hy418]; with_reducible exact H2_) | (have H2_ := (oS_q _ _).symm.trans H; with_reducible exact H2_) | with_reducible exact H | (rw [hy418]; exact H) | exact H
 have Ny418 := Ae_q hy418
 clear hy418
 have H' := Ae_q H
 clear H
 go_enter Tryd.func24, Tryd.ntmps24
 go_wp2_with (first | ((with_reducible refine gC_q (f := 35) rfl ?_); refine gL_q (some 17) rfl rfl Tryd.func35 m6_q rfl #[.string a1] rfl m0_q ?_; (with_reducible refine (spec_l51Cut.calls k a1 t415 _ A3.out).mono ?_); rintro e w' ⟨v416, rfl, ho0, hb⟩; refine ⟨_, rfl, ?_⟩; replace HO0 := Ae_q (rO_q (rup HO0.out) hb); have HO417 := Ae_q (rL_q (Kd.R_newM (M := fun k_ => (P0_ k_ ∨ w.heap.size ≤ k_)) ho0 m4_q (fun k_ h_ => .inr h_)) (bZ_q (bel HB.out))); replace HK := Ae_q (Kept.below (S := (fun k_ => P0_ k_)) m1_q hb); replace HB := Ae_q (bT_q (bel HB.out) hb); (try clear hb); (try clear hb2); (try clear hk); (try clear hi); (try clear ho0)) | ((with_reducible refine gD_q (N := 18) rfl ?_); (try (refine gate_guard (by rfl) ?_; dsimp only)); refine Kd.R_lit (Kd.int .i64) _ 3 ?hg (N := 18) ?hd (xs := ([0, 0, 0, 0] : List Int)) (inner := [.int .i64 0, .int .i64 0, .int .i64 0, .int .i64 0]) (ok := fun _ => True) (okp := fun _ => True) ?hr ?hp (fun _ hk => hk) trivial (bR_q _ _) (nR_q _) (by simp) ?_; (case hd => rfl); (case hg => rfl); (case hr => exact m10_q); (case hp => exact (Reps.one (show Kd.M (Kd.int .i64) _ _ _ 0 [.int .i64 0] from rfl) (Reps.one (show Kd.M (Kd.int .i64) _ _ _ 0 [.int .i64 0] from rfl) (Reps.one (show Kd.M (Kd.int .i64) _ _ _ 0 [.int .i64 0] from rfl) (Reps.one (show Kd.M (Kd.int .i64) _ _ _ 0 [.int .i64 0] from rfl) (Reps.none _ _)))))); intro v419 w5 ho6 hb hg_ hnew_; clear hg_ hnew_; (first | rw [← Ny418.out] at ho6 | (simp only [Int.reduceToNat] at ho6; rw [← Ny418.out] at ho6)); replace HO0 := Ae_q (rO_q (rup HO0.out) hb); replace HO417 := Ae_q (rO_q (rup HO417.out) hb); have HO420 := Ae_q (rL_q (Kd.R_newM (M := fun k_ => (P0_ k_ ∨ w.heap.size ≤ k_)) ho6 m4_q (fun k_ h_ => .inr h_)) (bZ_q (bel HB.out))); replace HK := Ae_q (Kept.below (S := (fun k_ => P0_ k_)) m1_q hb); replace HB := Ae_q (bT_q (bel HB.out) hb); clear hb ho6))
 go_loopg [8] k (fun kq v8 w' => ∃ (x7_1 : List Int) (x8_1 : Int), v8 = .int .i64 x8_1 ∧ Aside0 (spec_l51Line.l0 kq l0 t415 x7_1 x8_1 = some (r1, r2)) ∧ Aside0 (kq ≤ k) ∧ Aside0 (Kd.R k49 49 w' w0.heap.size (fun k_ => (P0_ k_ ∨ w.heap.size ≤ k_)) u9000_ l0) ∧ Aside0 (Kd.R Kd.string 9 w' w0.heap.size (fun k_ => (P0_ k_ ∨ w.heap.size ≤ k_)) v416 t415) ∧ Aside0 (Kd.R (Kd.int .i64) 3 w' w0.heap.size (fun k_ => (P0_ k_ ∨ w.heap.size ≤ k_)) v419 x7_1) ∧ Aside0 (Kept w w' (fun k_ => P0_ k_)) ∧ Aside0 (Below w0.heap.size w0 w'))
 case atStart => exact ⟨(y418), (1), m2_q, H', ⟨nR_q _⟩, ⟨rup HO0.out⟩, ⟨by (with_reducible repeat (first | apply rA_q | apply rN_q | apply rD_q)); exact rM_q HO417.out (fun _ hk => hk.1)⟩, ⟨by (with_reducible repeat (first | apply rA_q | apply rN_q | apply rD_q)); exact rM_q HO420.out (fun _ hk => hk.1)⟩, ⟨m1_q⟩, ⟨bel HB.out⟩⟩
 case round =>
  clear H'
  try clear c2
  try clear p2
  try clear c3
  obtain ⟨x7_1, x8_1, rfl, HA, HK1, HO_0, HO_6, HO_7, HK, HB⟩ := hrel
  cases gk with
  | zero => exact absurd HA.out (by simp [spec_l51Line.l0])
  | succ k1 =>
   have H := HA.out
   clear HA
   simp only [spec_l51Line.l0] at H
   have HC7 := Ae_q H
   clear H
   go_upto_region 4 with (fail)
   go_cut [26] (fun v26 wc => ∃ (kq : Nat) (x26_6 : Bool), v26 = .bool x26_6 ∧ Aside0 (spec_l51Line.j1 kq l0 t415 x7_1 x8_1 x26_6 = some (r1, r2)) ∧ Aside0 (kq ≤ k1) ∧ Aside0 (Kd.R k49 49 wc w0.heap.size (fun k_ => (P0_ k_ ∨ w.heap.size ≤ k_)) u9000_ l0) ∧ Aside0 (Kd.R Kd.string 9 wc w0.heap.size (fun k_ => (P0_ k_ ∨ w.heap.size ≤ k_)) v416 t415) ∧ Aside0 (Kd.R (Kd.int .i64) 3 wc w0.heap.size (fun k_ => (P0_ k_ ∨ w.heap.size ≤ k_)) v419 x7_1) ∧ Aside0 (Kept w wc (fun k_ => P0_ k_)) ∧ Aside0 (Below w0.heap.size w0 wc))
   case first =>
    have H := HC7.out
    clear HC7
    by_cases c8 : x8_1 < (t415.length : Int)
    ·rw [if_pos c8] at H
     have c8b0 : decide (x8_1 < (t415.length : Int)) = true := dT_q c8
     clear c8
     (first | rw [c8b0] | (simp only [i64_w, i32_w]; rw [c8b0]) | skip)
     have H' := Ae_q H
     clear H
     obtain ⟨Ao9, co9, eo9⟩ := rS_q HO_6.out
     subst eo9
     go_wp2
     go_meet
     case rel => exact ⟨_, (decide (x8_1 < 4)), m2_q, H', ⟨m45_q⟩, ⟨rup HO_0.out⟩, ⟨rup HO_6.out⟩, ⟨rup HO_7.out⟩, ⟨m1_q⟩, ⟨bel HB.out⟩⟩
    rw [if_neg c8] at H
    have c8b0 : decide (x8_1 < (t415.length : Int)) = false := dF_q c8
    clear c8
    (first | rw [c8b0] | (simp only [i64_w, i32_w]; rw [c8b0]) | skip)
    have H' := Ae_q H
    clear H
    obtain ⟨Ao10, co10, eo10⟩ := rS_q HO_6.out
    subst eo10
    go_wp2
    go_meet
    case rel => exact ⟨_, (false), m2_q, H', ⟨m45_q⟩, ⟨rup HO_0.out⟩, ⟨rup HO_6.out⟩, ⟨rup HO_7.out⟩, ⟨m1_q⟩, ⟨bel HB.out⟩⟩
   case rest =>
    clear HC7
    try clear c2
    try clear p2
    try clear c3
    try clear c8
    try clear c8b0
    try clear p2
    obtain ⟨kq, x26_6, rfl, HA, HJ6, HO_0, HO_6, HO_7, HK, HB⟩ := hcut
    cases kq with
    | zero => exact absurd HA.out (by simp [spec_l51Line.j1])
    | succ kj6 =>
     have H := HA.out
     clear HA
     simp only [spec_l51Line.j1] at H
     by_cases c11 : x26_6 = true
     ·subst c11
      have H1 : (if 0 ≤ x8_1 then (if x8_1 < (t415.length : Int) then ((spec_l1Number.f kj6 (rdOf ByteArray.empty t415 x8_1)).bind fun t422 => (if x8_1 < (x7_1.length : Int) then ((some (x7_1.set (x8_1 : Int).toNat t422 : List Int)).bind fun y423 => (if (rd y423 x8_1) < 0 then (some (l0, (⟨#[119, 104, 97, 116, 10]⟩ : ByteArray))) else (spec_l51Line.l0 kj6 l0 t415 y423 (wrap64 (x8_1 + 1))))) else (none))) else (none)) else (none)) = some (r1, r2) := by rw [if_pos rfl] at H; exact H
      clear H
      have H := H1
      clear H1
      by_cases c12 : 0 ≤ x8_1
      rotate_left
      ·rw [if_neg c12] at H
       exact absurd H (by simp)
      rw [if_pos c12] at H
      have c12b0 : decide (0 ≤ x8_1) = true := dT_q c12
      clear c12
      by_cases c13 : x8_1 < (t415.length : Int)
      rotate_left
      ·rw [if_neg c13] at H
       exact absurd H (by simp)
      rw [if_pos c13] at H
      have c13b0 : decide (x8_1 < (t415.length : Int)) = true := dT_q c13
      clear c13
      replace H := oB_q.mp H
      obtain ⟨t422, A140, H⟩ := H
      replace H : (if x8_1 < (x7_1.length : Int) then ((some (x7_1.set (x8_1 : Int).toNat t422 : List Int)).bind fun y423 => (if (rd y423 x8_1) < 0 then (some (l0, (⟨#[119, 104, 97, 116, 10]⟩ : ByteArray))) else (spec_l51Line.l0 kj6 l0 t415 y423 (wrap64 (x8_1 + 1))))) else (none)) = some (r1, r2) := H
      have A14 := Ae_q A140
      clear A140
      by_cases c15 : x8_1 < (x7_1.length : Int)
      rotate_left
      ·rw [if_neg c15] at H
       exact absurd H (by simp)
      rw [if_pos c15] at H
      have c15b0 : decide (x8_1 < (x7_1.length : Int)) = true := dT_q c15
      clear c15
      obtain ⟨y423, hy423⟩ : ∃ y_ : List Int, y_ = (x7_1.set (x8_1 : Int).toNat t422) := ⟨_, rfl⟩
      replace H : (if (rd y423 x8_1) < 0 then (some (l0, (⟨#[119, 104, 97, 116, 10]⟩ : ByteArray))) else (spec_l51Line.l0 kj6 l0 t415 y423 (wrap64 (x8_1 + 1)))) = some (r1, r2) := by first | (rw [hy423]; with_reducible exact H) | (have H2_ := (oS_q _ _).symm.trans H; rw [hy423]; with_reducible exact H2_) | (have H2_ := (oS_q _ _).symm.trans H; with_reducible exact H2_) | with_reducible exact H | (rw [hy423]; exact H) | exact H
      have Ny423 := Ae_q hy423
      clear hy423
      by_cases c17 : (rd y423 x8_1) < 0
      ·rw [if_pos c17] at H
       have c17b0 : decide ((rd y423 x8_1) < 0) = true := dT_q c17
       clear c17
       simp only [oE_q, pE_q] at H
       obtain ⟨rfl, rfl⟩ := H
       obtain ⟨Ao18, co18, eo18⟩ := rS_q HO_6.out
       subst eo18
       have p421 : 0 ≤ (x8_1 : Int) := oD_q (by assumption)
       have q421 : x8_1 < (t415.length : Int) := oD_q (by assumption)
       obtain ⟨ad421, e421, hx421_0⟩ := Kd.at_string (rR_q HO_6.out).2.2 x8_1 p421 q421
       cases e421
       replace p421 := eq_true p421
       replace q421 := eq_true q421
       go_wp2_with (first | ((with_reducible refine gC_q (f := 36) rfl ?_); refine gL_q (some 35) rfl rfl Tryd.func36 m6_q rfl #[.string (rdOf ByteArray.empty t415 x8_1)] rfl m0_q ?_; (with_reducible refine (spec_l1Number.calls kj6 (rdOf ByteArray.empty t415 x8_1) t422 _ A14.out).mono ?_); rintro e w' ⟨rfl, ⟨nd, rfl⟩⟩; refine ⟨_, rfl, ?_⟩; (try (rw [drewN_self wc]; generalize hq_ : World.drewN wc _ = wc; have n0_ : Aside0 (Kd.R k49 49 wc w0.heap.size (fun k_ => (P0_ k_ ∨ w.heap.size ≤ k_)) u9000_ l0) := ⟨by rw [← hq_]; exact (rup HO_0.out)⟩; have n1_ : Aside0 (Kd.R Kd.string 9 wc w0.heap.size (fun k_ => (P0_ k_ ∨ w.heap.size ≤ k_)) (.slice (some ad421) t415.length co18) t415) := ⟨by rw [← hq_]; exact (rup HO_6.out)⟩; have n2_ : Aside0 (Kd.R (Kd.int .i64) 3 wc w0.heap.size (fun k_ => (P0_ k_ ∨ w.heap.size ≤ k_)) v419 x7_1) := ⟨by rw [← hq_]; exact (rup HO_7.out)⟩; have n3_ : Aside0 (Kept w wc (fun k_ => P0_ k_)) := ⟨by rw [← hq_]; exact m1_q⟩; have n4_ : Aside0 (Below w0.heap.size w0 wc) := ⟨by rw [← hq_]; exact (bel HB.out)⟩; clear HO_0 HO_6 HO_7 HK HB hq_; have HO_0 := n0_; have HO_6 := n1_; have HO_7 := n2_; have HK := n3_; have HB := n4_; clear n0_ n1_ n2_ n3_ n4_)); have p16 : 0 ≤ (x8_1 : Int) := oD_q (by assumption); have q16 : (x8_1 : Int) < ((x7_1.length : Int) : Int) := oD_q (by assumption); obtain ⟨go16, co16, eo16, gb16, gl16, cl16, HG16⟩ := Kd.R_form HO_7.out (by omega); (first | cases eo16 | (injection eo16 with ea_ en_ ec_; (first | subst ea_ | (injection ea_ with ea_; subst ea_)); subst ec_; clear en_)); have GB16 := Ae_q gb16; have GG16 := Ae_q HG16; clear gb16 gl16 HG16; have HMgo16 := Ae_q (show (P0_ go16 ∨ w.heap.size ≤ go16) from (HO_7.out.1 _ rfl)); obtain ⟨hx16_0, hf16_0⟩ := Kd.R_celln 0 HO_7.out (x8_1 : Int) p16 q16; replace p16 := eq_true p16; replace q16 := eq_true q16; obtain ⟨hy19_, hz19_⟩ := Kd.R_celln 0 HO_7.out (x8_1 : Int) (oD_q (by assumption)) (oD_q (by assumption)); have HP19 := Kd.R_putg HO_7.out (x8_1 : Int) t422) | ((with_reducible refine gate_store (t := 3) (p := 36) rfl ?_); refine store_event (t := 3) (p := 36) (v := ?vo_w20) (w1 := (wc.setCell ⟨go16, (x8_1 : Int).toNat, none⟩ (.int .i64 t422))) ?hg ?ho ?hn ?hr ?_; (case ho => rfl); (case hg => rfl); (case hn => rfl); (case hr => exact m10_q); intro w20 hw; have hg : wc.grownBy w20 (some go16) := (by rw [hw]; exact HP19.2); have hp_ : Kd.R (Kd.int .i64) 3 w20 w0.heap.size (fun k_ => (P0_ k_ ∨ w.heap.size ≤ k_)) (.slice (some ⟨go16, 0, none⟩) x7_1.length co16) y423 := (by rw [hw, Ny423.out]; exact HP19.1); clear HP19; replace HO_0 := Ae_q (Kd.R_over' (v := (.slice (some ⟨go16, 0, none⟩) x7_1.length co16)) (rup HO_0.out) (Kd.R_typed HO_7.out) (by decide) hg); replace HO_6 := Ae_q (Kd.R_over' (v := (.slice (some ⟨go16, 0, none⟩) x7_1.length co16)) (rup HO_6.out) (Kd.R_typed HO_7.out) (by decide) hg); replace HB := Ae_q ((by rw [hw]; exact bS_q (HB.out) GB16.out : Below w0.heap.size w0 w20)); replace HK := Ae_q (Kept.of_grown (S := (fun k_ => P0_ k_)) hg m1_q (fun k_ e_ => (HO_7.out.1 k_ e_))); replace HO_7 := Ae_q (hp_); clear hg hw hp_; have p424 : 0 ≤ (x8_1 : Int) := oD_q (by assumption); have q424 : x8_1 < (y423.length : Int) := (by have h_ : (x8_1 : Int) < ((x7_1.length : Int) : Int) := oD_q (by assumption); first | (have e_ := (rR_q HO_7.out).1; omega) | simpa only [Ny423.out, List.length_set] using h_); have ql424 : ((x8_1 : Int) < ((x7_1.length : Int) : Int)) = True := eq_true (oD_q (by assumption)); obtain ⟨ad424, e424, hx424_0⟩ := aI_q (rR_q HO_7.out).2.2 x8_1 p424 q424; obtain rfl : (⟨go16, 0, none⟩ : Addr) = ad424 := (by injection e424); (first | simp only [add_plain] at hx424_0 | simp only [add_at] at hx424_0 | simp only [Addr.add, Nat.zero_add] at hx424_0 | skip); replace p424 := eq_true p424; replace q424 := eq_true q424))
       go_ret2
       exact ⟨_, m3_q, rup HO_0.out, bel HB.out, m1_q⟩
      rw [if_neg c17] at H
      have c17b0 : decide ((rd y423 x8_1) < 0) = false := dF_q c17
      clear c17
      have H' := Ae_q H
      clear H
      obtain ⟨Ao21, co21, eo21⟩ := rS_q HO_6.out
      subst eo21
      have p421 : 0 ≤ (x8_1 : Int) := oD_q (by assumption)
      have q421 : x8_1 < (t415.length : Int) := oD_q (by assumption)
      obtain ⟨ad421, e421, hx421_0⟩ := Kd.at_string (rR_q HO_6.out).2.2 x8_1 p421 q421
      cases e421
      replace p421 := eq_true p421
      replace q421 := eq_true q421
      go_wp2_with (first | ((with_reducible refine gC_q (f := 36) rfl ?_); refine gL_q (some 35) rfl rfl Tryd.func36 m6_q rfl #[.string (rdOf ByteArray.empty t415 x8_1)] rfl m0_q ?_; (with_reducible refine (spec_l1Number.calls kj6 (rdOf ByteArray.empty t415 x8_1) t422 _ A14.out).mono ?_); rintro e w' ⟨rfl, ⟨nd, rfl⟩⟩; refine ⟨_, rfl, ?_⟩; (try (rw [drewN_self wc]; generalize hq_ : World.drewN wc _ = wc; have n0_ : Aside0 (Kd.R k49 49 wc w0.heap.size (fun k_ => (P0_ k_ ∨ w.heap.size ≤ k_)) u9000_ l0) := ⟨by rw [← hq_]; exact (rup HO_0.out)⟩; have n1_ : Aside0 (Kd.R Kd.string 9 wc w0.heap.size (fun k_ => (P0_ k_ ∨ w.heap.size ≤ k_)) (.slice (some ad421) t415.length co21) t415) := ⟨by rw [← hq_]; exact (rup HO_6.out)⟩; have n2_ : Aside0 (Kd.R (Kd.int .i64) 3 wc w0.heap.size (fun k_ => (P0_ k_ ∨ w.heap.size ≤ k_)) v419 x7_1) := ⟨by rw [← hq_]; exact (rup HO_7.out)⟩; have n3_ : Aside0 (Kept w wc (fun k_ => P0_ k_)) := ⟨by rw [← hq_]; exact m1_q⟩; have n4_ : Aside0 (Below w0.heap.size w0 wc) := ⟨by rw [← hq_]; exact (bel HB.out)⟩; clear HO_0 HO_6 HO_7 HK HB hq_; have HO_0 := n0_; have HO_6 := n1_; have HO_7 := n2_; have HK := n3_; have HB := n4_; clear n0_ n1_ n2_ n3_ n4_)); have p16 : 0 ≤ (x8_1 : Int) := oD_q (by assumption); have q16 : (x8_1 : Int) < ((x7_1.length : Int) : Int) := oD_q (by assumption); obtain ⟨go16, co16, eo16, gb16, gl16, cl16, HG16⟩ := Kd.R_form HO_7.out (by omega); (first | cases eo16 | (injection eo16 with ea_ en_ ec_; (first | subst ea_ | (injection ea_ with ea_; subst ea_)); subst ec_; clear en_)); have GB16 := Ae_q gb16; have GG16 := Ae_q HG16; clear gb16 gl16 HG16; have HMgo16 := Ae_q (show (P0_ go16 ∨ w.heap.size ≤ go16) from (HO_7.out.1 _ rfl)); obtain ⟨hx16_0, hf16_0⟩ := Kd.R_celln 0 HO_7.out (x8_1 : Int) p16 q16; replace p16 := eq_true p16; replace q16 := eq_true q16; obtain ⟨hy22_, hz22_⟩ := Kd.R_celln 0 HO_7.out (x8_1 : Int) (oD_q (by assumption)) (oD_q (by assumption)); have HP22 := Kd.R_putg HO_7.out (x8_1 : Int) t422) | ((with_reducible refine gate_store (t := 3) (p := 36) rfl ?_); refine store_event (t := 3) (p := 36) (v := ?vo_w23) (w1 := (wc.setCell ⟨go16, (x8_1 : Int).toNat, none⟩ (.int .i64 t422))) ?hg ?ho ?hn ?hr ?_; (case ho => rfl); (case hg => rfl); (case hn => rfl); (case hr => exact m10_q); intro w23 hw; have hg : wc.grownBy w23 (some go16) := (by rw [hw]; exact HP22.2); have hp_ : Kd.R (Kd.int .i64) 3 w23 w0.heap.size (fun k_ => (P0_ k_ ∨ w.heap.size ≤ k_)) (.slice (some ⟨go16, 0, none⟩) x7_1.length co16) y423 := (by rw [hw, Ny423.out]; exact HP22.1); clear HP22; replace HO_0 := Ae_q (Kd.R_over' (v := (.slice (some ⟨go16, 0, none⟩) x7_1.length co16)) (rup HO_0.out) (Kd.R_typed HO_7.out) (by decide) hg); replace HO_6 := Ae_q (Kd.R_over' (v := (.slice (some ⟨go16, 0, none⟩) x7_1.length co16)) (rup HO_6.out) (Kd.R_typed HO_7.out) (by decide) hg); replace HB := Ae_q ((by rw [hw]; exact bS_q (HB.out) GB16.out : Below w0.heap.size w0 w23)); replace HK := Ae_q (Kept.of_grown (S := (fun k_ => P0_ k_)) hg m1_q (fun k_ e_ => (HO_7.out.1 k_ e_))); replace HO_7 := Ae_q (hp_); clear hg hw hp_; have p424 : 0 ≤ (x8_1 : Int) := oD_q (by assumption); have q424 : x8_1 < (y423.length : Int) := (by have h_ : (x8_1 : Int) < ((x7_1.length : Int) : Int) := oD_q (by assumption); first | (have e_ := (rR_q HO_7.out).1; omega) | simpa only [Ny423.out, List.length_set] using h_); have ql424 : ((x8_1 : Int) < ((x7_1.length : Int) : Int)) = True := eq_true (oD_q (by assumption)); obtain ⟨ad424, e424, hx424_0⟩ := aI_q (rR_q HO_7.out).2.2 x8_1 p424 q424; obtain rfl : (⟨go16, 0, none⟩ : Addr) = ad424 := (by injection e424); (first | simp only [add_plain] at hx424_0 | simp only [add_at] at hx424_0 | simp only [Addr.add, Nat.zero_add] at hx424_0 | skip); replace p424 := eq_true p424; replace q424 := eq_true q424))
      go_roundg kj6
      case measure => have := HK1.out; have := HJ6.out; omega
      case rel => exact ⟨(y423), (wrap64 (x8_1 + 1)), m2_q, H', ⟨by have := HK1.out; have := HJ6.out; omega⟩, ⟨rup HO_0.out⟩, ⟨rup HO_6.out⟩, ⟨rup HO_7.out⟩, ⟨m1_q⟩, ⟨bel HB.out⟩⟩
     replace c11 := fM_q.mpr c11
     subst c11
     have H1 : (if 0 < (t415.length : Int) then (if (rdOf ByteArray.empty t415 0).toList = ([112, 117, 116] : List UInt8) then (spec_l51Line.j2 kj6 l0 t415 x7_1 ((t415.length : Int) == 4)) else (spec_l51Line.j2 kj6 l0 t415 x7_1 false)) else (none)) = some (r1, r2) := by rw [if_neg (show ¬ (false = true) by decide)] at H; exact H
     clear H
     have H := H1
     clear H1
     have HC24 := Ae_q H
     clear H
     go_upto_region 9 with (fail)
     go_cut [43] (fun v43 wc => ∃ (kq : Nat) (x43_23 : Bool), v43 = .bool x43_23 ∧ Aside0 (spec_l51Line.j2 kq l0 t415 x7_1 x43_23 = some (r1, r2)) ∧ Aside0 (kq ≤ kj6) ∧ Aside0 (Kd.R k49 49 wc w0.heap.size (fun k_ => (P0_ k_ ∨ w.heap.size ≤ k_)) u9000_ l0) ∧ Aside0 (Kd.R Kd.string 9 wc w0.heap.size (fun k_ => (P0_ k_ ∨ w.heap.size ≤ k_)) v416 t415) ∧ Aside0 (Kd.R (Kd.int .i64) 3 wc w0.heap.size (fun k_ => (P0_ k_ ∨ w.heap.size ≤ k_)) v419 x7_1) ∧ Aside0 (Kept w wc (fun k_ => P0_ k_)) ∧ Aside0 (Below w0.heap.size w0 wc))
     case first =>
      have H := HC24.out
      clear HC24
      by_cases c25 : 0 < (t415.length : Int)
      rotate_left
      ·rw [if_neg c25] at H
       exact absurd H (by simp)
      rw [if_pos c25] at H
      have c25b0 : decide (0 < (t415.length : Int)) = true := dT_q c25
      have c25b1 : decide (0 < t415.length) = true := dT_q (by omega)
      clear c25
      (first | rw [c25b0] | (simp only [i64_w, i32_w]; rw [c25b0]) | skip)
      by_cases c26 : (rdOf ByteArray.empty t415 0).toList = ([112, 117, 116] : List UInt8)
      ·rw [if_pos c26] at H
       have c26b0 : ((rdOf ByteArray.empty t415 0).toList == ([112, 117, 116] : List UInt8)) = true := beq_iff_eq.mpr c26
       have c26b1 : ((rdOf ByteArray.empty t415 0).toList != ([112, 117, 116] : List UInt8)) = false := nE_q.mpr c26
       clear c26
       have H' := Ae_q H
       clear H
       obtain ⟨Ao27, co27, eo27⟩ := rS_q HO_6.out
       subst eo27
       have p425 : 0 ≤ (0 : Int) := (by omega)
       have q425 : 0 < (t415.length : Int) := oD_q (by assumption)
       obtain ⟨ad425, e425, hx425_0⟩ := Kd.at_string (rR_q HO_6.out).2.2 0 p425 q425
       cases e425
       have qi425 : (0 < t415.length) = True := eq_true (by omega)
       (try rw [show ((0 : Int)).toNat = 0 from rfl] at hx425_0)
       (try rw [Addr.add_zero'] at hx425_0)
       replace p425 := eq_true p425
       replace q425 := eq_true q425
       go_wp2
       go_meet
       case rel => exact ⟨_, (((t415.length : Int) == 4)), m2_q, H', ⟨by have := HK1.out; have := HJ6.out; first | omega | exact nR_q _⟩, ⟨rup HO_0.out⟩, ⟨rup HO_6.out⟩, ⟨rup HO_7.out⟩, ⟨m1_q⟩, ⟨bel HB.out⟩⟩
      rw [if_neg c26] at H
      have c26b0 : ((rdOf ByteArray.empty t415 0).toList == ([112, 117, 116] : List UInt8)) = false := fN_q.mpr c26
      have c26b1 : ((rdOf ByteArray.empty t415 0).toList != ([112, 117, 116] : List UInt8)) = true := nI_q.mpr c26
      have H' := Ae_q H
      clear H
      obtain ⟨Ao28, co28, eo28⟩ := rS_q HO_6.out
      subst eo28
      have p425 : 0 ≤ (0 : Int) := (by omega)
      have q425 : 0 < (t415.length : Int) := oD_q (by assumption)
      obtain ⟨ad425, e425, hx425_0⟩ := Kd.at_string (rR_q HO_6.out).2.2 0 p425 q425
      cases e425
      have qi425 : (0 < t415.length) = True := eq_true (by omega)
      (try rw [show ((0 : Int)).toNat = 0 from rfl] at hx425_0)
      (try rw [Addr.add_zero'] at hx425_0)
      replace p425 := eq_true p425
      replace q425 := eq_true q425
      go_wp2
      go_meet
      case rel => exact ⟨_, (false), m2_q, H', ⟨by have := HK1.out; have := HJ6.out; first | omega | exact nR_q _⟩, ⟨rup HO_0.out⟩, ⟨rup HO_6.out⟩, ⟨rup HO_7.out⟩, ⟨m1_q⟩, ⟨bel HB.out⟩⟩
     case rest =>
      clear HC24
      try clear c1
      try clear p1
      try clear q1
      try clear hx1
      try clear c2
      try clear p2
      try clear c3
      try clear p4
      try clear q4
      try clear hx4
      try clear qi4
      try clear p6
      try clear c8
      try clear c8b0
      try clear c11
      try clear c12
      try clear c12b0
      try clear c13
      try clear c13b0
      try clear c15
      try clear c15b0
      try clear p16
      try clear q16
      try clear hx16
      try clear hf16
      try clear c17
      try clear c17b0
      try clear c24
      try clear c25
      try clear c25b0
      try clear c25b1
      try clear c26
      try clear c26b0
      try clear c26b1
      try clear hx16_0
      try clear hx421_0
      try clear hx424_0
      try clear hx425_0
      try clear p16
      try clear p2
      try clear p421
      try clear p424
      try clear p425
      try clear q16
      try clear q421
      try clear q424
      try clear q425
      obtain ⟨kq, x43_23, rfl, HA, HJ23, HO_0, HO_6, HO_7, HK, HB⟩ := hcut
      cases kq with
      | zero => exact absurd HA.out (by simp [spec_l51Line.j2])
      | succ kj23 =>
       have H := HA.out
       clear HA
       simp only [spec_l51Line.j2] at H
       by_cases c29 : x43_23 = true
       ·subst c29
        have H1 : (if 1 < (x7_1.length : Int) then (if 2 < (x7_1.length : Int) then (if 3 < (x7_1.length : Int) then ((spec_StorePut.f kj23 l0 (rd x7_1 1) (rd x7_1 2) (rd x7_1 3)).bind fun bt429 => (if bt429.2 = true then (some (bt429.1, (⟨#[111, 107, 10]⟩ : ByteArray))) else (some (l0, (⟨#[110, 111, 10]⟩ : ByteArray))))) else (none)) else (none)) else (none)) = some (r1, r2) := by rw [if_pos rfl] at H; exact H
        clear H
        have H := H1
        clear H1
        by_cases c30 : 1 < (x7_1.length : Int)
        rotate_left
        ·rw [if_neg c30] at H
         exact absurd H (by simp)
        rw [if_pos c30] at H
        have c30b0 : decide (1 < (x7_1.length : Int)) = true := dT_q c30
        have c30b1 : decide (1 < x7_1.length) = true := dT_q (by omega)
        clear c30
        by_cases c31 : 2 < (x7_1.length : Int)
        rotate_left
        ·rw [if_neg c31] at H
         exact absurd H (by simp)
        rw [if_pos c31] at H
        have c31b0 : decide (2 < (x7_1.length : Int)) = true := dT_q c31
        have c31b1 : decide (2 < x7_1.length) = true := dT_q (by omega)
        clear c31
        by_cases c32 : 3 < (x7_1.length : Int)
        rotate_left
        ·rw [if_neg c32] at H
         exact absurd H (by simp)
        rw [if_pos c32] at H
        have c32b0 : decide (3 < (x7_1.length : Int)) = true := dT_q c32
        have c32b1 : decide (3 < x7_1.length) = true := dT_q (by omega)
        clear c32
        replace H := oB_q.mp H
        obtain ⟨⟨t429, t432⟩, A330, H⟩ := H
        replace H : (if t432 = true then (some (t429, (⟨#[111, 107, 10]⟩ : ByteArray))) else (some (l0, (⟨#[110, 111, 10]⟩ : ByteArray)))) = some (r1, r2) := H
        have A33 := Ae_q A330
        clear A330
        by_cases c34 : t432 = true
        ·subst c34
         have H1 : (some (t429, (⟨#[111, 107, 10]⟩ : ByteArray))) = some (r1, r2) := by rw [if_pos rfl] at H; exact H
         clear H
         have H := H1
         clear H1
         simp only [oE_q, pE_q] at H
         obtain ⟨rfl, rfl⟩ := H
         try go_wp2
         replace HO_0 := Ae_q (rD_q HO_0.out)
         replace HO_6 := Ae_q (rD_q HO_6.out)
         replace HO_7 := Ae_q (rD_q HO_7.out)
         replace HK := Ae_q (Kept.drew HK.out)
         replace HB := Ae_q (bD_q HB.out)
         obtain ⟨Ao36, co36, eo36⟩ := rS_q HO_7.out
         (first | subst eo36 | (injection eo36 with f1_ f2_ f3_; have f4_ := f1_.symm; have f5_ := f3_.symm; clear f1_ f2_ f3_; subst f4_; subst f5_))
         have p426 : 0 ≤ (1 : Int) := (by omega)
         have q426 : 1 < (x7_1.length : Int) := oD_q (by assumption)
         obtain ⟨ad426, e426, hx426_0⟩ := aI_q (rR_q HO_7.out).2.2 1 p426 q426
         cases e426
         (try simp only [show (1 : Int).toNat = 1 from rfl, Nat.reduceMul, Nat.reduceEqDiff, Go.Addr.add, ↓reduceIte] at hx426_0)
         have qi426 : (1 < x7_1.length) = True := eq_true (by omega)
         (try rw [show ((1 : Int)).toNat = 1 from rfl] at hx426_0)
         replace p426 := eq_true p426
         replace q426 := eq_true q426
         have p427 : 0 ≤ (2 : Int) := (by omega)
         have q427 : 2 < (x7_1.length : Int) := oD_q (by assumption)
         obtain ⟨ad427, e427, hx427_0⟩ := aI_q (rR_q HO_7.out).2.2 2 p427 q427
         obtain rfl : ad426 = ad427 := (by injection e427)
         (try simp only [show (2 : Int).toNat = 2 from rfl, Nat.reduceMul, Nat.reduceEqDiff, Go.Addr.add, ↓reduceIte] at hx427_0)
         have qi427 : (2 < x7_1.length) = True := eq_true (by omega)
         (try rw [show ((2 : Int)).toNat = 2 from rfl] at hx427_0)
         replace p427 := eq_true p427
         replace q427 := eq_true q427
         have p428 : 0 ≤ (3 : Int) := (by omega)
         have q428 : 3 < (x7_1.length : Int) := oD_q (by assumption)
         obtain ⟨ad428, e428, hx428_0⟩ := aI_q (rR_q HO_7.out).2.2 3 p428 q428
         obtain rfl : ad426 = ad428 := (by injection e428)
         (try simp only [show (3 : Int).toNat = 3 from rfl, Nat.reduceMul, Nat.reduceEqDiff, Go.Addr.add, ↓reduceIte] at hx428_0)
         have qi428 : (3 < x7_1.length) = True := eq_true (by omega)
         (try rw [show ((3 : Int)).toNat = 3 from rfl] at hx428_0)
         replace p428 := eq_true p428
         replace q428 := eq_true q428
         obtain ⟨Ao37, co37, eo37⟩ := rS_q HO_0.out
         (first | subst eo37 | (injection eo37 with f1_ f2_ f3_; have f4_ := f1_.symm; have f5_ := f3_.symm; clear f1_ f2_ f3_; subst f4_; subst f5_))
         refine start_ (n := 17) (S := fun w' => w'.cell? ⟨ad426.block, ad426.off + 1, none⟩ = some (.int .i64 (rd x7_1 1)) ∧ w'.cell? ⟨ad426.block, ad426.off + 2, none⟩ = some (.int .i64 (rd x7_1 2)) ∧ w'.cell? ⟨ad426.block, ad426.off + 3, none⟩ = some (.int .i64 (rd x7_1 3))) (ds := []) #[false, false, false, false, false, false, false, false, false, false, false, false, false, false, false, false, false] m6_q rfl rfl ⟨hx426_0, hx427_0, hx428_0⟩ (fun hHeld => ?_); refine with_tabW spec_l51Line.tab10 spec_l51Line.bits10 (fun HT_ HW_ => ?_)
         generalize wc.drew = w35 at HO_0 HO_6 HO_7 HK HB hx426_0 hx427_0 hx428_0 hHeld ⊢
         refine pJ HT_ 0 54 rfl rfl ?_
         refine pJ HT_ 1 55 rfl rfl ?_
         refine pJ HT_ 2 56 rfl rfl ?_
         refine pJ HT_ 4 58 rfl rfl ?_
         refine pJ HT_ 5 59 rfl rfl ?_
         refine pJ HT_ 7 61 rfl rfl ?_
         refine pJ HT_ 8 62 rfl rfl ?_
         refine take_ (i := 3) (N := some 57) (v := ?_) (a' := ?_) #[true, true, true, true, true, true, false, true, true, false, false, false, false, false, false, false, false] rfl rfl (take_ofW HT_.out HW_.out m6_q) (fun _ _ _ h => h) (Or.inl ⟨by rfl, ?_⟩) hHeld ?_ ?_
         rotate_left
         ·rintro w' ⟨s0, s1, s2⟩
          go_simp
          with_reducible rfl
         rotate_left
         ·simp only [pS_q]
          rfl
         refine take_ (i := 6) (N := some 60) (v := ?_) (a' := ?_) #[true, true, true, true, true, true, true, true, true, false, false, false, false, false, false, false, false] rfl rfl (take_ofW HT_.out HW_.out m6_q) (fun _ _ _ h => h) (Or.inl ⟨by rfl, ?_⟩) hHeld ?_ ?_
         rotate_left
         ·rintro w' ⟨s0, s1, s2⟩
          go_simp
          with_reducible rfl
         rotate_left
         ·simp only [pS_q]
          rfl
         refine take_ (i := 9) (N := some 63) (v := ?_) (a' := ?_) #[true, true, true, true, true, true, true, true, true, true, false, false, false, false, false, false, false] rfl rfl (take_ofW HT_.out HW_.out m6_q) (fun _ _ _ h => h) (Or.inl ⟨by rfl, ?_⟩) hHeld ?_ ?_
         rotate_left
         ·rintro w' ⟨s0, s1, s2⟩
          go_simp
          with_reducible rfl
         rotate_left
         ·simp only [pS_q]
          rfl
         refine pJ HT_ 10 64 rfl rfl ?_
         refine one_ (i := 11) (N := some 65) #[true, true, true, true, true, true, true, true, true, true, true, true, false, false, false, false, false] rfl rfl (one_of HT_.out m6_q) (by decide) (fun K hK => ?_)
         refine goes_ Tryd.func37 m6_q rfl #[.slice Ao37 l0.length co37, .agg #[.int .i64 (rd x7_1 1), .int .i64 (rd x7_1 2), .int .i64 (rd x7_1 3)]] (by rfl) rfl rfl m0_q ?_
         with_reducible refine (spec_StorePut.calls kj23 _ _ l0 (rd x7_1 1) (rd x7_1 2) (rd x7_1 3) t429 true _ ?side1 ?side2 A33.out).mono ?_
         (case side1 => exact m44_q)
         (case side2 => exact m47_q)
         rintro e w' ⟨v430, rfl, ho0, hb⟩
         have HS0_ := (hb.cell (wL_q _ _ (hHeld.1))).trans (hHeld.1)
         have HS1_ := (hb.cell (wL_q _ _ (hHeld.2.1))).trans (hHeld.2.1)
         have HS2_ := (hb.cell (wL_q _ _ (hHeld.2.2))).trans (hHeld.2.2)
         refine ⟨_, rfl, ?_⟩
         replace HO_6 := Ae_q (rO_q (rup HO_6.out) hb)
         replace HO_7 := Ae_q (rO_q (rup HO_7.out) hb)
         have HO431 := Ae_q (rL_q (rW_q (Kd.R_newM (M := fun k_ => (P0_ k_ ∨ w.heap.size ≤ k_)) ho0 m4_q (fun k_ h_ => .inr h_)) (rT_q (rup HO_0.out))) (bZ_q (bel HB.out)))
         replace HO_0 := Ae_q (rE_q (rup HO_0.out) (rB_q ho0) hb)
         replace HK := Ae_q (Kept.below (S := (fun k_ => P0_ k_)) m1_q hb)
         replace HB := Ae_q (bT_q (bel HB.out) hb)
         (try clear hb)
         (try clear hb2)
         (try clear hk)
         (try clear hi)
         (try clear ho0)
         refine hK.out _ _ ⟨HS0_, HS1_, HS2_⟩ (fun hHeld => ?_)
         clear hK K
         refine nJ_q ?_
         refine pJ HT_ 12 53 rfl rfl ?_
         refine pJ HT_ 13 66 rfl rfl ?_
         refine pJ HT_ 14 67 rfl rfl ?_
         refine pJ HT_ 15 9 rfl rfl ?_
         refine pJ HT_ 16 10 rfl rfl ?_
         refine done_ (done_of HT_.out m6_q) ?_
         try go_wp2
         go_ret2
         exact ⟨_, m3_q, by (with_reducible repeat (first | apply rA_q | apply rN_q | apply rD_q)); exact rM_q HO431.out (fun _ hk => hk.1.1), bel HB.out, m1_q⟩
        replace c34 := fM_q.mpr c34
        subst c34
        have H1 : (some (l0, (⟨#[110, 111, 10]⟩ : ByteArray))) = some (r1, r2) := by rw [if_neg (show ¬ (false = true) by decide)] at H; exact H
        clear H
        have H := H1
        clear H1
        simp only [oE_q, pE_q] at H
        obtain ⟨rfl, rfl⟩ := H
        try go_wp2
        replace HO_0 := Ae_q (rD_q HO_0.out)
        replace HO_6 := Ae_q (rD_q HO_6.out)
        replace HO_7 := Ae_q (rD_q HO_7.out)
        replace HK := Ae_q (Kept.drew HK.out)
        replace HB := Ae_q (bD_q HB.out)
        obtain ⟨Ao40, co40, eo40⟩ := rS_q HO_7.out
        (first | subst eo40 | (injection eo40 with f1_ f2_ f3_; have f4_ := f1_.symm; have f5_ := f3_.symm; clear f1_ f2_ f3_; subst f4_; subst f5_))
        have p426 : 0 ≤ (1 : Int) := (by omega)
        have q426 : 1 < (x7_1.length : Int) := oD_q (by assumption)
        obtain ⟨ad426, e426, hx426_0⟩ := aI_q (rR_q HO_7.out).2.2 1 p426 q426
        cases e426
        (try simp only [show (1 : Int).toNat = 1 from rfl, Nat.reduceMul, Nat.reduceEqDiff, Go.Addr.add, ↓reduceIte] at hx426_0)
        have qi426 : (1 < x7_1.length) = True := eq_true (by omega)
        (try rw [show ((1 : Int)).toNat = 1 from rfl] at hx426_0)
        replace p426 := eq_true p426
        replace q426 := eq_true q426
        have p427 : 0 ≤ (2 : Int) := (by omega)
        have q427 : 2 < (x7_1.length : Int) := oD_q (by assumption)
        obtain ⟨ad427, e427, hx427_0⟩ := aI_q (rR_q HO_7.out).2.2 2 p427 q427
        obtain rfl : ad426 = ad427 := (by injection e427)
        (try simp only [show (2 : Int).toNat = 2 from rfl, Nat.reduceMul, Nat.reduceEqDiff, Go.Addr.add, ↓reduceIte] at hx427_0)
        have qi427 : (2 < x7_1.length) = True := eq_true (by omega)
        (try rw [show ((2 : Int)).toNat = 2 from rfl] at hx427_0)
        replace p427 := eq_true p427
        replace q427 := eq_true q427
        have p428 : 0 ≤ (3 : Int) := (by omega)
        have q428 : 3 < (x7_1.length : Int) := oD_q (by assumption)
        obtain ⟨ad428, e428, hx428_0⟩ := aI_q (rR_q HO_7.out).2.2 3 p428 q428
        obtain rfl : ad426 = ad428 := (by injection e428)
        (try simp only [show (3 : Int).toNat = 3 from rfl, Nat.reduceMul, Nat.reduceEqDiff, Go.Addr.add, ↓reduceIte] at hx428_0)
        have qi428 : (3 < x7_1.length) = True := eq_true (by omega)
        (try rw [show ((3 : Int)).toNat = 3 from rfl] at hx428_0)
        replace p428 := eq_true p428
        replace q428 := eq_true q428
        obtain ⟨Ao41, co41, eo41⟩ := rS_q HO_0.out
        (first | subst eo41 | (injection eo41 with f1_ f2_ f3_; have f4_ := f1_.symm; have f5_ := f3_.symm; clear f1_ f2_ f3_; subst f4_; subst f5_))
        refine start_ (n := 17) (S := fun w' => w'.cell? ⟨ad426.block, ad426.off + 1, none⟩ = some (.int .i64 (rd x7_1 1)) ∧ w'.cell? ⟨ad426.block, ad426.off + 2, none⟩ = some (.int .i64 (rd x7_1 2)) ∧ w'.cell? ⟨ad426.block, ad426.off + 3, none⟩ = some (.int .i64 (rd x7_1 3))) (ds := []) #[false, false, false, false, false, false, false, false, false, false, false, false, false, false, false, false, false] m6_q rfl rfl ⟨hx426_0, hx427_0, hx428_0⟩ (fun hHeld => ?_); refine with_tabW spec_l51Line.tab10 spec_l51Line.bits10 (fun HT_ HW_ => ?_)
        generalize wc.drew = w39 at HO_0 HO_6 HO_7 HK HB hx426_0 hx427_0 hx428_0 hHeld ⊢
        refine pJ HT_ 0 54 rfl rfl ?_
        refine pJ HT_ 1 55 rfl rfl ?_
        refine pJ HT_ 2 56 rfl rfl ?_
        refine pJ HT_ 4 58 rfl rfl ?_
        refine pJ HT_ 5 59 rfl rfl ?_
        refine pJ HT_ 7 61 rfl rfl ?_
        refine pJ HT_ 8 62 rfl rfl ?_
        refine take_ (i := 3) (N := some 57) (v := ?_) (a' := ?_) #[true, true, true, true, true, true, false, true, true, false, false, false, false, false, false, false, false] rfl rfl (take_ofW HT_.out HW_.out m6_q) (fun _ _ _ h => h) (Or.inl ⟨by rfl, ?_⟩) hHeld ?_ ?_
        rotate_left
        ·rintro w' ⟨s0, s1, s2⟩
         go_simp
         with_reducible rfl
        rotate_left
        ·simp only [pS_q]
         rfl
        refine take_ (i := 6) (N := some 60) (v := ?_) (a' := ?_) #[true, true, true, true, true, true, true, true, true, false, false, false, false, false, false, false, false] rfl rfl (take_ofW HT_.out HW_.out m6_q) (fun _ _ _ h => h) (Or.inl ⟨by rfl, ?_⟩) hHeld ?_ ?_
        rotate_left
        ·rintro w' ⟨s0, s1, s2⟩
         go_simp
         with_reducible rfl
        rotate_left
        ·simp only [pS_q]
         rfl
        refine take_ (i := 9) (N := some 63) (v := ?_) (a' := ?_) #[true, true, true, true, true, true, true, true, true, true, false, false, false, false, false, false, false] rfl rfl (take_ofW HT_.out HW_.out m6_q) (fun _ _ _ h => h) (Or.inl ⟨by rfl, ?_⟩) hHeld ?_ ?_
        rotate_left
        ·rintro w' ⟨s0, s1, s2⟩
         go_simp
         with_reducible rfl
        rotate_left
        ·simp only [pS_q]
         rfl
        refine pJ HT_ 10 64 rfl rfl ?_
        refine one_ (i := 11) (N := some 65) #[true, true, true, true, true, true, true, true, true, true, true, true, false, false, false, false, false] rfl rfl (one_of HT_.out m6_q) (by decide) (fun K hK => ?_)
        refine goes_ Tryd.func37 m6_q rfl #[.slice Ao41 l0.length co41, .agg #[.int .i64 (rd x7_1 1), .int .i64 (rd x7_1 2), .int .i64 (rd x7_1 3)]] (by rfl) rfl rfl m0_q ?_
        with_reducible refine (spec_StorePut.calls kj23 _ _ l0 (rd x7_1 1) (rd x7_1 2) (rd x7_1 3) t429 false _ ?side1 ?side2 A33.out).mono ?_
        (case side1 => exact m44_q)
        (case side2 => exact m47_q)
        rintro e w' ⟨v430, rfl, ho0, hb⟩
        have HS0_ := (hb.cell (wL_q _ _ (hHeld.1))).trans (hHeld.1)
        have HS1_ := (hb.cell (wL_q _ _ (hHeld.2.1))).trans (hHeld.2.1)
        have HS2_ := (hb.cell (wL_q _ _ (hHeld.2.2))).trans (hHeld.2.2)
        refine ⟨_, rfl, ?_⟩
        replace HO_6 := Ae_q (rO_q (rup HO_6.out) hb)
        replace HO_7 := Ae_q (rO_q (rup HO_7.out) hb)
        have HO431 := Ae_q (rL_q (rW_q (Kd.R_newM (M := fun k_ => (P0_ k_ ∨ w.heap.size ≤ k_)) ho0 m4_q (fun k_ h_ => .inr h_)) (rT_q (rup HO_0.out))) (bZ_q (bel HB.out)))
        replace HO_0 := Ae_q (rE_q (rup HO_0.out) (rB_q ho0) hb)
        replace HK := Ae_q (Kept.below (S := (fun k_ => P0_ k_)) m1_q hb)
        replace HB := Ae_q (bT_q (bel HB.out) hb)
        (try clear hb)
        (try clear hb2)
        (try clear hk)
        (try clear hi)
        (try clear ho0)
        refine hK.out _ _ ⟨HS0_, HS1_, HS2_⟩ (fun hHeld => ?_)
        clear hK K
        refine nJ_q ?_
        refine pJ HT_ 12 53 rfl rfl ?_
        refine pJ HT_ 13 66 rfl rfl ?_
        refine pJ HT_ 14 67 rfl rfl ?_
        refine pJ HT_ 15 9 rfl rfl ?_
        refine pJ HT_ 16 10 rfl rfl ?_
        refine done_ (done_of HT_.out m6_q) ?_
        try go_wp2
        go_ret2
        exact ⟨_, m3_q, m79_q, bel HB.out, m1_q⟩
       replace c29 := fM_q.mpr c29
       subst c29
       have H1 : (if 0 < (t415.length : Int) then (if (rdOf ByteArray.empty t415 0).toList = ([116, 97, 107, 101] : List UInt8) then (spec_l51Line.j3 kj23 l0 t415 x7_1 ((t415.length : Int) == 4)) else (spec_l51Line.j3 kj23 l0 t415 x7_1 false)) else (none)) = some (r1, r2) := by rw [if_neg (show ¬ (false = true) by decide)] at H; exact H
       clear H
       have H := H1
       clear H1
       have HC43 := Ae_q H
       clear H
       go_upto_region 14 with (fail)
       go_cut [72] (fun v72 wc => ∃ (kq : Nat) (x72_42 : Bool), v72 = .bool x72_42 ∧ Aside0 (spec_l51Line.j3 kq l0 t415 x7_1 x72_42 = some (r1, r2)) ∧ Aside0 (kq ≤ kj23) ∧ Aside0 (Kd.R k49 49 wc w0.heap.size (fun k_ => (P0_ k_ ∨ w.heap.size ≤ k_)) u9000_ l0) ∧ Aside0 (Kd.R Kd.string 9 wc w0.heap.size (fun k_ => (P0_ k_ ∨ w.heap.size ≤ k_)) v416 t415) ∧ Aside0 (Kd.R (Kd.int .i64) 3 wc w0.heap.size (fun k_ => (P0_ k_ ∨ w.heap.size ≤ k_)) v419 x7_1) ∧ Aside0 (Kept w wc (fun k_ => P0_ k_)) ∧ Aside0 (Below w0.heap.size w0 wc))
       case first =>
        have H := HC43.out
        clear HC43
        by_cases c44 : 0 < (t415.length : Int)
        rotate_left
        ·rw [if_neg c44] at H
         exact absurd H (by simp)
        rw [if_pos c44] at H
        have c44b0 : decide (0 < (t415.length : Int)) = true := dT_q c44
        have c44b1 : decide (0 < t415.length) = true := dT_q (by omega)
        clear c44
        (first | rw [c44b0] | (simp only [i64_w, i32_w]; rw [c44b0]) | skip)
        by_cases c45 : (rdOf ByteArray.empty t415 0).toList = ([116, 97, 107, 101] : List UInt8)
        ·rw [if_pos c45] at H
         have c45b0 : ((rdOf ByteArray.empty t415 0).toList == ([116, 97, 107, 101] : List UInt8)) = true := beq_iff_eq.mpr c45
         have c45b1 : ((rdOf ByteArray.empty t415 0).toList != ([116, 97, 107, 101] : List UInt8)) = false := nE_q.mpr c45
         clear c45
         have H' := Ae_q H
         clear H
         obtain ⟨Ao46, co46, eo46⟩ := rS_q HO_6.out
         subst eo46
         have p433 : 0 ≤ (0 : Int) := (by omega)
         have q433 : 0 < (t415.length : Int) := oD_q (by assumption)
         obtain ⟨ad433, e433, hx433_0⟩ := Kd.at_string (rR_q HO_6.out).2.2 0 p433 q433
         cases e433
         have qi433 : (0 < t415.length) = True := eq_true (by omega)
         (try rw [show ((0 : Int)).toNat = 0 from rfl] at hx433_0)
         (try rw [Addr.add_zero'] at hx433_0)
         replace p433 := eq_true p433
         replace q433 := eq_true q433
         go_wp2
         go_meet
         case rel => exact ⟨_, (((t415.length : Int) == 4)), m2_q, H', ⟨m93_q⟩, ⟨rup HO_0.out⟩, ⟨rup HO_6.out⟩, ⟨rup HO_7.out⟩, ⟨m1_q⟩, ⟨bel HB.out⟩⟩
        rw [if_neg c45] at H
        have c45b0 : ((rdOf ByteArray.empty t415 0).toList == ([116, 97, 107, 101] : List UInt8)) = false := fN_q.mpr c45
        have c45b1 : ((rdOf ByteArray.empty t415 0).toList != ([116, 97, 107, 101] : List UInt8)) = true := nI_q.mpr c45
        have H' := Ae_q H
        clear H
        obtain ⟨Ao47, co47, eo47⟩ := rS_q HO_6.out
        subst eo47
        have p433 : 0 ≤ (0 : Int) := (by omega)
        have q433 : 0 < (t415.length : Int) := oD_q (by assumption)
        obtain ⟨ad433, e433, hx433_0⟩ := Kd.at_string (rR_q HO_6.out).2.2 0 p433 q433
        cases e433
        have qi433 : (0 < t415.length) = True := eq_true (by omega)
        (try rw [show ((0 : Int)).toNat = 0 from rfl] at hx433_0)
        (try rw [Addr.add_zero'] at hx433_0)
        replace p433 := eq_true p433
        replace q433 := eq_true q433
        go_wp2
        go_meet
        case rel => exact ⟨_, (false), m2_q, H', ⟨m93_q⟩, ⟨rup HO_0.out⟩, ⟨rup HO_6.out⟩, ⟨rup HO_7.out⟩, ⟨m1_q⟩, ⟨bel HB.out⟩⟩
       case rest =>
        clear HC43
        try clear c1
        try clear p1
        try clear q1
        try clear hx1
        try clear c2
        try clear p2
        try clear c3
        try clear c4
        try clear p4
        try clear q4
        try clear hx4
        try clear qi4
        try clear p6
        try clear c8
        try clear c8b0
        try clear c11
        try clear c12
        try clear c12b0
        try clear c13
        try clear c13b0
        try clear c15
        try clear c15b0
        try clear p16
        try clear q16
        try clear hx16
        try clear hf16
        try clear c17
        try clear c17b0
        try clear c24
        try clear c25
        try clear c25b0
        try clear c25b1
        try clear c26
        try clear c26b0
        try clear c26b1
        try clear c29
        try clear c30
        try clear c30b0
        try clear c30b1
        try clear c31
        try clear c31b0
        try clear c31b1
        try clear c32
        try clear c32b0
        try clear c32b1
        try clear c34
        try clear c37
        try clear p42
        try clear q42
        try clear hx42
        try clear qi42
        try clear p43
        try clear q43
        try clear hx43
        try clear qi43
        try clear c44
        try clear c44b0
        try clear c44b1
        try clear c45
        try clear c45b0
        try clear c45b1
        try clear hx16_0
        try clear hx421_0
        try clear hx424_0
        try clear hx425_0
        try clear hx426_0
        try clear hx427_0
        try clear hx428_0
        try clear hx433_0
        try clear p16
        try clear p2
        try clear p421
        try clear p424
        try clear p425
        try clear p426
        try clear p427
        try clear p428
        try clear p433
        try clear p6
        try clear q16
        try clear q421
        try clear q424
        try clear q425
        try clear q426
        try clear q427
        try clear q428
        try clear q433
        obtain ⟨kq, x72_42, rfl, HA, HJ42, HO_0, HO_6, HO_7, HK, HB⟩ := hcut
        cases kq with
        | zero => exact absurd HA.out (by simp [spec_l51Line.j3])
        | succ kj42 =>
         have H := HA.out
         clear HA
         simp only [spec_l51Line.j3] at H
         by_cases c48 : x72_42 = true
         ·subst c48
          have H1 : (if 1 < (x7_1.length : Int) then (if 2 < (x7_1.length : Int) then (if 3 < (x7_1.length : Int) then ((spec_StoreTake.f kj42 l0 (rd x7_1 1) (rd x7_1 2) (rd x7_1 3)).bind fun bt437 => (if bt437.2.2 = true then ((spec_l51Lots.f kj42 (⟨#[116, 111, 111, 107]⟩ : ByteArray) bt437.2.1).bind fun t444 => (some (bt437.1, t444))) else (some (l0, (⟨#[110, 111, 10]⟩ : ByteArray))))) else (none)) else (none)) else (none)) = some (r1, r2) := by rw [if_pos rfl] at H; exact H
          clear H
          have H := H1
          clear H1
          by_cases c49 : 1 < (x7_1.length : Int)
          rotate_left
          ·rw [if_neg c49] at H
           exact absurd H (by simp)
          rw [if_pos c49] at H
          have c49b0 : decide (1 < (x7_1.length : Int)) = true := dT_q c49
          have c49b1 : decide (1 < x7_1.length) = true := dT_q (by omega)
          clear c49
          by_cases c50 : 2 < (x7_1.length : Int)
          rotate_left
          ·rw [if_neg c50] at H
           exact absurd H (by simp)
          rw [if_pos c50] at H
          have c50b0 : decide (2 < (x7_1.length : Int)) = true := dT_q c50
          have c50b1 : decide (2 < x7_1.length) = true := dT_q (by omega)
          clear c50
          by_cases c51 : 3 < (x7_1.length : Int)
          rotate_left
          ·rw [if_neg c51] at H
           exact absurd H (by simp)
          rw [if_pos c51] at H
          have c51b0 : decide (3 < (x7_1.length : Int)) = true := dT_q c51
          have c51b1 : decide (3 < x7_1.length) = true := dT_q (by omega)
          clear c51
          replace H := oB_q.mp H
          obtain ⟨⟨t437, t438, t439⟩, A520, H⟩ := H
          replace H : (if t439 = true then ((spec_l51Lots.f kj42 (⟨#[116, 111, 111, 107]⟩ : ByteArray) t438).bind fun t444 => (some (t437, t444))) else (some (l0, (⟨#[110, 111, 10]⟩ : ByteArray)))) = some (r1, r2) := H
          have A52 := Ae_q A520
          clear A520
          by_cases c53 : t439 = true
          rotate_left
          ·replace c53 := fM_q.mpr c53
           subst c53
           have H1 : (some (l0, (⟨#[110, 111, 10]⟩ : ByteArray))) = some (r1, r2) := by rw [if_neg (show ¬ (false = true) by decide)] at H; exact H
           clear H
           have H := H1
           clear H1
           simp only [oE_q, pE_q] at H
           obtain ⟨rfl, rfl⟩ := H
           try go_wp2
           replace HO_0 := Ae_q (rD_q HO_0.out)
           replace HO_6 := Ae_q (rD_q HO_6.out)
           replace HO_7 := Ae_q (rD_q HO_7.out)
           replace HK := Ae_q (Kept.drew HK.out)
           replace HB := Ae_q (bD_q HB.out)
           obtain ⟨Ao62, co62, eo62⟩ := rS_q HO_7.out
           (first | subst eo62 | (injection eo62 with f1_ f2_ f3_; have f4_ := f1_.symm; have f5_ := f3_.symm; clear f1_ f2_ f3_; subst f4_; subst f5_))
           have p434 : 0 ≤ (1 : Int) := (by omega)
           have q434 : 1 < (x7_1.length : Int) := oD_q (by assumption)
           obtain ⟨ad434, e434, hx434_0⟩ := aI_q (rR_q HO_7.out).2.2 1 p434 q434
           cases e434
           (try simp only [show (1 : Int).toNat = 1 from rfl, Nat.reduceMul, Nat.reduceEqDiff, Go.Addr.add, ↓reduceIte] at hx434_0)
           have qi434 : (1 < x7_1.length) = True := eq_true (by omega)
           (try rw [show ((1 : Int)).toNat = 1 from rfl] at hx434_0)
           replace p434 := eq_true p434
           replace q434 := eq_true q434
           have p435 : 0 ≤ (2 : Int) := (by omega)
           have q435 : 2 < (x7_1.length : Int) := oD_q (by assumption)
           obtain ⟨ad435, e435, hx435_0⟩ := aI_q (rR_q HO_7.out).2.2 2 p435 q435
           obtain rfl : ad434 = ad435 := (by injection e435)
           (try simp only [show (2 : Int).toNat = 2 from rfl, Nat.reduceMul, Nat.reduceEqDiff, Go.Addr.add, ↓reduceIte] at hx435_0)
           have qi435 : (2 < x7_1.length) = True := eq_true (by omega)
           (try rw [show ((2 : Int)).toNat = 2 from rfl] at hx435_0)
           replace p435 := eq_true p435
           replace q435 := eq_true q435
           have p436 : 0 ≤ (3 : Int) := (by omega)
           have q436 : 3 < (x7_1.length : Int) := oD_q (by assumption)
           obtain ⟨ad436, e436, hx436_0⟩ := aI_q (rR_q HO_7.out).2.2 3 p436 q436
           obtain rfl : ad434 = ad436 := (by injection e436)
           (try simp only [show (3 : Int).toNat = 3 from rfl, Nat.reduceMul, Nat.reduceEqDiff, Go.Addr.add, ↓reduceIte] at hx436_0)
           have qi436 : (3 < x7_1.length) = True := eq_true (by omega)
           (try rw [show ((3 : Int)).toNat = 3 from rfl] at hx436_0)
           replace p436 := eq_true p436
           replace q436 := eq_true q436
           obtain ⟨Ao63, co63, eo63⟩ := rS_q HO_0.out
           (first | subst eo63 | (injection eo63 with f1_ f2_ f3_; have f4_ := f1_.symm; have f5_ := f3_.symm; clear f1_ f2_ f3_; subst f4_; subst f5_))
           refine start_ (n := 18) (S := fun w' => w'.cell? ⟨ad434.block, ad434.off + 1, none⟩ = some (.int .i64 (rd x7_1 1)) ∧ w'.cell? ⟨ad434.block, ad434.off + 2, none⟩ = some (.int .i64 (rd x7_1 2)) ∧ w'.cell? ⟨ad434.block, ad434.off + 3, none⟩ = some (.int .i64 (rd x7_1 3))) (ds := []) #[false, false, false, false, false, false, false, false, false, false, false, false, false, false, false, false, false, false] m6_q rfl rfl ⟨hx434_0, hx435_0, hx436_0⟩ (fun hHeld => ?_); refine with_tabW spec_l51Line.tab15 spec_l51Line.bits15 (fun HT_ HW_ => ?_)
           generalize wc.drew = w61 at HO_0 HO_6 HO_7 HK HB hx434_0 hx435_0 hx436_0 hHeld ⊢
           refine pJ HT_ 0 83 rfl rfl ?_
           refine pJ HT_ 1 84 rfl rfl ?_
           refine pJ HT_ 2 85 rfl rfl ?_
           refine pJ HT_ 4 87 rfl rfl ?_
           refine pJ HT_ 5 88 rfl rfl ?_
           refine pJ HT_ 7 90 rfl rfl ?_
           refine pJ HT_ 8 91 rfl rfl ?_
           refine take_ (i := 3) (N := some 86) (v := ?_) (a' := ?_) #[true, true, true, true, true, true, false, true, true, false, false, false, false, false, false, false, false, false] rfl rfl (take_ofW HT_.out HW_.out m6_q) (fun _ _ _ h => h) (Or.inl ⟨by rfl, ?_⟩) hHeld ?_ ?_
           rotate_left
           ·rintro w' ⟨s0, s1, s2⟩
            go_simp
            with_reducible rfl
           rotate_left
           ·simp only [pS_q]
            rfl
           refine take_ (i := 6) (N := some 89) (v := ?_) (a' := ?_) #[true, true, true, true, true, true, true, true, true, false, false, false, false, false, false, false, false, false] rfl rfl (take_ofW HT_.out HW_.out m6_q) (fun _ _ _ h => h) (Or.inl ⟨by rfl, ?_⟩) hHeld ?_ ?_
           rotate_left
           ·rintro w' ⟨s0, s1, s2⟩
            go_simp
            with_reducible rfl
           rotate_left
           ·simp only [pS_q]
            rfl
           refine take_ (i := 9) (N := some 92) (v := ?_) (a' := ?_) #[true, true, true, true, true, true, true, true, true, true, false, false, false, false, false, false, false, false] rfl rfl (take_ofW HT_.out HW_.out m6_q) (fun _ _ _ h => h) (Or.inl ⟨by rfl, ?_⟩) hHeld ?_ ?_
           rotate_left
           ·rintro w' ⟨s0, s1, s2⟩
            go_simp
            with_reducible rfl
           rotate_left
           ·simp only [pS_q]
            rfl
           refine one_ (i := 10) (N := some 93) #[true, true, true, true, true, true, true, true, true, true, true, false, false, false, false, false, false, false] rfl rfl (one_of HT_.out m6_q) (by decide) (fun K hK => ?_)
           refine goes_ Tryd.func38 m6_q rfl #[.slice Ao63 l0.length co63, .int .i64 (rd x7_1 1), .int .i64 (rd x7_1 2), .int .i64 (rd x7_1 3)] (by rfl) rfl rfl m0_q ?_
           with_reducible refine (spec_StoreTake.calls kj42 _ _ l0 (rd x7_1 1) (rd x7_1 2) (rd x7_1 3) t437 t438 false _ ?side1 ?side2 A52.out).mono ?_
           (case side1 => exact m44_q)
           (case side2 => exact m47_q)
           rintro e w' ⟨v440, v442, rfl, ho0, ho1, hb⟩
           have HS0_ := (hb.cell (wL_q _ _ (hHeld.1))).trans (hHeld.1)
           have HS1_ := (hb.cell (wL_q _ _ (hHeld.2.1))).trans (hHeld.2.1)
           have HS2_ := (hb.cell (wL_q _ _ (hHeld.2.2))).trans (hHeld.2.2)
           refine ⟨_, rfl, ?_⟩
           replace HO_6 := Ae_q (rO_q (rup HO_6.out) hb)
           replace HO_7 := Ae_q (rO_q (rup HO_7.out) hb)
           have HO441 := Ae_q (rL_q (rW_q (Kd.R_newM (M := fun k_ => (P0_ k_ ∨ w.heap.size ≤ k_)) ho0 m4_q (fun k_ h_ => .inr h_)) (rT_q (rup HO_0.out))) (bZ_q (bel HB.out)))
           have HO443 := Ae_q (rL_q (rW_q (Kd.R_newM (M := fun k_ => (P0_ k_ ∨ w.heap.size ≤ k_)) ho1 m4_q (fun k_ h_ => .inr h_)) (rT_q (rup HO_0.out))) (bZ_q (bel HB.out)))
           replace HO_0 := Ae_q (rM_q (Kd.R_told (Kd.R_told (Kd.R_old (rup HO_0.out) hb) (rB_q ho0)) (rB_q ho1)) (fun _ h_ => h_.1))
           replace HK := Ae_q (Kept.below (S := (fun k_ => P0_ k_)) m1_q hb)
           replace HB := Ae_q (bT_q (bel HB.out) hb)
           (try clear hb)
           (try clear hb2)
           (try clear hk)
           (try clear hi)
           (try clear ho0)
           (try clear ho1)
           refine hK.out _ _ ⟨HS0_, HS1_, HS2_⟩ (fun hHeld => ?_)
           clear hK K
           refine nJ_q ?_
           refine pJ HT_ 11 82 rfl rfl ?_
           refine pJ HT_ 12 94 rfl rfl ?_
           refine pJ HT_ 13 95 rfl rfl ?_
           refine pJ HT_ 14 96 rfl rfl ?_
           refine pJ HT_ 15 11 rfl rfl ?_
           refine pJ HT_ 16 12 rfl rfl ?_
           refine pJ HT_ 17 13 rfl rfl ?_
           refine done_ (done_of HT_.out m6_q) ?_
           try go_wp2
           go_ret2
           exact ⟨_, m3_q, m69_q, bel HB.out, m1_q⟩
          subst c53
          have H1 : ((spec_l51Lots.f kj42 (⟨#[116, 111, 111, 107]⟩ : ByteArray) t438).bind fun t444 => (some (t437, t444))) = some (r1, r2) := by rw [if_pos rfl] at H; exact H
          clear H
          have H := H1
          clear H1
          replace H := oB_q.mp H
          obtain ⟨t444, A540, H⟩ := H
          replace H : (some (t437, t444)) = some (r1, r2) := H
          have A54 := Ae_q A540
          clear A540
          simp only [oE_q, pE_q] at H
          obtain ⟨rfl, rfl⟩ := H
          try go_wp2
          replace HO_0 := Ae_q (rD_q HO_0.out)
          replace HO_6 := Ae_q (rD_q HO_6.out)
          replace HO_7 := Ae_q (rD_q HO_7.out)
          replace HK := Ae_q (Kept.drew HK.out)
          replace HB := Ae_q (bD_q HB.out)
          obtain ⟨Ao56, co56, eo56⟩ := rS_q HO_7.out
          (first | subst eo56 | (injection eo56 with f1_ f2_ f3_; have f4_ := f1_.symm; have f5_ := f3_.symm; clear f1_ f2_ f3_; subst f4_; subst f5_))
          have p434 : 0 ≤ (1 : Int) := (by omega)
          have q434 : 1 < (x7_1.length : Int) := oD_q (by assumption)
          obtain ⟨ad434, e434, hx434_0⟩ := aI_q (rR_q HO_7.out).2.2 1 p434 q434
          cases e434
          (try simp only [show (1 : Int).toNat = 1 from rfl, Nat.reduceMul, Nat.reduceEqDiff, Go.Addr.add, ↓reduceIte] at hx434_0)
          have qi434 : (1 < x7_1.length) = True := eq_true (by omega)
          (try rw [show ((1 : Int)).toNat = 1 from rfl] at hx434_0)
          replace p434 := eq_true p434
          replace q434 := eq_true q434
          have p435 : 0 ≤ (2 : Int) := (by omega)
          have q435 : 2 < (x7_1.length : Int) := oD_q (by assumption)
          obtain ⟨ad435, e435, hx435_0⟩ := aI_q (rR_q HO_7.out).2.2 2 p435 q435
          obtain rfl : ad434 = ad435 := (by injection e435)
          (try simp only [show (2 : Int).toNat = 2 from rfl, Nat.reduceMul, Nat.reduceEqDiff, Go.Addr.add, ↓reduceIte] at hx435_0)
          have qi435 : (2 < x7_1.length) = True := eq_true (by omega)
          (try rw [show ((2 : Int)).toNat = 2 from rfl] at hx435_0)
          replace p435 := eq_true p435
          replace q435 := eq_true q435
          have p436 : 0 ≤ (3 : Int) := (by omega)
          have q436 : 3 < (x7_1.length : Int) := oD_q (by assumption)
          obtain ⟨ad436, e436, hx436_0⟩ := aI_q (rR_q HO_7.out).2.2 3 p436 q436
          obtain rfl : ad434 = ad436 := (by injection e436)
          (try simp only [show (3 : Int).toNat = 3 from rfl, Nat.reduceMul, Nat.reduceEqDiff, Go.Addr.add, ↓reduceIte] at hx436_0)
          have qi436 : (3 < x7_1.length) = True := eq_true (by omega)
          (try rw [show ((3 : Int)).toNat = 3 from rfl] at hx436_0)
          replace p436 := eq_true p436
          replace q436 := eq_true q436
          obtain ⟨Ao57, co57, eo57⟩ := rS_q HO_0.out
          (first | subst eo57 | (injection eo57 with f1_ f2_ f3_; have f4_ := f1_.symm; have f5_ := f3_.symm; clear f1_ f2_ f3_; subst f4_; subst f5_))
          refine start_ (n := 18) (S := fun w' => w'.cell? ⟨ad434.block, ad434.off + 1, none⟩ = some (.int .i64 (rd x7_1 1)) ∧ w'.cell? ⟨ad434.block, ad434.off + 2, none⟩ = some (.int .i64 (rd x7_1 2)) ∧ w'.cell? ⟨ad434.block, ad434.off + 3, none⟩ = some (.int .i64 (rd x7_1 3))) (ds := []) #[false, false, false, false, false, false, false, false, false, false, false, false, false, false, false, false, false, false] m6_q rfl rfl ⟨hx434_0, hx435_0, hx436_0⟩ (fun hHeld => ?_); refine with_tabW spec_l51Line.tab15 spec_l51Line.bits15 (fun HT_ HW_ => ?_)
          generalize wc.drew = w55 at HO_0 HO_6 HO_7 HK HB hx434_0 hx435_0 hx436_0 hHeld ⊢
          refine pJ HT_ 0 83 rfl rfl ?_
          refine pJ HT_ 1 84 rfl rfl ?_
          refine pJ HT_ 2 85 rfl rfl ?_
          refine pJ HT_ 4 87 rfl rfl ?_
          refine pJ HT_ 5 88 rfl rfl ?_
          refine pJ HT_ 7 90 rfl rfl ?_
          refine pJ HT_ 8 91 rfl rfl ?_
          refine take_ (i := 3) (N := some 86) (v := ?_) (a' := ?_) #[true, true, true, true, true, true, false, true, true, false, false, false, false, false, false, false, false, false] rfl rfl (take_ofW HT_.out HW_.out m6_q) (fun _ _ _ h => h) (Or.inl ⟨by rfl, ?_⟩) hHeld ?_ ?_
          rotate_left
          ·rintro w' ⟨s0, s1, s2⟩
           go_simp
           with_reducible rfl
          rotate_left
          ·simp only [pS_q]
           rfl
          refine take_ (i := 6) (N := some 89) (v := ?_) (a' := ?_) #[true, true, true, true, true, true, true, true, true, false, false, false, false, false, false, false, false, false] rfl rfl (take_ofW HT_.out HW_.out m6_q) (fun _ _ _ h => h) (Or.inl ⟨by rfl, ?_⟩) hHeld ?_ ?_
          rotate_left
          ·rintro w' ⟨s0, s1, s2⟩
           go_simp
           with_reducible rfl
          rotate_left
          ·simp only [pS_q]
           rfl
          refine take_ (i := 9) (N := some 92) (v := ?_) (a' := ?_) #[true, true, true, true, true, true, true, true, true, true, false, false, false, false, false, false, false, false] rfl rfl (take_ofW HT_.out HW_.out m6_q) (fun _ _ _ h => h) (Or.inl ⟨by rfl, ?_⟩) hHeld ?_ ?_
          rotate_left
          ·rintro w' ⟨s0, s1, s2⟩
           go_simp
           with_reducible rfl
          rotate_left
          ·simp only [pS_q]
           rfl
          refine one_ (i := 10) (N := some 93) #[true, true, true, true, true, true, true, true, true, true, true, false, false, false, false, false, false, false] rfl rfl (one_of HT_.out m6_q) (by decide) (fun K hK => ?_)
          refine goes_ Tryd.func38 m6_q rfl #[.slice Ao57 l0.length co57, .int .i64 (rd x7_1 1), .int .i64 (rd x7_1 2), .int .i64 (rd x7_1 3)] (by rfl) rfl rfl m0_q ?_
          with_reducible refine (spec_StoreTake.calls kj42 _ _ l0 (rd x7_1 1) (rd x7_1 2) (rd x7_1 3) t437 t438 true _ ?side1 ?side2 A52.out).mono ?_
          (case side1 => exact m44_q)
          (case side2 => exact m47_q)
          rintro e w' ⟨v440, v442, rfl, ho0, ho1, hb⟩
          have HS0_ := (hb.cell (wL_q _ _ (hHeld.1))).trans (hHeld.1)
          have HS1_ := (hb.cell (wL_q _ _ (hHeld.2.1))).trans (hHeld.2.1)
          have HS2_ := (hb.cell (wL_q _ _ (hHeld.2.2))).trans (hHeld.2.2)
          refine ⟨_, rfl, ?_⟩
          replace HO_6 := Ae_q (rO_q (rup HO_6.out) hb)
          replace HO_7 := Ae_q (rO_q (rup HO_7.out) hb)
          have HO441 := Ae_q (rL_q (rW_q (Kd.R_newM (M := fun k_ => (P0_ k_ ∨ w.heap.size ≤ k_)) ho0 m4_q (fun k_ h_ => .inr h_)) (rT_q (rup HO_0.out))) (bZ_q (bel HB.out)))
          have HO443 := Ae_q (rL_q (rW_q (Kd.R_newM (M := fun k_ => (P0_ k_ ∨ w.heap.size ≤ k_)) ho1 m4_q (fun k_ h_ => .inr h_)) (rT_q (rup HO_0.out))) (bZ_q (bel HB.out)))
          replace HO_0 := Ae_q (rM_q (Kd.R_told (Kd.R_told (Kd.R_old (rup HO_0.out) hb) (rB_q ho0)) (rB_q ho1)) (fun _ h_ => h_.1))
          replace HK := Ae_q (Kept.below (S := (fun k_ => P0_ k_)) m1_q hb)
          replace HB := Ae_q (bT_q (bel HB.out) hb)
          (try clear hb)
          (try clear hb2)
          (try clear hk)
          (try clear hi)
          (try clear ho0)
          (try clear ho1)
          refine hK.out _ _ ⟨HS0_, HS1_, HS2_⟩ (fun hHeld => ?_)
          clear hK K
          refine nJ_q ?_
          refine pJ HT_ 11 82 rfl rfl ?_
          refine pJ HT_ 12 94 rfl rfl ?_
          refine pJ HT_ 13 95 rfl rfl ?_
          refine pJ HT_ 14 96 rfl rfl ?_
          refine pJ HT_ 15 11 rfl rfl ?_
          refine pJ HT_ 16 12 rfl rfl ?_
          refine pJ HT_ 17 13 rfl rfl ?_
          refine done_ (done_of HT_.out m6_q) ?_
          obtain ⟨Ao59, co59, eo59⟩ := rS_q HO443.out
          subst eo59
          try go_wp2_with (first | ((with_reducible refine gC_q (f := 25) rfl ?_); refine gL_q (some 102) rfl rfl Tryd.func25 m6_q rfl #[.string (⟨#[116, 111, 111, 107]⟩ : ByteArray), .slice Ao59 t438.length co59] rfl m0_q ?_; (with_reducible refine (spec_l51Lots.calls kj42 (⟨#[116, 111, 111, 107]⟩ : ByteArray) _ _ t438 t444 _ ?side1 ?side2 A54.out).mono ?_); (case side1 => exact cup (rR_q HO443.out).2.2); (case side2 => exact (rR_q HO443.out).2.1); rintro e w' ⟨rfl, hb⟩; refine ⟨_, rfl, ?_⟩; replace HO_0 := Ae_q (rO_q (rup HO_0.out) hb); replace HO_6 := Ae_q (rO_q (rup HO_6.out) hb); replace HO_7 := Ae_q (rO_q (rup HO_7.out) hb); replace HO441 := Ae_q (rO_q (rup HO441.out) hb); replace HO443 := Ae_q (rO_q (rup HO443.out) hb); replace HK := Ae_q (Kept.below (S := (fun k_ => P0_ k_)) m1_q hb); replace HB := Ae_q (bT_q (bel HB.out) hb); (try clear hb); (try clear hb2); (try clear hk); (try clear hi)))
          go_ret2
          exact ⟨_, m3_q, by (with_reducible repeat (first | apply rA_q | apply rN_q | apply rD_q)); exact rM_q HO441.out (fun _ hk => hk.1.1), bel HB.out, m1_q⟩
         replace c48 := fM_q.mpr c48
         subst c48
         have H1 : (if 0 < (t415.length : Int) then (if (rdOf ByteArray.empty t415 0).toList = ([100, 114, 111, 112] : List UInt8) then (spec_l51Line.j4 kj42 l0 t415 x7_1 ((t415.length : Int) == 2)) else (spec_l51Line.j4 kj42 l0 t415 x7_1 false)) else (none)) = some (r1, r2) := by rw [if_neg (show ¬ (false = true) by decide)] at H; exact H
         clear H
         have H := H1
         clear H1
         have HC65 := Ae_q H
         clear H
         go_upto_region 19 with (fail)
         go_cut [103] (fun v103 wc => ∃ (kq : Nat) (x103_64 : Bool), v103 = .bool x103_64 ∧ Aside0 (spec_l51Line.j4 kq l0 t415 x7_1 x103_64 = some (r1, r2)) ∧ Aside0 (kq ≤ kj42) ∧ Aside0 (Kd.R k49 49 wc w0.heap.size (fun k_ => (P0_ k_ ∨ w.heap.size ≤ k_)) u9000_ l0) ∧ Aside0 (Kd.R Kd.string 9 wc w0.heap.size (fun k_ => (P0_ k_ ∨ w.heap.size ≤ k_)) v416 t415) ∧ Aside0 (Kd.R (Kd.int .i64) 3 wc w0.heap.size (fun k_ => (P0_ k_ ∨ w.heap.size ≤ k_)) v419 x7_1) ∧ Aside0 (Kept w wc (fun k_ => P0_ k_)) ∧ Aside0 (Below w0.heap.size w0 wc))
         case first =>
          have H := HC65.out
          clear HC65
          by_cases c66 : 0 < (t415.length : Int)
          rotate_left
          ·rw [if_neg c66] at H
           exact absurd H (by simp)
          rw [if_pos c66] at H
          have c66b0 : decide (0 < (t415.length : Int)) = true := dT_q c66
          have c66b1 : decide (0 < t415.length) = true := dT_q (by omega)
          clear c66
          (first | rw [c66b0] | (simp only [i64_w, i32_w]; rw [c66b0]) | skip)
          by_cases c67 : (rdOf ByteArray.empty t415 0).toList = ([100, 114, 111, 112] : List UInt8)
          ·rw [if_pos c67] at H
           have c67b0 : ((rdOf ByteArray.empty t415 0).toList == ([100, 114, 111, 112] : List UInt8)) = true := beq_iff_eq.mpr c67
           have c67b1 : ((rdOf ByteArray.empty t415 0).toList != ([100, 114, 111, 112] : List UInt8)) = false := nE_q.mpr c67
           clear c67
           have H' := Ae_q H
           clear H
           obtain ⟨Ao68, co68, eo68⟩ := rS_q HO_6.out
           subst eo68
           have p445 : 0 ≤ (0 : Int) := (by omega)
           have q445 : 0 < (t415.length : Int) := oD_q (by assumption)
           obtain ⟨ad445, e445, hx445_0⟩ := Kd.at_string (rR_q HO_6.out).2.2 0 p445 q445
           cases e445
           have qi445 : (0 < t415.length) = True := eq_true (by omega)
           (try rw [show ((0 : Int)).toNat = 0 from rfl] at hx445_0)
           (try rw [Addr.add_zero'] at hx445_0)
           replace p445 := eq_true p445
           replace q445 := eq_true q445
           go_wp2
           go_meet
           case rel => exact ⟨_, (((t415.length : Int) == 2)), m2_q, H', ⟨m81_q⟩, ⟨rup HO_0.out⟩, ⟨rup HO_6.out⟩, ⟨rup HO_7.out⟩, ⟨m1_q⟩, ⟨bel HB.out⟩⟩
          rw [if_neg c67] at H
          have c67b0 : ((rdOf ByteArray.empty t415 0).toList == ([100, 114, 111, 112] : List UInt8)) = false := fN_q.mpr c67
          have c67b1 : ((rdOf ByteArray.empty t415 0).toList != ([100, 114, 111, 112] : List UInt8)) = true := nI_q.mpr c67
          have H' := Ae_q H
          clear H
          obtain ⟨Ao69, co69, eo69⟩ := rS_q HO_6.out
          subst eo69
          have p445 : 0 ≤ (0 : Int) := (by omega)
          have q445 : 0 < (t415.length : Int) := oD_q (by assumption)
          obtain ⟨ad445, e445, hx445_0⟩ := Kd.at_string (rR_q HO_6.out).2.2 0 p445 q445
          cases e445
          have qi445 : (0 < t415.length) = True := eq_true (by omega)
          (try rw [show ((0 : Int)).toNat = 0 from rfl] at hx445_0)
          (try rw [Addr.add_zero'] at hx445_0)
          replace p445 := eq_true p445
          replace q445 := eq_true q445
          go_wp2
          go_meet
          case rel => exact ⟨_, (false), m2_q, H', ⟨m81_q⟩, ⟨rup HO_0.out⟩, ⟨rup HO_6.out⟩, ⟨rup HO_7.out⟩, ⟨m1_q⟩, ⟨bel HB.out⟩⟩
         case rest =>
          clear HC65
          try clear q1
          try clear c2
          try clear p2
          try clear c3
          try clear c4
          try clear p4
          try clear q4
          try clear hx4
          try clear qi4
          try clear c5
          try clear c6
          try clear p6
          try clear q16
          try clear c25
          try clear c38
          try clear q42
          try clear p43
          try clear q43
          try clear hx43
          try clear qi43
          try clear p44
          try clear q44
          try clear hx44
          try clear qi44
          try clear c48
          try clear c49
          try clear c49b0
          try clear c49b1
          try clear c50
          try clear c50b0
          try clear c50b1
          try clear c51
          try clear c51b0
          try clear c51b1
          try clear c53
          try clear c66
          try clear c66b0
          try clear c66b1
          try clear c67
          try clear c67b0
          try clear c67b1
          try clear hx434_0
          try clear hx435_0
          try clear hx436_0
          try clear hx445_0
          try clear p434
          try clear p435
          try clear p436
          try clear p445
          try clear p6
          try clear q16
          try clear q421
          try clear q424
          try clear q425
          try clear q426
          try clear q427
          try clear q428
          try clear q433
          try clear q434
          try clear q435
          try clear q436
          try clear q445
          obtain ⟨kq, x103_64, rfl, HA, HJ64, HO_0, HO_6, HO_7, HK, HB⟩ := hcut
          cases kq with
          | zero => exact absurd HA.out (by simp [spec_l51Line.j4])
          | succ kj64 =>
           have H := HA.out
           clear HA
           simp only [spec_l51Line.j4] at H
           by_cases c70 : x103_64 = true
           ·subst c70
            have H1 : (if 1 < (x7_1.length : Int) then ((spec_StoreDrop.f kj64 l0 (rd x7_1 1)).bind fun bt447 => ((spec_l51Lots.f kj64 (⟨#[100, 114, 111, 112, 112, 101, 100]⟩ : ByteArray) bt447.2).bind fun t453 => (some (bt447.1, t453)))) else (none)) = some (r1, r2) := by rw [if_pos rfl] at H; exact H
            clear H
            have H := H1
            clear H1
            by_cases c71 : 1 < (x7_1.length : Int)
            rotate_left
            ·rw [if_neg c71] at H
             exact absurd H (by simp)
            rw [if_pos c71] at H
            have c71b0 : decide (1 < (x7_1.length : Int)) = true := dT_q c71
            have c71b1 : decide (1 < x7_1.length) = true := dT_q (by omega)
            clear c71
            replace H := oB_q.mp H
            obtain ⟨⟨t447, t448⟩, A720, H⟩ := H
            replace H : ((spec_l51Lots.f kj64 (⟨#[100, 114, 111, 112, 112, 101, 100]⟩ : ByteArray) t448).bind fun t453 => (some (t447, t453))) = some (r1, r2) := H
            have A72 := Ae_q A720
            clear A720
            replace H := oB_q.mp H
            obtain ⟨t453, A730, H⟩ := H
            replace H : (some (t447, t453)) = some (r1, r2) := H
            have A73 := Ae_q A730
            clear A730
            simp only [oE_q, pE_q] at H
            obtain ⟨rfl, rfl⟩ := H
            obtain ⟨Ao74, co74, eo74⟩ := rS_q HO_7.out
            subst eo74
            have p446 : 0 ≤ (1 : Int) := (by omega)
            have q446 : 1 < (x7_1.length : Int) := oD_q (by assumption)
            obtain ⟨ad446, e446, hx446_0⟩ := aI_q (rR_q HO_7.out).2.2 1 p446 q446
            cases e446
            (try simp only [show (1 : Int).toNat = 1 from rfl, Nat.reduceMul, Nat.reduceEqDiff, Go.Addr.add, ↓reduceIte] at hx446_0)
            have qi446 : (1 < x7_1.length) = True := eq_true (by omega)
            (try rw [show ((1 : Int)).toNat = 1 from rfl] at hx446_0)
            replace p446 := eq_true p446
            replace q446 := eq_true q446
            obtain ⟨Ao75, co75, eo75⟩ := rS_q HO_0.out
            subst eo75
            go_wp2_with (first | ((with_reducible refine gC_q (f := 39) rfl ?_); refine gL_q (some 118) rfl rfl Tryd.func39 m6_q rfl #[.slice Ao75 l0.length co75, .int .i64 (rd x7_1 1)] rfl m0_q ?_; (with_reducible refine (spec_StoreDrop.calls kj64 _ _ l0 (rd x7_1 1) t447 t448 _ ?side1 ?side2 A72.out).mono ?_); (case side1 => exact m44_q); (case side2 => exact m47_q); rintro e w' ⟨v449, v451, rfl, ho0, ho1, hb⟩; refine ⟨_, rfl, ?_⟩; replace HO_6 := Ae_q (rO_q (rup HO_6.out) hb); replace HO_7 := Ae_q (rO_q (rup HO_7.out) hb); have HO450 := Ae_q (rL_q (rW_q (Kd.R_newM (M := fun k_ => (P0_ k_ ∨ w.heap.size ≤ k_)) ho0 m4_q (fun k_ h_ => .inr h_)) (rT_q (rup HO_0.out))) (bZ_q (bel HB.out))); have HO452 := Ae_q (rL_q (rW_q (Kd.R_newM (M := fun k_ => (P0_ k_ ∨ w.heap.size ≤ k_)) ho1 m4_q (fun k_ h_ => .inr h_)) (rT_q (rup HO_0.out))) (bZ_q (bel HB.out))); replace HO_0 := Ae_q (rM_q (Kd.R_told (Kd.R_told (Kd.R_old (rup HO_0.out) hb) (rB_q ho0)) (rB_q ho1)) (fun _ h_ => h_.1)); replace HK := Ae_q (Kept.below (S := (fun k_ => P0_ k_)) m1_q hb); replace HB := Ae_q (bT_q (bel HB.out) hb); (try clear hb); (try clear hb2); (try clear hk); (try clear hi); (try clear ho0); (try clear ho1); obtain ⟨Ao77, co77, eo77⟩ := rS_q HO452.out; subst eo77) | ((with_reducible refine gC_q (f := 25) rfl ?_); refine gL_q (some 123) rfl rfl Tryd.func25 m6_q rfl #[.string (⟨#[100, 114, 111, 112, 112, 101, 100]⟩ : ByteArray), .slice Ao77 t448.length co77] rfl m0_q ?_; (with_reducible refine (spec_l51Lots.calls kj64 (⟨#[100, 114, 111, 112, 112, 101, 100]⟩ : ByteArray) _ _ t448 t453 _ ?side1 ?side2 A73.out).mono ?_); (case side1 => exact cup (rR_q HO452.out).2.2); (case side2 => exact (rR_q HO452.out).2.1); rintro e w' ⟨rfl, hb⟩; refine ⟨_, rfl, ?_⟩; replace HO_0 := Ae_q (rO_q (rup HO_0.out) hb); replace HO_6 := Ae_q (rO_q (rup HO_6.out) hb); replace HO_7 := Ae_q (rO_q (rup HO_7.out) hb); replace HO450 := Ae_q (rO_q (rup HO450.out) hb); replace HO452 := Ae_q (rO_q (rup HO452.out) hb); replace HK := Ae_q (Kept.below (S := (fun k_ => P0_ k_)) m1_q hb); replace HB := Ae_q (bT_q (bel HB.out) hb); (try clear hb); (try clear hb2); (try clear hk); (try clear hi)))
            go_ret2
            exact ⟨_, m3_q, by (with_reducible repeat (first | apply rA_q | apply rN_q | apply rD_q)); exact rM_q HO450.out (fun _ hk => hk.1.1), bel HB.out, m1_q⟩
           replace c70 := fM_q.mpr c70
           subst c70
           have H1 : (if 0 < (t415.length : Int) then (if (rdOf ByteArray.empty t415 0).toList = ([104, 97, 118, 101] : List UInt8) then (spec_l51Line.j5 kj64 l0 t415 x7_1 ((t415.length : Int) == 3)) else (spec_l51Line.j5 kj64 l0 t415 x7_1 false)) else (none)) = some (r1, r2) := by rw [if_neg (show ¬ (false = true) by decide)] at H; exact H
           clear H
           have H := H1
           clear H1
           have HC79 := Ae_q H
           clear H
           go_upto_region 22 with (fail)
           go_cut [124] (fun v124 wc => ∃ (kq : Nat) (x124_78 : Bool), v124 = .bool x124_78 ∧ Aside0 (spec_l51Line.j5 kq l0 t415 x7_1 x124_78 = some (r1, r2)) ∧ Aside0 (kq ≤ kj64) ∧ Aside0 (Kd.R k49 49 wc w0.heap.size (fun k_ => (P0_ k_ ∨ w.heap.size ≤ k_)) u9000_ l0) ∧ Aside0 (Kd.R Kd.string 9 wc w0.heap.size (fun k_ => (P0_ k_ ∨ w.heap.size ≤ k_)) v416 t415) ∧ Aside0 (Kd.R (Kd.int .i64) 3 wc w0.heap.size (fun k_ => (P0_ k_ ∨ w.heap.size ≤ k_)) v419 x7_1) ∧ Aside0 (Kept w wc (fun k_ => P0_ k_)) ∧ Aside0 (Below w0.heap.size w0 wc))
           case first =>
            have H := HC79.out
            clear HC79
            by_cases c80 : 0 < (t415.length : Int)
            rotate_left
            ·rw [if_neg c80] at H
             exact absurd H (by simp)
            rw [if_pos c80] at H
            have c80b0 : decide (0 < (t415.length : Int)) = true := dT_q c80
            have c80b1 : decide (0 < t415.length) = true := dT_q (by omega)
            clear c80
            (first | rw [c80b0] | (simp only [i64_w, i32_w]; rw [c80b0]) | skip)
            by_cases c81 : (rdOf ByteArray.empty t415 0).toList = ([104, 97, 118, 101] : List UInt8)
            ·rw [if_pos c81] at H
             have c81b0 : ((rdOf ByteArray.empty t415 0).toList == ([104, 97, 118, 101] : List UInt8)) = true := beq_iff_eq.mpr c81
             have c81b1 : ((rdOf ByteArray.empty t415 0).toList != ([104, 97, 118, 101] : List UInt8)) = false := nE_q.mpr c81
             clear c81
             have H' := Ae_q H
             clear H
             obtain ⟨Ao82, co82, eo82⟩ := rS_q HO_6.out
             subst eo82
             have p454 : 0 ≤ (0 : Int) := (by omega)
             have q454 : 0 < (t415.length : Int) := oD_q (by assumption)
             obtain ⟨ad454, e454, hx454_0⟩ := Kd.at_string (rR_q HO_6.out).2.2 0 p454 q454
             cases e454
             have qi454 : (0 < t415.length) = True := eq_true (by omega)
             (try rw [show ((0 : Int)).toNat = 0 from rfl] at hx454_0)
             (try rw [Addr.add_zero'] at hx454_0)
             replace p454 := eq_true p454
             replace q454 := eq_true q454
             go_wp2
             go_meet
             case rel => exact ⟨_, (((t415.length : Int) == 3)), m2_q, H', ⟨m65_q⟩, ⟨rup HO_0.out⟩, ⟨rup HO_6.out⟩, ⟨rup HO_7.out⟩, ⟨m1_q⟩, ⟨bel HB.out⟩⟩
            rw [if_neg c81] at H
            have c81b0 : ((rdOf ByteArray.empty t415 0).toList == ([104, 97, 118, 101] : List UInt8)) = false := fN_q.mpr c81
            have c81b1 : ((rdOf ByteArray.empty t415 0).toList != ([104, 97, 118, 101] : List UInt8)) = true := nI_q.mpr c81
            have H' := Ae_q H
            clear H
            obtain ⟨Ao83, co83, eo83⟩ := rS_q HO_6.out
            subst eo83
            have p454 : 0 ≤ (0 : Int) := (by omega)
            have q454 : 0 < (t415.length : Int) := oD_q (by assumption)
            obtain ⟨ad454, e454, hx454_0⟩ := Kd.at_string (rR_q HO_6.out).2.2 0 p454 q454
            cases e454
            have qi454 : (0 < t415.length) = True := eq_true (by omega)
            (try rw [show ((0 : Int)).toNat = 0 from rfl] at hx454_0)
            (try rw [Addr.add_zero'] at hx454_0)
            replace p454 := eq_true p454
            replace q454 := eq_true q454
            go_wp2
            go_meet
            case rel => exact ⟨_, (false), m2_q, H', ⟨m65_q⟩, ⟨rup HO_0.out⟩, ⟨rup HO_6.out⟩, ⟨rup HO_7.out⟩, ⟨m1_q⟩, ⟨bel HB.out⟩⟩
           case rest =>
            clear HC79
            try clear q1
            try clear c2
            try clear p2
            try clear c3
            try clear c4
            try clear p4
            try clear q4
            try clear hx4
            try clear qi4
            try clear c5
            try clear c6
            try clear p6
            try clear c7
            try clear c8
            try clear q16
            try clear c25
            try clear c38
            try clear c39
            try clear q42
            try clear p43
            try clear q43
            try clear hx43
            try clear qi43
            try clear p44
            try clear q44
            try clear hx44
            try clear qi44
            try clear p45
            try clear q45
            try clear hx45
            try clear qi45
            try clear c48
            try clear c49
            try clear c49b0
            try clear c49b1
            try clear c50
            try clear c50b0
            try clear c50b1
            try clear c51
            try clear c51b0
            try clear c51b1
            try clear c53
            try clear c66
            try clear c66b0
            try clear c66b1
            try clear c67
            try clear c67b0
            try clear c67b1
            try clear c70
            try clear c71
            try clear c71b0
            try clear c71b1
            try clear c80
            try clear c80b0
            try clear c80b1
            try clear c81
            try clear c81b0
            try clear c81b1
            try clear hx434_0
            try clear hx435_0
            try clear hx436_0
            try clear hx445_0
            try clear hx446_0
            try clear hx454_0
            try clear p2
            try clear p4
            try clear p43
            try clear p434
            try clear p435
            try clear p436
            try clear p44
            try clear p445
            try clear p446
            try clear p454
            try clear p6
            try clear q1
            try clear q16
            try clear q4
            try clear q42
            try clear q421
            try clear q424
            try clear q425
            try clear q426
            try clear q427
            try clear q428
            try clear q43
            try clear q433
            try clear q434
            try clear q435
            try clear q436
            try clear q44
            try clear q445
            try clear q446
            try clear q454
            obtain ⟨kq, x124_78, rfl, HA, HJ78, HO_0, HO_6, HO_7, HK, HB⟩ := hcut
            cases kq with
            | zero => exact absurd HA.out (by simp [spec_l51Line.j5])
            | succ kj78 =>
             have H := HA.out
             clear HA
             simp only [spec_l51Line.j5] at H
             by_cases c84 : x124_78 = true
             rotate_left
             ·replace c84 := fM_q.mpr c84
              subst c84
              have H1 : (if 0 < (t415.length : Int) then (if (rdOf ByteArray.empty t415 0).toList = ([115, 104, 111, 119] : List UInt8) then (if (t415.length : Int) = 1 then ((spec_l51Lots.f kj78 (⟨#[108, 111, 116, 115]⟩ : ByteArray) l0).bind fun t460 => (some (l0, t460))) else (some (l0, (⟨#[119, 104, 97, 116, 10]⟩ : ByteArray)))) else (some (l0, (⟨#[119, 104, 97, 116, 10]⟩ : ByteArray)))) else (none)) = some (r1, r2) := by rw [if_neg (show ¬ (false = true) by decide)] at H; exact H
              clear H
              have H := H1
              clear H1
              by_cases c96 : 0 < (t415.length : Int)
              rotate_left
              ·rw [if_neg c96] at H
               exact absurd H (by simp)
              rw [if_pos c96] at H
              have c96b0 : decide (0 < (t415.length : Int)) = true := dT_q c96
              have c96b1 : decide (0 < t415.length) = true := dT_q (by omega)
              clear c96
              by_cases c97 : (rdOf ByteArray.empty t415 0).toList = ([115, 104, 111, 119] : List UInt8)
              rotate_left
              ·rw [if_neg c97] at H
               have c97b0 : ((rdOf ByteArray.empty t415 0).toList == ([115, 104, 111, 119] : List UInt8)) = false := fN_q.mpr c97
               have c97b1 : ((rdOf ByteArray.empty t415 0).toList != ([115, 104, 111, 119] : List UInt8)) = true := nI_q.mpr c97
               simp only [oE_q, pE_q] at H
               obtain ⟨rfl, rfl⟩ := H
               obtain ⟨Ao104, co104, eo104⟩ := rS_q HO_6.out
               subst eo104
               have p459 : 0 ≤ (0 : Int) := (by omega)
               have q459 : 0 < (t415.length : Int) := oD_q (by assumption)
               obtain ⟨ad459, e459, hx459_0⟩ := Kd.at_string (rR_q HO_6.out).2.2 0 p459 q459
               cases e459
               have qi459 : (0 < t415.length) = True := eq_true (by omega)
               (try rw [show ((0 : Int)).toNat = 0 from rfl] at hx459_0)
               (try rw [Addr.add_zero'] at hx459_0)
               replace p459 := eq_true p459
               replace q459 := eq_true q459
               go_wp2
               go_ret2
               exact ⟨_, m3_q, rup HO_0.out, bel HB.out, m1_q⟩
              rw [if_pos c97] at H
              have c97b0 : ((rdOf ByteArray.empty t415 0).toList == ([115, 104, 111, 119] : List UInt8)) = true := beq_iff_eq.mpr c97
              have c97b1 : ((rdOf ByteArray.empty t415 0).toList != ([115, 104, 111, 119] : List UInt8)) = false := nE_q.mpr c97
              clear c97
              by_cases c98 : (t415.length : Int) = 1
              rotate_left
              ·rw [if_neg c98] at H
               have c98b0 : ((t415.length : Int) == 1) = false := fN_q.mpr c98
               have c98b1 : ((t415.length : Int) != 1) = true := nI_q.mpr c98
               simp only [oE_q, pE_q] at H
               obtain ⟨rfl, rfl⟩ := H
               obtain ⟨Ao103, co103, eo103⟩ := rS_q HO_6.out
               subst eo103
               have p459 : 0 ≤ (0 : Int) := (by omega)
               have q459 : 0 < (t415.length : Int) := oD_q (by assumption)
               obtain ⟨ad459, e459, hx459_0⟩ := Kd.at_string (rR_q HO_6.out).2.2 0 p459 q459
               cases e459
               have qi459 : (0 < t415.length) = True := eq_true (by omega)
               (try rw [show ((0 : Int)).toNat = 0 from rfl] at hx459_0)
               (try rw [Addr.add_zero'] at hx459_0)
               replace p459 := eq_true p459
               replace q459 := eq_true q459
               go_wp2
               go_ret2
               exact ⟨_, m3_q, rup HO_0.out, bel HB.out, m1_q⟩
              rw [if_pos c98] at H
              have c98b0 : ((t415.length : Int) == 1) = true := beq_iff_eq.mpr c98
              have c98b1 : ((t415.length : Int) != 1) = false := nE_q.mpr c98
              clear c98
              replace H := oB_q.mp H
              obtain ⟨t460, A990, H⟩ := H
              replace H : (some (l0, t460)) = some (r1, r2) := H
              have A99 := Ae_q A990
              clear A990
              simp only [oE_q, pE_q] at H
              obtain ⟨rfl, rfl⟩ := H
              obtain ⟨Ao100, co100, eo100⟩ := rS_q HO_6.out
              subst eo100
              have p459 : 0 ≤ (0 : Int) := (by omega)
              have q459 : 0 < (t415.length : Int) := oD_q (by assumption)
              obtain ⟨ad459, e459, hx459_0⟩ := Kd.at_string (rR_q HO_6.out).2.2 0 p459 q459
              cases e459
              have qi459 : (0 < t415.length) = True := eq_true (by omega)
              (try rw [show ((0 : Int)).toNat = 0 from rfl] at hx459_0)
              (try rw [Addr.add_zero'] at hx459_0)
              replace p459 := eq_true p459
              replace q459 := eq_true q459
              obtain ⟨Ao101, co101, eo101⟩ := rS_q HO_0.out
              subst eo101
              go_wp2_with (first | ((with_reducible refine gC_q (f := 25) rfl ?_); refine gL_q (some 158) rfl rfl Tryd.func25 m6_q rfl #[.string (⟨#[108, 111, 116, 115]⟩ : ByteArray), .slice Ao101 l0.length co101] rfl m0_q ?_; (with_reducible refine (spec_l51Lots.calls kj78 (⟨#[108, 111, 116, 115]⟩ : ByteArray) _ _ l0 t460 _ ?side1 ?side2 A99.out).mono ?_); (case side1 => exact m44_q); (case side2 => exact m47_q); rintro e w' ⟨rfl, hb⟩; refine ⟨_, rfl, ?_⟩; replace HO_0 := Ae_q (rO_q (rup HO_0.out) hb); replace HO_6 := Ae_q (rO_q (rup HO_6.out) hb); replace HO_7 := Ae_q (rO_q (rup HO_7.out) hb); replace HK := Ae_q (Kept.below (S := (fun k_ => P0_ k_)) m1_q hb); replace HB := Ae_q (bT_q (bel HB.out) hb); (try clear hb); (try clear hb2); (try clear hk); (try clear hi)))
              go_ret2
              exact ⟨_, m3_q, rup HO_0.out, bel HB.out, m1_q⟩
             subst c84
             have H1 : (if 1 < (x7_1.length : Int) then (if 2 < (x7_1.length : Int) then ((spec_StoreHas.f kj78 l0 (rd x7_1 1) (rd x7_1 2)).bind fun t457 => ((spec_l6Dec.f kj78 t457).bind fun t458 => (if 5 + t458.size ≤ 9223372036854775807 then (if ((⟨#[104, 97, 118, 101, 32]⟩ : ByteArray) ++ t458).size + 1 ≤ 9223372036854775807 then (some (l0, ((⟨#[104, 97, 118, 101, 32]⟩ : ByteArray) ++ t458) ++ (⟨#[10]⟩ : ByteArray))) else (none)) else (none)))) else (none)) else (none)) = some (r1, r2) := by rw [if_pos rfl] at H; exact H
             clear H
             have H := H1
             clear H1
             by_cases c85 : 1 < (x7_1.length : Int)
             rotate_left
             ·rw [if_neg c85] at H
              exact absurd H (by simp)
             rw [if_pos c85] at H
             have c85b0 : decide (1 < (x7_1.length : Int)) = true := dT_q c85
             have c85b1 : decide (1 < x7_1.length) = true := dT_q (by omega)
             clear c85
             by_cases c86 : 2 < (x7_1.length : Int)
             rotate_left
             ·rw [if_neg c86] at H
              exact absurd H (by simp)
             rw [if_pos c86] at H
             have c86b0 : decide (2 < (x7_1.length : Int)) = true := dT_q c86
             have c86b1 : decide (2 < x7_1.length) = true := dT_q (by omega)
             clear c86
             replace H := oB_q.mp H
             obtain ⟨t457, A870, H⟩ := H
             replace H : ((spec_l6Dec.f kj78 t457).bind fun t458 => (if 5 + t458.size ≤ 9223372036854775807 then (if ((⟨#[104, 97, 118, 101, 32]⟩ : ByteArray) ++ t458).size + 1 ≤ 9223372036854775807 then (some (l0, ((⟨#[104, 97, 118, 101, 32]⟩ : ByteArray) ++ t458) ++ (⟨#[10]⟩ : ByteArray))) else (none)) else (none))) = some (r1, r2) := H
             have A87 := Ae_q A870
             clear A870
             replace H := oB_q.mp H
             obtain ⟨t458, A880, H⟩ := H
             replace H : (if 5 + t458.size ≤ 9223372036854775807 then (if ((⟨#[104, 97, 118, 101, 32]⟩ : ByteArray) ++ t458).size + 1 ≤ 9223372036854775807 then (some (l0, ((⟨#[104, 97, 118, 101, 32]⟩ : ByteArray) ++ t458) ++ (⟨#[10]⟩ : ByteArray))) else (none)) else (none)) = some (r1, r2) := H
             have A88 := Ae_q A880
             clear A880
             by_cases c89 : 5 + t458.size ≤ 9223372036854775807
             rotate_left
             ·rw [if_neg c89] at H
              exact absurd H (by simp)
             rw [if_pos c89] at H
             have c89b0 := eq_true c89
             have c89b1 : decide (5 + t458.size ≤ 9223372036854775807) = true := dT_q c89
             try have c89b2 : (9223372036854775807 < 5 + t458.size) = False := eq_false (Nat.not_lt.2 c89)
             by_cases c90 : ((⟨#[104, 97, 118, 101, 32]⟩ : ByteArray) ++ t458).size + 1 ≤ 9223372036854775807
             rotate_left
             ·rw [if_neg c90] at H
              exact absurd H (by simp)
             rw [if_pos c90] at H
             have c90b0 := eq_true c90
             have c90b1 : decide (((⟨#[104, 97, 118, 101, 32]⟩ : ByteArray) ++ t458).size + 1 ≤ 9223372036854775807) = true := dT_q c90
             try have c90b2 : (9223372036854775807 < ((⟨#[104, 97, 118, 101, 32]⟩ : ByteArray) ++ t458).size + 1) = False := eq_false (Nat.not_lt.2 c90)
             have c90b3 : (9223372036854775807 < 5 + t458.size + 1) = False := eq_false (by have h_ := c90; have e0_ : (⟨#[104, 97, 118, 101, 32]⟩ : ByteArray).size = 5 := rfl; simp only [ByteArray.size_append, e0_] at h_; omega)
             simp only [oE_q, pE_q] at H
             obtain ⟨rfl, rfl⟩ := H
             try go_wp2
             replace HO_0 := Ae_q (rD_q HO_0.out)
             replace HO_6 := Ae_q (rD_q HO_6.out)
             replace HO_7 := Ae_q (rD_q HO_7.out)
             replace HK := Ae_q (Kept.drew HK.out)
             replace HB := Ae_q (bD_q HB.out)
             obtain ⟨Ao92, co92, eo92⟩ := rS_q HO_7.out
             (first | subst eo92 | (injection eo92 with f1_ f2_ f3_; have f4_ := f1_.symm; have f5_ := f3_.symm; clear f1_ f2_ f3_; subst f4_; subst f5_))
             have p455 : 0 ≤ (1 : Int) := (by omega)
             have q455 : 1 < (x7_1.length : Int) := oD_q (by assumption)
             obtain ⟨ad455, e455, hx455_0⟩ := aI_q (rR_q HO_7.out).2.2 1 p455 q455
             cases e455
             (try simp only [show (1 : Int).toNat = 1 from rfl, Nat.reduceMul, Nat.reduceEqDiff, Go.Addr.add, ↓reduceIte] at hx455_0)
             have qi455 : (1 < x7_1.length) = True := eq_true (by omega)
             (try rw [show ((1 : Int)).toNat = 1 from rfl] at hx455_0)
             replace p455 := eq_true p455
             replace q455 := eq_true q455
             have p456 : 0 ≤ (2 : Int) := (by omega)
             have q456 : 2 < (x7_1.length : Int) := oD_q (by assumption)
             obtain ⟨ad456, e456, hx456_0⟩ := aI_q (rR_q HO_7.out).2.2 2 p456 q456
             obtain rfl : ad455 = ad456 := (by injection e456)
             (try simp only [show (2 : Int).toNat = 2 from rfl, Nat.reduceMul, Nat.reduceEqDiff, Go.Addr.add, ↓reduceIte] at hx456_0)
             have qi456 : (2 < x7_1.length) = True := eq_true (by omega)
             (try rw [show ((2 : Int)).toNat = 2 from rfl] at hx456_0)
             replace p456 := eq_true p456
             replace q456 := eq_true q456
             obtain ⟨Ao93, co93, eo93⟩ := rS_q HO_0.out
             (first | subst eo93 | (injection eo93 with f1_ f2_ f3_; have f4_ := f1_.symm; have f5_ := f3_.symm; clear f1_ f2_ f3_; subst f4_; subst f5_))
             refine start_ (n := 14) (S := fun w' => w'.cell? ⟨ad455.block, ad455.off + 1, none⟩ = some (.int .i64 (rd x7_1 1)) ∧ w'.cell? ⟨ad455.block, ad455.off + 2, none⟩ = some (.int .i64 (rd x7_1 2))) (ds := []) #[false, false, false, false, false, false, false, false, false, false, false, false, false, false] m6_q rfl rfl ⟨hx455_0, hx456_0⟩ (fun hHeld => ?_); refine with_tabW spec_l51Line.tab23 spec_l51Line.bits23 (fun HT_ HW_ => ?_)
             generalize wc.drew = w91 at HO_0 HO_6 HO_7 HK HB hx455_0 hx456_0 hHeld ⊢
             refine pJ HT_ 0 134 rfl rfl ?_
             refine pJ HT_ 1 135 rfl rfl ?_
             refine pJ HT_ 2 136 rfl rfl ?_
             refine pJ HT_ 3 137 rfl rfl ?_
             refine pJ HT_ 5 139 rfl rfl ?_
             refine pJ HT_ 6 140 rfl rfl ?_
             refine take_ (i := 4) (N := some 138) (v := ?_) (a' := ?_) #[true, true, true, true, true, true, true, false, false, false, false, false, false, false] rfl rfl (take_ofW HT_.out HW_.out m6_q) (fun _ _ _ h => h) (Or.inl ⟨by rfl, ?_⟩) hHeld ?_ ?_
             rotate_left
             ·rintro w' ⟨s0, s1⟩
              go_simp
              with_reducible rfl
             rotate_left
             ·simp only [pS_q]
              rfl
             refine take_ (i := 7) (N := some 141) (v := ?_) (a' := ?_) #[true, true, true, true, true, true, true, true, false, false, false, false, false, false] rfl rfl (take_ofW HT_.out HW_.out m6_q) (fun _ _ _ h => h) (Or.inl ⟨by rfl, ?_⟩) hHeld ?_ ?_
             rotate_left
             ·rintro w' ⟨s0, s1⟩
              go_simp
              with_reducible rfl
             rotate_left
             ·simp only [pS_q]
              rfl
             refine one_ (i := 8) (N := some 142) #[true, true, true, true, true, true, true, true, true, false, false, false, false, false] rfl rfl (one_of HT_.out m6_q) (by decide) (fun K hK => ?_)
             refine goes_ Tryd.func40 m6_q rfl #[.slice Ao93 l0.length co93, .int .i64 (rd x7_1 1), .int .i64 (rd x7_1 2)] (by rfl) rfl rfl m0_q ?_
             with_reducible refine (spec_StoreHas.calls kj78 _ _ l0 (rd x7_1 1) (rd x7_1 2) t457 _ ?side1 ?side2 A87.out).mono ?_
             (case side1 => exact m44_q)
             (case side2 => exact m47_q)
             rintro e w' ⟨rfl, hb⟩
             have HS0_ := (hb.cell (wL_q _ _ (hHeld.1))).trans (hHeld.1)
             have HS1_ := (hb.cell (wL_q _ _ (hHeld.2))).trans (hHeld.2)
             refine ⟨_, rfl, ?_⟩
             replace HO_0 := Ae_q (rO_q (rup HO_0.out) hb)
             replace HO_6 := Ae_q (rO_q (rup HO_6.out) hb)
             replace HO_7 := Ae_q (rO_q (rup HO_7.out) hb)
             replace HK := Ae_q (Kept.below (S := (fun k_ => P0_ k_)) m1_q hb)
             replace HB := Ae_q (bT_q (bel HB.out) hb)
             (try clear hb)
             (try clear hb2)
             (try clear hk)
             (try clear hi)
             refine hK.out _ _ ⟨HS0_, HS1_⟩ (fun hHeld => ?_)
             clear hK K
             refine nJ_q ?_
             refine one_ (i := 9) (N := some 143) #[true, true, true, true, true, true, true, true, true, true, false, false, false, false] rfl rfl (one_of HT_.out m6_q) (by decide) (fun K hK => ?_)
             refine goes_ Tryd.func26 m6_q rfl #[.int .i64 t457] (by rfl) rfl rfl m0_q ?_
             with_reducible refine (spec_l6Dec.calls kj78 t457 t458 _ A88.out).mono ?_
             rintro e w' ⟨rfl, hb⟩
             have HS0_ := (hb.cell (wL_q _ _ (hHeld.1))).trans (hHeld.1)
             have HS1_ := (hb.cell (wL_q _ _ (hHeld.2))).trans (hHeld.2)
             refine ⟨_, rfl, ?_⟩
             replace HO_0 := Ae_q (rO_q (rup HO_0.out) hb)
             replace HO_6 := Ae_q (rO_q (rup HO_6.out) hb)
             replace HO_7 := Ae_q (rO_q (rup HO_7.out) hb)
             replace HK := Ae_q (Kept.below (S := (fun k_ => P0_ k_)) m1_q hb)
             replace HB := Ae_q (bT_q (bel HB.out) hb)
             (try clear hb)
             (try clear hb2)
             (try clear hk)
             (try clear hi)
             refine hK.out _ _ ⟨HS0_, HS1_⟩ (fun hHeld => ?_)
             clear hK K
             refine nJ_q ?_
             refine pJ HT_ 10 144 rfl rfl ?_
             refine pJ HT_ 11 145 rfl rfl ?_
             refine pJ HT_ 12 4 rfl rfl ?_
             refine pJ HT_ 13 5 rfl rfl ?_
             refine done_ (done_of HT_.out m6_q) ?_
             try go_wp2
             go_ret2
             exact ⟨_, m3_q, rup HO_0.out, bel HB.out, m1_q⟩

end Go.Proofs.YtbclhpibilbdbaaDoor.PSc
