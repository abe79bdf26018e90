import Derived.Test.YtbclhpibilbdbaaDoorVJPScx0
import Derived.Test.YtbclhpibilbdbaaDoorVJPScx2
import Derived.Test.YtbclhpibilbdbaaDoorVJPScx4
import Derived.Test.YtbclhpibilbdbaaDoorVJPScx5
import Derived.Test.YtbclhpibilbdbaaDoorVJPScx8
import Derived.Test.YtbclhpibilbdbaaDoorVJPScx14
import Derived.Test.YtbclhpibilbdbaaDoorVJPScx15
namespace Go.Proofs.YtbclhpibilbdbaaDoor.PSc
open Go.RowKit Go.Proofs.YtbclhpibilbdbaaDoorW.PrintWords Go.Proofs.YtbclhpibilbdbaaDoorW.PrintLast Go.Proofs.YtbclhpibilbdbaaDoorW.PrintMore
attribute [local go_sem] max2_int min2_int max_two min_two max_three min_three max_four min_four
set_option linter.unusedVariables false
set_option linter.unusedSimpArgs false

mutual
def impl_command.l0 : Nat → List (S49) → List ByteArray → List Int → List ByteArray → Int → Int → Option ((List (S49)) × ByteArray)
 | 0, _, _, _, _, _, _ => none
 | k + 1, x0, x6, x7, x24, x25, x26 => if x26 < x25 then (if 0 ≤ x26 then (if x26 < (x24.length : Int) then ((impl_commandNumber.f (rdOf ByteArray.empty x24 x26)).bind fun bt245 => (if bt245.2 = true then (if x7.length < 17592186044416 then (impl_command.l0 k x0 x6 (x7 ++ [bt245.1]) x24 x25 (wrap64 (x26 + 1))) else (none)) else (some (x0, (⟨#[119, 104, 97, 116]⟩ : ByteArray))))) else (none)) else (none)) else (if 0 < (x6.length : Int) then (if (rdOf ByteArray.empty x6 0).toList = ([112, 117, 116] : List UInt8) then (impl_command.j1 k x0 x6 x7 (x7.length : Int) ((x7.length : Int) == 3)) else (impl_command.j1 k x0 x6 x7 (x7.length : Int) false)) else (none))
def impl_command.j1 : Nat → List (S49) → List ByteArray → List Int → Int → Bool → Option ((List (S49)) × ByteArray)
 | 0, _, _, _, _, _ => none
 | k + 1, x0, x6, x7, x12, x45 => if x45 = true then (if 0 < (x7.length : Int) then (if 1 < (x7.length : Int) then (if 2 < (x7.length : Int) then ((impl_StorePut.f k x0 (rd x7 0) (rd x7 1) (rd x7 2)).bind fun bt254 => (if bt254.2 = true then (some (bt254.1, (⟨#[111, 107]⟩ : ByteArray))) else (some (x0, (⟨#[110, 111]⟩ : ByteArray))))) else (none)) else (none)) else (none)) else (if 0 < (x6.length : Int) then (if (rdOf ByteArray.empty x6 0).toList = ([116, 97, 107, 101] : List UInt8) then (impl_command.j2 k x0 x6 x7 x12 (x12 == 3)) else (impl_command.j2 k x0 x6 x7 x12 false)) else (none))
def impl_command.j2 : Nat → List (S49) → List ByteArray → List Int → Int → Bool → Option ((List (S49)) × ByteArray)
 | 0, _, _, _, _, _ => none
 | k + 1, x0, x6, x7, x12, x73 => if x73 = true then (if 0 < (x7.length : Int) then (if 1 < (x7.length : Int) then (if 2 < (x7.length : Int) then ((impl_StoreTake.f k x0 (rd x7 0) (rd x7 1) (rd x7 2)).bind fun bt262 => (if bt262.2.2 = true then ((impl_lotsText.f k (⟨#[116, 111, 111, 107]⟩ : ByteArray) bt262.2.1).bind fun t269 => (some (bt262.1, t269))) else (some (x0, (⟨#[110, 111]⟩ : ByteArray))))) else (none)) else (none)) else (none)) else (if 0 < (x6.length : Int) then (if (rdOf ByteArray.empty x6 0).toList = ([100, 114, 111, 112] : List UInt8) then (impl_command.j3 k x0 x6 x7 x12 (x12 == 1)) else (impl_command.j3 k x0 x6 x7 x12 false)) else (none))
def impl_command.j3 : Nat → List (S49) → List ByteArray → List Int → Int → Bool → Option ((List (S49)) × ByteArray)
 | 0, _, _, _, _, _ => none
 | k + 1, x0, x6, x7, x12, x103 => if x103 = true then (if 0 < (x7.length : Int) then ((impl_StoreDrop.f k x0 (rd x7 0)).bind fun bt272 => ((impl_lotsText.f k (⟨#[100, 114, 111, 112, 112, 101, 100]⟩ : ByteArray) bt272.2).bind fun t278 => (some (bt272.1, t278)))) else (none)) else (if 0 < (x6.length : Int) then (if (rdOf ByteArray.empty x6 0).toList = ([104, 97, 118, 101] : List UInt8) then (impl_command.j4 k x0 x6 x7 x12 (x12 == 2)) else (impl_command.j4 k x0 x6 x7 x12 false)) else (none))
def impl_command.j4 : Nat → List (S49) → List ByteArray → List Int → Int → Bool → Option ((List (S49)) × ByteArray)
 | 0, _, _, _, _, _ => none
 | k + 1, x0, x6, x7, x12, x123 => if x123 = true then (if 0 < (x7.length : Int) then (if 1 < (x7.length : Int) then ((impl_StoreHas.f k x0 (rd x7 0) (rd x7 1)).bind fun t282 => ((strconv_Itoa_33.f t282).bind fun t283 => (if 5 + t283.size ≤ 9223372036854775807 then (some (x0, (⟨#[104, 97, 118, 101, 32]⟩ : ByteArray) ++ t283)) else (none)))) else (none)) else (none)) else (if 0 < (x6.length : Int) then (if (rdOf ByteArray.empty x6 0).toList = ([115, 104, 111, 119] : List UInt8) then (if x12 = 0 then ((impl_lotsText.f k (⟨#[108, 111, 116, 115]⟩ : ByteArray) x0).bind fun t285 => (some (x0, t285))) else (some (x0, (⟨#[119, 104, 97, 116]⟩ : ByteArray)))) else (some (x0, (⟨#[119, 104, 97, 116]⟩ : ByteArray)))) else (none))
end
def impl_command.f (k : Nat) (l0 : List (S49)) (a1 : ByteArray) : Option ((List (S49)) × ByteArray) := (strings_Split.f a1 (⟨#[32]⟩ : ByteArray)).bind fun t234 => (if 1 ≤ (t234.length : Int) then ((some (t234.drop 1 : List ByteArray)).bind fun y240 => (impl_command.l0 k l0 t234 (([] : List Int)) y240 (y240.length : Int) 0)) else (none))
def impl_command.T13 : Bool × List (List Nat × List Nat) := (true, [([], []), ([], []), ([1], [1]), ([2], [2]), ([], []), ([4], [4]), ([5], [5]), ([], []), ([7], [7]), ([8], [8]), ([3, 6, 9], [3, 6, 9]), ([0, 10], [0, 10]), ([11], [11]), ([12], [12]), ([12], [12]), ([13, 11, 0, 1, 2, 3, 4, 5, 6, 7, 8, 9, 10, 11, 12, 13], [13]), ([14, 15, 0, 1, 2, 3, 4, 5, 6, 7, 8, 9, 10, 11, 12, 13, 14, 15], [14])])
def impl_command.B13 : List Nat := [0, 0, 2, 6, 0, 16, 48, 0, 128, 384, 1022, 2047, 4095, 8191, 8191, 16383, 65535]
theorem impl_command.tab13 : rtab .any (opsOf Tryd.f22 13) = impl_command.T13 := by kernel_rfl
theorem impl_command.bits13 : waitsOk impl_command.T13.2 impl_command.B13 = true := by kernel_rfl
def impl_command.T18 : Bool × List (List Nat × List Nat) := (true, [([], []), ([], []), ([1], [1]), ([2], [2]), ([], []), ([4], [4]), ([5], [5]), ([], []), ([7], [7]), ([8], [8]), ([0, 3, 6, 9], [0, 3, 6, 9]), ([10], [10]), ([11], [11]), ([11], [11]), ([11], [11]), ([12, 10, 0, 1, 2, 3, 4, 5, 6, 7, 8, 9, 10, 11, 12], [12]), ([13, 15, 0, 1, 2, 3, 4, 5, 6, 7, 8, 9, 10, 11, 12, 13, 15], [13]), ([14, 16, 0, 1, 2, 3, 4, 5, 6, 7, 8, 9, 10, 11, 12, 13, 14, 15, 16], [14])])
def impl_command.B18 : List Nat := [0, 0, 2, 6, 0, 16, 48, 0, 128, 384, 1023, 2047, 4095, 4095, 4095, 8191, 49151, 131071]
theorem impl_command.tab18 : rtab .any (opsOf Tryd.f22 18) = impl_command.T18 := by kernel_rfl
theorem impl_command.bits18 : waitsOk impl_command.T18.2 impl_command.B18 = true := by kernel_rfl
def impl_command.T26 : Bool × List (List Nat × List Nat) := (true, [([], []), ([], []), ([], []), ([2], [2]), ([3], [3]), ([], []), ([5], [5]), ([6], [6]), ([1, 4, 7], [1, 4, 7]), ([8, 8], [8]), ([9], [9]), ([0, 9, 0], [0]), ([10, 11, 0, 1, 2, 3, 4, 5, 6, 7, 8, 9, 10, 11], [10])])
def impl_command.B26 : List Nat := [0, 0, 0, 4, 12, 0, 32, 96, 254, 510, 1022, 1023, 4095]
theorem impl_command.tab26 : rtab .any (opsOf Tryd.f22 26) = impl_command.T26 := by kernel_rfl
theorem impl_command.bits26 : waitsOk impl_command.T26.2 impl_command.B26 = true := by kernel_rfl
set_option maxHeartbeats 8000000 in
set_option maxRecDepth 100000 in
theorem impl_command.calls (k : Nat) (P0_ : Nat → Prop) (u9000_ : Value) (l0 : List (S49)) (a1 : ByteArray) (r1 : List (S49)) (r2 : ByteArray) (w0 w : World) (hB : Below w0.heap.size w0 w) (ho0 : Kd.R k49 49 w w0.heap.size P0_ u9000_ l0) (h : impl_command.f k l0 a1 = some (r1, r2)) (hG : Sh.GW w0) :
    Calls Tryd.prog 22 #[u9000_, .string a1] w fun e w' => ∃ v0_ : Value, e = .returned (.tuple #[v0_, .string r2]) ∧ Kd.R k49 49 w' w0.heap.size (fun k_ => (P0_ k_ ∨ w.heap.size ≤ k_)) v0_ r1 ∧ Below w0.heap.size w0 w' ∧ Kept w w' (fun k_ => P0_ k_) := by
 have HG := Ae_q hG
 clear hG
 have hu49 := Tryd.underlying49
 have HO0 := Ae_q (show Kd.R k49 49 w w0.heap.size (fun k_ => (P0_ k_ ∨ w.heap.size ≤ k_)) u9000_ l0 from rM_q ho0 (fun k_ hk => (.inl hk)))
 have HK := Ae_q (Kept.refl w (fun k_ => P0_ k_))
 have HW0 := Ae_q hB.size
 have HB := Ae_q hB
 clear hB
 have H : ((strings_Split.f a1 (⟨#[32]⟩ : ByteArray)).bind fun t234 => (if 1 ≤ (t234.length : Int) then ((some (t234.drop 1 : List ByteArray)).bind fun y240 => (impl_command.l0 k l0 t234 (([] : List Int)) y240 (y240.length : Int) 0)) else (none))) = some (r1, r2) := h
 clear h
 replace H := oB_q.mp H
 obtain ⟨t234, A30, H⟩ := H
 replace H : (if 1 ≤ (t234.length : Int) then ((some (t234.drop 1 : List ByteArray)).bind fun y240 => (impl_command.l0 k l0 t234 (([] : List Int)) y240 (y240.length : Int) 0)) else (none)) = some (r1, r2) := H
 have A3 := Ae_q A30
 clear A30
 obtain ⟨y237, hy237⟩ : ∃ y_ : List Int, y_ = (([] : List Int)) := ⟨_, rfl⟩
 replace H : (if 1 ≤ (t234.length : Int) then ((some (t234.drop 1 : List ByteArray)).bind fun y240 => (impl_command.l0 k l0 t234 y237 y240 (y240.length : Int) 0)) else (none)) = some (r1, r2) := by first | (rw [hy237]; with_reducible exact H) | (have H2_ := (oS_q _ _).symm.trans H; rw [hy237]; with_reducible exact H2_) | (have H2_ := (oS_q _ _).symm.trans H; with_reducible exact H2_) | with_reducible exact H | (rw [hy237]; exact H) | exact H
 have Ny237 := Ae_q hy237
 clear hy237
 by_cases c4 : 1 ≤ (t234.length : Int)
 rotate_left
 ·rw [if_neg c4] at H
  exact absurd H (by simp)
 rw [if_pos c4] at H
 have c4b0 := eq_true c4
 have c4b1 : decide (1 ≤ (t234.length : Int)) = true := dT_q c4
 clear c4
 obtain ⟨y240, hy240⟩ : ∃ y_ : List ByteArray, y_ = (t234.drop 1) := ⟨_, rfl⟩
 replace H : (impl_command.l0 k l0 t234 y237 y240 (y240.length : Int) 0) = some (r1, r2) := by first | (rw [hy240]; with_reducible exact H) | (have H2_ := (oS_q _ _).symm.trans H; rw [hy240]; with_reducible exact H2_) | (have H2_ := (oS_q _ _).symm.trans H; with_reducible exact H2_) | with_reducible exact H | (rw [hy240]; exact H) | exact H
 have Ny240 := Ae_q hy240
 clear hy240
 have H' := Ae_q H
 clear H
 go_enter Tryd.func22, Tryd.ntmps22
 go_wp2_with (first | ((with_reducible refine gC_q (f := 21) rfl ?_); refine gL_q (some 21) rfl rfl Tryd.func21 m6_q rfl #[.string a1, .string (⟨#[32]⟩ : ByteArray)] rfl m0_q ?_; (with_reducible refine (strings_Split.calls a1 (⟨#[32]⟩ : ByteArray) t234 _ A3.out m29_q).mono ?_); rintro e w' ⟨v235, rfl, ho0, hb⟩; refine ⟨_, rfl, ?_⟩; replace HO0 := Ae_q (rO_q (rup HO0.out) hb); have HO236 := Ae_q (rL_q (Kd.R_newM (M := fun k_ => (P0_ k_ ∨ w.heap.size ≤ k_)) ho0 m4_q (fun k_ h_ => .inr h_)) (bZ_q (bel HB.out))); replace HK := Ae_q (Kept.below (S := (fun k_ => P0_ k_)) m1_q hb); replace HB := Ae_q (bT_q (bel HB.out) hb); (try clear hb); (try clear hb2); (try clear hk); (try clear hi); (try clear ho0)) | ((with_reducible refine gD_q (N := 22) rfl ?_); refine Kd.R_lit (Kd.int .i64) _ 3 ?hg (N := 22) ?hd (xs := ([] : List Int)) (inner := []) (ok := fun _ => True) (okp := fun _ => True) ?hr ?hp (fun _ hk => hk) trivial (bR_q _ _) (nR_q _) (by simp) ?_; (case hd => rfl); (case hg => rfl); (case hr => exact m10_q); (case hp => exact m46_q); intro v238 w6 ho7 hb hg_ hnew_; clear hg_ hnew_; (first | rw [← Ny237.out] at ho7 | (simp only [Int.reduceToNat] at ho7; rw [← Ny237.out] at ho7)); replace HO0 := Ae_q (rO_q (rup HO0.out) hb); replace HO236 := Ae_q (rO_q (rup HO236.out) hb); have HO239 := Ae_q (rL_q (Kd.R_newM (M := fun k_ => (P0_ k_ ∨ w.heap.size ≤ k_)) ho7 m4_q (fun k_ h_ => .inr h_)) (bZ_q (bel HB.out))); replace HK := Ae_q (Kept.below (S := (fun k_ => P0_ k_)) m1_q hb); replace HB := Ae_q (bT_q (bel HB.out) hb); clear hb ho7; obtain ⟨Ao9, co9, eo9⟩ := rS_q HO236.out; subst eo9; have q8 : (1 : Int) ≤ ((t234.length : Int) : Int) := oD_q (by assumption); obtain ⟨i08, hi08, _, hsz8, _⟩ := info_parts info9; have hroom8 : t234.length ≤ co9 := (rR_q HO236.out).2.1; have hC8 : Kd.C Kd.string _ Ao9 t234.length t234 := (rR_q HO236.out).2.2; have hcut8 := cut_from (P := Tryd.prog) 33 9 .i64 Tryd.underlying33 hi08 1 hsz8 Ao9 t234.length co9 1 (by omega) q8; have hr8 := Kd.C_drop (m := (1 : Int).toNat) (c := co9) hC8 (by omega) hroom8; obtain ⟨A8, hA8⟩ : ∃ A1, A1 = (if co9 = (1 : Int).toNat then Ao9 else (Ao9 : Option Addr).map (·.add ((1 : Int).toNat * 1))) := ⟨_, rfl⟩; obtain ⟨c8, hc8⟩ : ∃ c1, c1 = co9 - (1 : Int).toNat := ⟨_, rfl⟩; have hy8 : y240.length = t234.length - (1 : Int).toNat := (by rw [Ny240.out, lD_q] <;> omega); rw [show (t234).drop (1 : Int).toNat = y240 from Ny240.out.symm] at hr8; replace hr8 : Kd.C Kd.string _ A8 y240.length y240 := (by rw [hA8]; exact hr8); rw [← hy8, ← hA8, ← hc8] at hcut8; have HR243 := Ae_q hr8; have HC243 := Ae_q (show y240.length ≤ c8 from by rw [hy8, hc8]; exact Nat.sub_le_sub_right hroom8 _); clear hr8 hC8 hroom8 hi08 hsz8 hc8; have KY8 := Ae_q hy8; have KA8 := Ae_q hA8; clear hy8 hA8; have KL8 := Ae_q (show 1 ≤ t234.length from by omega); replace q8 := eq_true q8))
 go_loopg [7, 26] k (fun kq v7 v26 w' => ∃ (x7_1 : List Int) (x26_1 : Int), v26 = .int .i64 x26_1 ∧ Aside0 (impl_command.l0 kq l0 t234 x7_1 y240 (y240.length : Int) x26_1 = some (r1, r2)) ∧ Aside0 (kq ≤ k) ∧ Aside0 (Kd.R k49 49 w' w0.heap.size (fun k_ => (P0_ k_ ∨ w.heap.size ≤ k_)) u9000_ l0) ∧ Aside0 (Kd.R Kd.string 9 w' w0.heap.size (fun k_ => (P0_ k_ ∨ w.heap.size ≤ k_)) (.slice Ao9 t234.length co9) t234) ∧ Aside0 (Kd.R (Kd.int .i64) 3 w' w0.heap.size (fun k_ => (P0_ k_ ∨ w.heap.size ≤ k_)) v7 x7_1) ∧ Aside0 (Kept w w' (fun k_ => P0_ k_)) ∧ Aside0 (Below w0.heap.size w0 w'))
 case atStart => exact ⟨(y237), (0), m2_q, H', ⟨nR_q _⟩, ⟨rup HO0.out⟩, ⟨by (with_reducible repeat (first | apply rA_q | apply rN_q | apply rD_q)); exact rM_q HO236.out (fun _ hk => hk.1)⟩, ⟨by (with_reducible repeat (first | apply rA_q | apply rN_q | apply rD_q)); exact rM_q HO239.out (fun _ hk => hk.1)⟩, ⟨m1_q⟩, ⟨bel HB.out⟩⟩
 case round =>
  clear H'
  try clear c1
  try clear c2
  try clear p2
  try clear c4
  try clear c4b0
  try clear c4b1
  try clear c8
  try clear q8
  try clear q8
  obtain ⟨x7_1, x26_1, rfl, HA, HK1, HO_0, HO_6, HO_7, HK, HB⟩ := hrel
  have HR243 := Ae_q (by have hr_ := Kd.C_drop (m := (1 : Int).toNat) (c := co9) (rR_q HO_6.out).2.2 (by have := KL8.out; omega) (rR_q HO_6.out).2.1; rw [show (t234).drop (1 : Int).toNat = y240 from Ny240.out.symm] at hr_; replace hr_ : Kd.C Kd.string _ A8 y240.length y240 := (by rw [KA8.out]; exact hr_); exact hr_)
  cases gk with
  | zero => exact absurd HA.out (by simp [impl_command.l0])
  | succ k1 =>
   have H := HA.out
   clear HA
   simp only [impl_command.l0] at H
   by_cases c10 : x26_1 < (y240.length : Int)
   ·rw [if_pos c10] at H
    have c10b0 : decide (x26_1 < (y240.length : Int)) = true := dT_q c10
    clear c10
    by_cases c11 : 0 ≤ x26_1
    rotate_left
    ·rw [if_neg c11] at H
     exact absurd H (by simp)
    rw [if_pos c11] at H
    have c11b0 : decide (0 ≤ x26_1) = true := dT_q c11
    clear c11
    by_cases c12 : x26_1 < (y240.length : Int)
    rotate_left
    ·rw [if_neg c12] at H
     exact absurd H (by simp)
    rw [if_pos c12] at H
    have c12b0 : decide (x26_1 < (y240.length : Int)) = true := dT_q c12
    clear c12
    replace H := oB_q.mp H
    obtain ⟨⟨t245, t246⟩, A130, H⟩ := H
    replace H : (if t246 = true then (if x7_1.length < 17592186044416 then (impl_command.l0 k1 l0 t234 (x7_1 ++ [t245]) y240 (y240.length : Int) (wrap64 (x26_1 + 1))) else (none)) else (some (l0, (⟨#[119, 104, 97, 116]⟩ : ByteArray)))) = some (r1, r2) := H
    have A13 := Ae_q A130
    clear A130
    by_cases c14 : t246 = true
    rotate_left
    ·replace c14 := fM_q.mpr c14
     subst c14
     have H1 : (some (l0, (⟨#[119, 104, 97, 116]⟩ : ByteArray))) = some (r1, r2) := by rw [if_neg (show ¬ (false = true) by decide)] at H; exact H
     clear H
     have H := H1
     clear H1
     simp only [oE_q, pE_q] at H
     obtain ⟨rfl, rfl⟩ := H
     have p244 : 0 ≤ (x26_1 : Int) := oD_q (by assumption)
     have q244 : x26_1 < (y240.length : Int) := oD_q (by assumption)
     obtain ⟨ad244, e244, hx244_0⟩ := Kd.at_string HR243.out x26_1 p244 q244
     cases e244
     replace p244 := eq_true p244
     replace q244 := eq_true q244
     go_wp2_with (first | ((with_reducible refine gC_q (f := 29) rfl ?_); refine gL_q (some 32) rfl rfl Tryd.func29 m6_q rfl #[.string (rdOf ByteArray.empty y240 x26_1)] rfl m0_q ?_; (with_reducible refine (impl_commandNumber.calls (rdOf ByteArray.empty y240 x26_1) t245 false _ A13.out m29_q).mono ?_); rintro e w' ⟨rfl, hb⟩; refine ⟨_, rfl, ?_⟩; replace HO_0 := Ae_q (rO_q (rup HO_0.out) hb); replace HO_6 := Ae_q (rO_q (rup HO_6.out) hb); replace HO_7 := Ae_q (rO_q (rup HO_7.out) hb); replace HK := Ae_q (Kept.below (S := (fun k_ => P0_ k_)) m1_q hb); replace HB := Ae_q (bT_q (bel HB.out) hb); (try clear hb); (try clear hb2); (try clear hk); (try clear hi)))
     go_ret2
     exact ⟨_, m3_q, rup HO_0.out, bel HB.out, m1_q⟩
    subst c14
    have H1 : (if x7_1.length < 17592186044416 then (impl_command.l0 k1 l0 t234 (x7_1 ++ [t245]) y240 (y240.length : Int) (wrap64 (x26_1 + 1))) else (none)) = some (r1, r2) := by rw [if_pos rfl] at H; exact H
    clear H
    have H := H1
    clear H1
    by_cases c15 : x7_1.length < 17592186044416
    rotate_left
    ·rw [if_neg c15] at H
     exact absurd H (by simp)
    rw [if_pos c15] at H
    have LMc15 := Ae_q c15
    clear c15
    obtain ⟨y247, hy247⟩ : ∃ y_ : List Int, y_ = (x7_1 ++ [t245]) := ⟨_, rfl⟩
    replace H : (impl_command.l0 k1 l0 t234 y247 y240 (y240.length : Int) (wrap64 (x26_1 + 1))) = some (r1, r2) := by first | (rw [hy247]; with_reducible exact H) | (have H2_ := (oS_q _ _).symm.trans H; rw [hy247]; with_reducible exact H2_) | (have H2_ := (oS_q _ _).symm.trans H; with_reducible exact H2_) | with_reducible exact H | (rw [hy247]; exact H) | exact H
    have Ny247 := Ae_q hy247
    clear hy247
    have H' := Ae_q H
    clear H
    have p244 : 0 ≤ (x26_1 : Int) := oD_q (by assumption)
    have q244 : x26_1 < (y240.length : Int) := oD_q (by assumption)
    obtain ⟨ad244, e244, hx244_0⟩ := Kd.at_string HR243.out x26_1 p244 q244
    cases e244
    replace p244 := eq_true p244
    replace q244 := eq_true q244
    go_wp2_with (first | ((with_reducible refine gC_q (f := 29) rfl ?_); refine gL_q (some 32) rfl rfl Tryd.func29 m6_q rfl #[.string (rdOf ByteArray.empty y240 x26_1)] rfl m0_q ?_; (with_reducible refine (impl_commandNumber.calls (rdOf ByteArray.empty y240 x26_1) t245 true _ A13.out m29_q).mono ?_); rintro e w' ⟨rfl, hb⟩; refine ⟨_, rfl, ?_⟩; replace HO_0 := Ae_q (rO_q (rup HO_0.out) hb); replace HO_6 := Ae_q (rO_q (rup HO_6.out) hb); replace HO_7 := Ae_q (rO_q (rup HO_7.out) hb); replace HK := Ae_q (Kept.below (S := (fun k_ => P0_ k_)) m1_q hb); replace HB := Ae_q (bT_q (bel HB.out) hb); (try clear hb); (try clear hb2); (try clear hk); (try clear hi)) | ((with_reducible refine gate_builtin (b := .append) (xs := #[.tmp 38, .tmp 40]) rfl ?_); at_builtin; refine Kd.R_append (Kd.int .i64) (w0 := w0) w0.heap.size rfl (.tmp 38) (.tmp 40) 43 3 (.int .i64 0) 8 rfl Tryd.underlying43 info3 rfl (by decide) (by omega) u7 x7_1 t245 [.int .i64 t245] (fun k_ => (P0_ k_ ∨ w.heap.size ≤ k_)) (fun _ => False) rfl rfl ?aP (fun _ hk => hk.elim) ?aF ?aO ?aB ?aS ?aL ?_; (case aP => exact rfl); (case aB => exact m98_q); (case aF => exact (fun k_ hk => (.inr (nT_q m4_q hk)))); (case aO => exact (rup HO_7.out)); (case aS => exact m95_q); (case aL => have := LMc15.out; omega); intro v248 w17 ho hb hg hat; rw [← Ny247.out] at ho; replace HO_0 := Ae_q (Kd.R_over' (rup HO_0.out) (Kd.R_typed (rup HO_7.out)) (by decide) hg); replace HO_6 := Ae_q (Kd.R_over' (rup HO_6.out) (Kd.R_typed (rup HO_7.out)) (by decide) hg); replace HB := Ae_q (hb); replace HK := Ae_q (Kept.of_grown (S := (fun k_ => P0_ k_)) hg m1_q (fun k_ e_ => (HO_7.out.1 k_ e_))); have HO249 := Ae_q (ho); clear HO_7; clear ho hb hg hat))
    go_roundg k1
    case measure => have := HK1.out; omega
    case rel => exact ⟨(y247), (wrap64 (x26_1 + 1)), m2_q, H', ⟨m38_q⟩, ⟨rup HO_0.out⟩, ⟨rup HO_6.out⟩, ⟨rup HO249.out⟩, ⟨m1_q⟩, ⟨bel HB.out⟩⟩
   rw [if_neg c10] at H
   have c10b0 : decide (x26_1 < (y240.length : Int)) = false := dF_q c10
   clear c10
   have HC19 := Ae_q H
   clear H
   obtain ⟨Ao20, co20, eo20⟩ := rS_q HO_7.out
   subst eo20
   go_upto_region 12 with (fail)
   go_cut [45] (fun v45 wc => ∃ (kq : Nat) (x45_18 : Bool), v45 = .bool x45_18 ∧ Aside0 (impl_command.j1 kq l0 t234 x7_1 (x7_1.length : Int) x45_18 = some (r1, r2)) ∧ Aside0 (kq ≤ k1) ∧ Aside0 (Kd.R k49 49 wc w0.heap.size (fun k_ => (P0_ k_ ∨ w.heap.size ≤ k_)) u9000_ l0) ∧ Aside0 (Kd.R Kd.string 9 wc w0.heap.size (fun k_ => (P0_ k_ ∨ w.heap.size ≤ k_)) (.slice Ao9 t234.length co9) t234) ∧ Aside0 (Kd.R (Kd.int .i64) 3 wc w0.heap.size (fun k_ => (P0_ k_ ∨ w.heap.size ≤ k_)) (.slice Ao20 x7_1.length co20) x7_1) ∧ Aside0 (Kept w wc (fun k_ => P0_ k_)) ∧ Aside0 (Below w0.heap.size w0 wc))
   case first =>
    have H := HC19.out
    clear HC19
    by_cases c21 : 0 < (t234.length : Int)
    rotate_left
    ·rw [if_neg c21] at H
     exact absurd H (by simp)
    rw [if_pos c21] at H
    have c21b0 : decide (0 < (t234.length : Int)) = true := dT_q c21
    have c21b1 : decide (0 < t234.length) = true := dT_q (by omega)
    clear c21
    (first | rw [c21b0] | (simp only [i64_w, i32_w]; rw [c21b0]) | skip)
    by_cases c22 : (rdOf ByteArray.empty t234 0).toList = ([112, 117, 116] : List UInt8)
    ·rw [if_pos c22] at H
     have c22b0 : ((rdOf ByteArray.empty t234 0).toList == ([112, 117, 116] : List UInt8)) = true := beq_iff_eq.mpr c22
     have c22b1 : ((rdOf ByteArray.empty t234 0).toList != ([112, 117, 116] : List UInt8)) = false := nE_q.mpr c22
     clear c22
     have H' := Ae_q H
     clear H
     have p250 : 0 ≤ (0 : Int) := (by omega)
     have q250 : 0 < (t234.length : Int) := oD_q (by assumption)
     obtain ⟨ad250, e250, hx250_0⟩ := Kd.at_string (rR_q HO_6.out).2.2 0 p250 q250
     cases e250
     have qi250 : (0 < t234.length) = True := eq_true (by omega)
     (try rw [show ((0 : Int)).toNat = 0 from rfl] at hx250_0)
     (try rw [Addr.add_zero'] at hx250_0)
     replace p250 := eq_true p250
     replace q250 := eq_true q250
     go_wp2
     go_meet
     case rel => exact ⟨_, (((x7_1.length : Int) == 3)), m2_q, H', ⟨m45_q⟩, ⟨rup HO_0.out⟩, ⟨rup HO_6.out⟩, ⟨rup HO_7.out⟩, ⟨m1_q⟩, ⟨bel HB.out⟩⟩
    rw [if_neg c22] at H
    have c22b0 : ((rdOf ByteArray.empty t234 0).toList == ([112, 117, 116] : List UInt8)) = false := fN_q.mpr c22
    have c22b1 : ((rdOf ByteArray.empty t234 0).toList != ([112, 117, 116] : List UInt8)) = true := nI_q.mpr c22
    have H' := Ae_q H
    clear H
    have p250 : 0 ≤ (0 : Int) := (by omega)
    have q250 : 0 < (t234.length : Int) := oD_q (by assumption)
    obtain ⟨ad250, e250, hx250_0⟩ := Kd.at_string (rR_q HO_6.out).2.2 0 p250 q250
    cases e250
    have qi250 : (0 < t234.length) = True := eq_true (by omega)
    (try rw [show ((0 : Int)).toNat = 0 from rfl] at hx250_0)
    (try rw [Addr.add_zero'] at hx250_0)
    replace p250 := eq_true p250
    replace q250 := eq_true q250
    go_wp2
    go_meet
    case rel => exact ⟨_, (false), m2_q, H', ⟨m45_q⟩, ⟨rup HO_0.out⟩, ⟨rup HO_6.out⟩, ⟨rup HO_7.out⟩, ⟨m1_q⟩, ⟨bel HB.out⟩⟩
   case rest =>
    clear HC19
    try clear c1
    try clear c2
    try clear p2
    try clear q2
    try clear hx2
    try clear qi2
    try clear c4
    try clear c4b0
    try clear c4b1
    try clear p6
    try clear c8
    try clear q8
    try clear c10
    try clear c10b0
    try clear c11
    try clear c11b0
    try clear c12
    try clear c12b0
    try clear c14
    try clear c15
    try clear c21
    try clear c21b0
    try clear c21b1
    try clear c22
    try clear c22b0
    try clear c22b1
    try clear hx244_0
    try clear hx250_0
    try clear p2
    try clear p244
    try clear p250
    try clear q244
    try clear q250
    try clear q8
    obtain ⟨kq, x45_18, rfl, HA, HJ18, HO_0, HO_6, HO_7, HK, HB⟩ := hcut
    cases kq with
    | zero => exact absurd HA.out (by simp [impl_command.j1])
    | succ kj18 =>
     have H := HA.out
     clear HA
     simp only [impl_command.j1] at H
     by_cases c23 : x45_18 = true
     ·subst c23
      have H1 : (if 0 < (x7_1.length : Int) then (if 1 < (x7_1.length : Int) then (if 2 < (x7_1.length : Int) then ((impl_StorePut.f kj18 l0 (rd x7_1 0) (rd x7_1 1) (rd x7_1 2)).bind fun bt254 => (if bt254.2 = true then (some (bt254.1, (⟨#[111, 107]⟩ : ByteArray))) else (some (l0, (⟨#[110, 111]⟩ : ByteArray))))) else (none)) else (none)) else (none)) = some (r1, r2) := by rw [if_pos rfl] at H; exact H
      clear H
      have H := H1
      clear H1
      by_cases c24 : 0 < (x7_1.length : Int)
      rotate_left
      ·rw [if_neg c24] at H
       exact absurd H (by simp)
      rw [if_pos c24] at H
      have c24b0 : decide (0 < (x7_1.length : Int)) = true := dT_q c24
      have c24b1 : decide (0 < x7_1.length) = true := dT_q (by omega)
      clear c24
      by_cases c25 : 1 < (x7_1.length : Int)
      rotate_left
      ·rw [if_neg c25] at H
       exact absurd H (by simp)
      rw [if_pos c25] at H
      have c25b0 : decide (1 < (x7_1.length : Int)) = true := dT_q c25
      have c25b1 : decide (1 < x7_1.length) = true := dT_q (by omega)
      clear c25
      by_cases c26 : 2 < (x7_1.length : Int)
      rotate_left
      ·rw [if_neg c26] at H
       exact absurd H (by simp)
      rw [if_pos c26] at H
      have c26b0 : decide (2 < (x7_1.length : Int)) = true := dT_q c26
      have c26b1 : decide (2 < x7_1.length) = true := dT_q (by omega)
      clear c26
      replace H := oB_q.mp H
      obtain ⟨⟨t254, t257⟩, A270, H⟩ := H
      replace H : (if t257 = true then (some (t254, (⟨#[111, 107]⟩ : ByteArray))) else (some (l0, (⟨#[110, 111]⟩ : ByteArray)))) = some (r1, r2) := H
      have A27 := Ae_q A270
      clear A270
      by_cases c28 : t257 = true
      ·subst c28
       have H1 : (some (t254, (⟨#[111, 107]⟩ : ByteArray))) = some (r1, r2) := by rw [if_pos rfl] at H; exact H
       clear H
       have H := H1
       clear H1
       simp only [oE_q, pE_q] at H
       obtain ⟨rfl, rfl⟩ := H
       try go_wp2
       replace HO_0 := Ae_q (rD_q HO_0.out)
       replace HO_6 := Ae_q (rD_q HO_6.out)
       replace HO_7 := Ae_q (rD_q HO_7.out)
       replace HK := Ae_q (Kept.drew HK.out)
       replace HB := Ae_q (bD_q HB.out)
       have p251 : 0 ≤ (0 : Int) := (by omega)
       have q251 : 0 < (x7_1.length : Int) := oD_q (by assumption)
       obtain ⟨ad251, e251, hx251_0⟩ := aI_q (rR_q HO_7.out).2.2 0 p251 q251
       cases e251
       have qi251 : (0 < x7_1.length) = True := eq_true (by omega)
       (try rw [show ((0 : Int)).toNat = 0 from rfl] at hx251_0)
       (try rw [Addr.add_zero'] at hx251_0)
       replace p251 := eq_true p251
       replace q251 := eq_true q251
       have p252 : 0 ≤ (1 : Int) := (by omega)
       have q252 : 1 < (x7_1.length : Int) := oD_q (by assumption)
       obtain ⟨ad252, e252, hx252_0⟩ := aI_q (rR_q HO_7.out).2.2 1 p252 q252
       obtain rfl : ad251 = ad252 := (by injection e252)
       (try simp only [show (1 : Int).toNat = 1 from rfl, Nat.reduceMul, Nat.reduceEqDiff, Go.Addr.add, ↓reduceIte] at hx252_0)
       have qi252 : (1 < x7_1.length) = True := eq_true (by omega)
       (try rw [show ((1 : Int)).toNat = 1 from rfl] at hx252_0)
       replace p252 := eq_true p252
       replace q252 := eq_true q252
       have p253 : 0 ≤ (2 : Int) := (by omega)
       have q253 : 2 < (x7_1.length : Int) := oD_q (by assumption)
       obtain ⟨ad253, e253, hx253_0⟩ := aI_q (rR_q HO_7.out).2.2 2 p253 q253
       obtain rfl : ad251 = ad253 := (by injection e253)
       (try simp only [show (2 : Int).toNat = 2 from rfl, Nat.reduceMul, Nat.reduceEqDiff, Go.Addr.add, ↓reduceIte] at hx253_0)
       have qi253 : (2 < x7_1.length) = True := eq_true (by omega)
       (try rw [show ((2 : Int)).toNat = 2 from rfl] at hx253_0)
       replace p253 := eq_true p253
       replace q253 := eq_true q253
       obtain ⟨Ao30, co30, eo30⟩ := rS_q HO_0.out
       (first | subst eo30 | (injection eo30 with f1_ f2_ f3_; have f4_ := f1_.symm; have f5_ := f3_.symm; clear f1_ f2_ f3_; subst f4_; subst f5_))
       refine start_ (n := 17) (S := fun w' => w'.cell? ad251 = some (.int .i64 (rd x7_1 0)) ∧ w'.cell? ⟨ad251.block, ad251.off + 1, none⟩ = some (.int .i64 (rd x7_1 1)) ∧ w'.cell? ⟨ad251.block, ad251.off + 2, none⟩ = some (.int .i64 (rd x7_1 2))) (ds := []) #[false, false, false, false, false, false, false, false, false, false, false, false, false, false, false, false, false] m6_q rfl rfl ⟨hx251_0, hx252_0, hx253_0⟩ (fun hHeld => ?_); refine with_tabW impl_command.tab13 impl_command.bits13 (fun HT_ HW_ => ?_)
       generalize wc.drew = w29 at HO_0 HO_6 HO_7 HK HB hx251_0 hx252_0 hx253_0 hHeld ⊢
       refine pJ HT_ 0 55 rfl rfl ?_
       refine pJ HT_ 1 56 rfl rfl ?_
       refine pJ HT_ 2 57 rfl rfl ?_
       refine pJ HT_ 4 59 rfl rfl ?_
       refine pJ HT_ 5 60 rfl rfl ?_
       refine pJ HT_ 7 62 rfl rfl ?_
       refine pJ HT_ 8 63 rfl rfl ?_
       refine take_ (i := 3) (N := some 58) (v := ?_) (a' := ?_) #[true, true, true, true, true, true, false, true, true, false, false, false, false, false, false, false, false] rfl rfl (take_ofW HT_.out HW_.out m6_q) (fun _ _ _ h => h) (Or.inl ⟨by rfl, ?_⟩) hHeld ?_ ?_
       rotate_left
       ·rintro w' ⟨s0, s1, s2⟩
        go_simp
        with_reducible rfl
       rotate_left
       ·simp only [pS_q]
        rfl
       refine take_ (i := 6) (N := some 61) (v := ?_) (a' := ?_) #[true, true, true, true, true, true, true, true, true, false, false, false, false, false, false, false, false] rfl rfl (take_ofW HT_.out HW_.out m6_q) (fun _ _ _ h => h) (Or.inl ⟨by rfl, ?_⟩) hHeld ?_ ?_
       rotate_left
       ·rintro w' ⟨s0, s1, s2⟩
        go_simp
        with_reducible rfl
       rotate_left
       ·simp only [pS_q]
        rfl
       refine take_ (i := 9) (N := some 64) (v := ?_) (a' := ?_) #[true, true, true, true, true, true, true, true, true, true, false, false, false, false, false, false, false] rfl rfl (take_ofW HT_.out HW_.out m6_q) (fun _ _ _ h => h) (Or.inl ⟨by rfl, ?_⟩) hHeld ?_ ?_
       rotate_left
       ·rintro w' ⟨s0, s1, s2⟩
        go_simp
        with_reducible rfl
       rotate_left
       ·simp only [pS_q]
        rfl
       refine pJ HT_ 10 65 rfl rfl ?_
       refine one_ (i := 11) (N := some 66) #[true, true, true, true, true, true, true, true, true, true, true, true, false, false, false, false, false] rfl rfl (one_of HT_.out m6_q) (by decide) (fun K hK => ?_)
       refine goes_ Tryd.func30 m6_q rfl #[.slice Ao30 l0.length co30, .agg #[.int .i64 (rd x7_1 0), .int .i64 (rd x7_1 1), .int .i64 (rd x7_1 2)]] (by rfl) rfl rfl m0_q ?_
       with_reducible refine (impl_StorePut.calls kj18 _ _ l0 (rd x7_1 0) (rd x7_1 1) (rd x7_1 2) t254 true _ ?side1 ?side2 A27.out).mono ?_
       (case side1 => exact m44_q)
       (case side2 => exact m47_q)
       rintro e w' ⟨v255, rfl, ho0, hb⟩
       have HS0_ := (hb.cell (wL_q _ _ (hHeld.1))).trans (hHeld.1)
       have HS1_ := (hb.cell (wL_q _ _ (hHeld.2.1))).trans (hHeld.2.1)
       have HS2_ := (hb.cell (wL_q _ _ (hHeld.2.2))).trans (hHeld.2.2)
       refine ⟨_, rfl, ?_⟩
       replace HO_6 := Ae_q (rO_q (rup HO_6.out) hb)
       replace HO_7 := Ae_q (rO_q (rup HO_7.out) hb)
       have HO256 := Ae_q (rL_q (rW_q (Kd.R_newM (M := fun k_ => (P0_ k_ ∨ w.heap.size ≤ k_)) ho0 m4_q (fun k_ h_ => .inr h_)) (rT_q (rup HO_0.out))) (bZ_q (bel HB.out)))
       replace HO_0 := Ae_q (rE_q (rup HO_0.out) (rB_q ho0) hb)
       replace HK := Ae_q (Kept.below (S := (fun k_ => P0_ k_)) m1_q hb)
       replace HB := Ae_q (bT_q (bel HB.out) hb)
       (try clear hb)
       (try clear hb2)
       (try clear hk)
       (try clear hi)
       (try clear ho0)
       refine hK.out _ _ ⟨HS0_, HS1_, HS2_⟩ (fun hHeld => ?_)
       clear hK K
       refine nJ_q ?_
       refine pJ HT_ 12 54 rfl rfl ?_
       refine pJ HT_ 13 67 rfl rfl ?_
       refine pJ HT_ 14 68 rfl rfl ?_
       refine pJ HT_ 15 13 rfl rfl ?_
       refine pJ HT_ 16 14 rfl rfl ?_
       refine done_ (done_of HT_.out m6_q) ?_
       try go_wp2
       go_ret2
       exact ⟨_, m3_q, by (with_reducible repeat (first | apply rA_q | apply rN_q | apply rD_q)); exact rM_q HO256.out (fun _ hk => hk.1.1), bel HB.out, m1_q⟩
      replace c28 := fM_q.mpr c28
      subst c28
      have H1 : (some (l0, (⟨#[110, 111]⟩ : ByteArray))) = some (r1, r2) := by rw [if_neg (show ¬ (false = true) by decide)] at H; exact H
      clear H
      have H := H1
      clear H1
      simp only [oE_q, pE_q] at H
      obtain ⟨rfl, rfl⟩ := H
      try go_wp2
      replace HO_0 := Ae_q (rD_q HO_0.out)
      replace HO_6 := Ae_q (rD_q HO_6.out)
      replace HO_7 := Ae_q (rD_q HO_7.out)
      replace HK := Ae_q (Kept.drew HK.out)
      replace HB := Ae_q (bD_q HB.out)
      have p251 : 0 ≤ (0 : Int) := (by omega)
      have q251 : 0 < (x7_1.length : Int) := oD_q (by assumption)
      obtain ⟨ad251, e251, hx251_0⟩ := aI_q (rR_q HO_7.out).2.2 0 p251 q251
      cases e251
      have qi251 : (0 < x7_1.length) = True := eq_true (by omega)
      (try rw [show ((0 : Int)).toNat = 0 from rfl] at hx251_0)
      (try rw [Addr.add_zero'] at hx251_0)
      replace p251 := eq_true p251
      replace q251 := eq_true q251
      have p252 : 0 ≤ (1 : Int) := (by omega)
      have q252 : 1 < (x7_1.length : Int) := oD_q (by assumption)
      obtain ⟨ad252, e252, hx252_0⟩ := aI_q (rR_q HO_7.out).2.2 1 p252 q252
      obtain rfl : ad251 = ad252 := (by injection e252)
      (try simp only [show (1 : Int).toNat = 1 from rfl, Nat.reduceMul, Nat.reduceEqDiff, Go.Addr.add, ↓reduceIte] at hx252_0)
      have qi252 : (1 < x7_1.length) = True := eq_true (by omega)
      (try rw [show ((1 : Int)).toNat = 1 from rfl] at hx252_0)
      replace p252 := eq_true p252
      replace q252 := eq_true q252
      have p253 : 0 ≤ (2 : Int) := (by omega)
      have q253 : 2 < (x7_1.length : Int) := oD_q (by assumption)
      obtain ⟨ad253, e253, hx253_0⟩ := aI_q (rR_q HO_7.out).2.2 2 p253 q253
      obtain rfl : ad251 = ad253 := (by injection e253)
      (try simp only [show (2 : Int).toNat = 2 from rfl, Nat.reduceMul, Nat.reduceEqDiff, Go.Addr.add, ↓reduceIte] at hx253_0)
      have qi253 : (2 < x7_1.length) = True := eq_true (by omega)
      (try rw [show ((2 : Int)).toNat = 2 from rfl] at hx253_0)
      replace p253 := eq_true p253
      replace q253 := eq_true q253
      obtain ⟨Ao33, co33, eo33⟩ := rS_q HO_0.out
      (first | subst eo33 | (injection eo33 with f1_ f2_ f3_; have f4_ := f1_.symm; have f5_ := f3_.symm; clear f1_ f2_ f3_; subst f4_; subst f5_))
      refine start_ (n := 17) (S := fun w' => w'.cell? ad251 = some (.int .i64 (rd x7_1 0)) ∧ w'.cell? ⟨ad251.block, ad251.off + 1, none⟩ = some (.int .i64 (rd x7_1 1)) ∧ w'.cell? ⟨ad251.block, ad251.off + 2, none⟩ = some (.int .i64 (rd x7_1 2))) (ds := []) #[false, false, false, false, false, false, false, false, false, false, false, false, false, false, false, false, false] m6_q rfl rfl ⟨hx251_0, hx252_0, hx253_0⟩ (fun hHeld => ?_); refine with_tabW impl_command.tab13 impl_command.bits13 (fun HT_ HW_ => ?_)
      generalize wc.drew = w32 at HO_0 HO_6 HO_7 HK HB hx251_0 hx252_0 hx253_0 hHeld ⊢
      refine pJ HT_ 0 55 rfl rfl ?_
      refine pJ HT_ 1 56 rfl rfl ?_
      refine pJ HT_ 2 57 rfl rfl ?_
      refine pJ HT_ 4 59 rfl rfl ?_
      refine pJ HT_ 5 60 rfl rfl ?_
      refine pJ HT_ 7 62 rfl rfl ?_
      refine pJ HT_ 8 63 rfl rfl ?_
      refine take_ (i := 3) (N := some 58) (v := ?_) (a' := ?_) #[true, true, true, true, true, true, false, true, true, false, false, false, false, false, false, false, false] rfl rfl (take_ofW HT_.out HW_.out m6_q) (fun _ _ _ h => h) (Or.inl ⟨by rfl, ?_⟩) hHeld ?_ ?_
      rotate_left
      ·rintro w' ⟨s0, s1, s2⟩
       go_simp
       with_reducible rfl
      rotate_left
      ·simp only [pS_q]
       rfl
      refine take_ (i := 6) (N := some 61) (v := ?_) (a' := ?_) #[true, true, true, true, true, true, true, true, true, false, false, false, false, false, false, false, false] rfl rfl (take_ofW HT_.out HW_.out m6_q) (fun _ _ _ h => h) (Or.inl ⟨by rfl, ?_⟩) hHeld ?_ ?_
      rotate_left
      ·rintro w' ⟨s0, s1, s2⟩
       go_simp
       with_reducible rfl
      rotate_left
      ·simp only [pS_q]
       rfl
      refine take_ (i := 9) (N := some 64) (v := ?_) (a' := ?_) #[true, true, true, true, true, true, true, true, true, true, false, false, false, false, false, false, false] rfl rfl (take_ofW HT_.out HW_.out m6_q) (fun _ _ _ h => h) (Or.inl ⟨by rfl, ?_⟩) hHeld ?_ ?_
      rotate_left
      ·rintro w' ⟨s0, s1, s2⟩
       go_simp
       with_reducible rfl
      rotate_left
      ·simp only [pS_q]
       rfl
      refine pJ HT_ 10 65 rfl rfl ?_
      refine one_ (i := 11) (N := some 66) #[true, true, true, true, true, true, true, true, true, true, true, true, false, false, false, false, false] rfl rfl (one_of HT_.out m6_q) (by decide) (fun K hK => ?_)
      refine goes_ Tryd.func30 m6_q rfl #[.slice Ao33 l0.length co33, .agg #[.int .i64 (rd x7_1 0), .int .i64 (rd x7_1 1), .int .i64 (rd x7_1 2)]] (by rfl) rfl rfl m0_q ?_
      with_reducible refine (impl_StorePut.calls kj18 _ _ l0 (rd x7_1 0) (rd x7_1 1) (rd x7_1 2) t254 false _ ?side1 ?side2 A27.out).mono ?_
      (case side1 => exact m44_q)
      (case side2 => exact m47_q)
      rintro e w' ⟨v255, rfl, ho0, hb⟩
      have HS0_ := (hb.cell (wL_q _ _ (hHeld.1))).trans (hHeld.1)
      have HS1_ := (hb.cell (wL_q _ _ (hHeld.2.1))).trans (hHeld.2.1)
      have HS2_ := (hb.cell (wL_q _ _ (hHeld.2.2))).trans (hHeld.2.2)
      refine ⟨_, rfl, ?_⟩
      replace HO_6 := Ae_q (rO_q (rup HO_6.out) hb)
      replace HO_7 := Ae_q (rO_q (rup HO_7.out) hb)
      have HO256 := Ae_q (rL_q (rW_q (Kd.R_newM (M := fun k_ => (P0_ k_ ∨ w.heap.size ≤ k_)) ho0 m4_q (fun k_ h_ => .inr h_)) (rT_q (rup HO_0.out))) (bZ_q (bel HB.out)))
      replace HO_0 := Ae_q (rE_q (rup HO_0.out) (rB_q ho0) hb)
      replace HK := Ae_q (Kept.below (S := (fun k_ => P0_ k_)) m1_q hb)
      replace HB := Ae_q (bT_q (bel HB.out) hb)
      (try clear hb)
      (try clear hb2)
      (try clear hk)
      (try clear hi)
      (try clear ho0)
      refine hK.out _ _ ⟨HS0_, HS1_, HS2_⟩ (fun hHeld => ?_)
      clear hK K
      refine nJ_q ?_
      refine pJ HT_ 12 54 rfl rfl ?_
      refine pJ HT_ 13 67 rfl rfl ?_
      refine pJ HT_ 14 68 rfl rfl ?_
      refine pJ HT_ 15 13 rfl rfl ?_
      refine pJ HT_ 16 14 rfl rfl ?_
      refine done_ (done_of HT_.out m6_q) ?_
      try go_wp2
      go_ret2
      exact ⟨_, m3_q, m79_q, bel HB.out, m1_q⟩
     replace c23 := fM_q.mpr c23
     subst c23
     have H1 : (if 0 < (t234.length : Int) then (if (rdOf ByteArray.empty t234 0).toList = ([116, 97, 107, 101] : List UInt8) then (impl_command.j2 kj18 l0 t234 x7_1 (x7_1.length : Int) ((x7_1.length : Int) == 3)) else (impl_command.j2 kj18 l0 t234 x7_1 (x7_1.length : Int) false)) else (none)) = some (r1, r2) := by rw [if_neg (show ¬ (false = true) by decide)] at H; exact H
     clear H
     have H := H1
     clear H1
     have HC35 := Ae_q H
     clear H
     go_upto_region 17 with (fail)
     go_cut [73] (fun v73 wc => ∃ (kq : Nat) (x73_34 : Bool), v73 = .bool x73_34 ∧ Aside0 (impl_command.j2 kq l0 t234 x7_1 (x7_1.length : Int) x73_34 = some (r1, r2)) ∧ Aside0 (kq ≤ kj18) ∧ Aside0 (Kd.R k49 49 wc w0.heap.size (fun k_ => (P0_ k_ ∨ w.heap.size ≤ k_)) u9000_ l0) ∧ Aside0 (Kd.R Kd.string 9 wc w0.heap.size (fun k_ => (P0_ k_ ∨ w.heap.size ≤ k_)) (.slice Ao9 t234.length co9) t234) ∧ Aside0 (Kd.R (Kd.int .i64) 3 wc w0.heap.size (fun k_ => (P0_ k_ ∨ w.heap.size ≤ k_)) (.slice Ao20 x7_1.length co20) x7_1) ∧ Aside0 (Kept w wc (fun k_ => P0_ k_)) ∧ Aside0 (Below w0.heap.size w0 wc))
     case first =>
      have H := HC35.out
      clear HC35
      by_cases c36 : 0 < (t234.length : Int)
      rotate_left
      ·rw [if_neg c36] at H
       exact absurd H (by simp)
      rw [if_pos c36] at H
      have c36b0 : decide (0 < (t234.length : Int)) = true := dT_q c36
      have c36b1 : decide (0 < t234.length) = true := dT_q (by omega)
      clear c36
      (first | rw [c36b0] | (simp only [i64_w, i32_w]; rw [c36b0]) | skip)
      by_cases c37 : (rdOf ByteArray.empty t234 0).toList = ([116, 97, 107, 101] : List UInt8)
      ·rw [if_pos c37] at H
       have c37b0 : ((rdOf ByteArray.empty t234 0).toList == ([116, 97, 107, 101] : List UInt8)) = true := beq_iff_eq.mpr c37
       have c37b1 : ((rdOf ByteArray.empty t234 0).toList != ([116, 97, 107, 101] : List UInt8)) = false := nE_q.mpr c37
       clear c37
       have H' := Ae_q H
       clear H
       have p258 : 0 ≤ (0 : Int) := (by omega)
       have q258 : 0 < (t234.length : Int) := oD_q (by assumption)
       obtain ⟨ad258, e258, hx258_0⟩ := Kd.at_string (rR_q HO_6.out).2.2 0 p258 q258
       cases e258
       have qi258 : (0 < t234.length) = True := eq_true (by omega)
       (try rw [show ((0 : Int)).toNat = 0 from rfl] at hx258_0)
       (try rw [Addr.add_zero'] at hx258_0)
       replace p258 := eq_true p258
       replace q258 := eq_true q258
       go_wp2
       go_meet
       case rel => exact ⟨_, (((x7_1.length : Int) == 3)), m2_q, H', ⟨by have := HK1.out; have := HJ18.out; first | omega | exact nR_q _⟩, ⟨rup HO_0.out⟩, ⟨rup HO_6.out⟩, ⟨rup HO_7.out⟩, ⟨m1_q⟩, ⟨bel HB.out⟩⟩
      rw [if_neg c37] at H
      have c37b0 : ((rdOf ByteArray.empty t234 0).toList == ([116, 97, 107, 101] : List UInt8)) = false := fN_q.mpr c37
      have c37b1 : ((rdOf ByteArray.empty t234 0).toList != ([116, 97, 107, 101] : List UInt8)) = true := nI_q.mpr c37
      have H' := Ae_q H
      clear H
      have p258 : 0 ≤ (0 : Int) := (by omega)
      have q258 : 0 < (t234.length : Int) := oD_q (by assumption)
      obtain ⟨ad258, e258, hx258_0⟩ := Kd.at_string (rR_q HO_6.out).2.2 0 p258 q258
      cases e258
      have qi258 : (0 < t234.length) = True := eq_true (by omega)
      (try rw [show ((0 : Int)).toNat = 0 from rfl] at hx258_0)
      (try rw [Addr.add_zero'] at hx258_0)
      replace p258 := eq_true p258
      replace q258 := eq_true q258
      go_wp2
      go_meet
      case rel => exact ⟨_, (false), m2_q, H', ⟨by have := HK1.out; have := HJ18.out; first | omega | exact nR_q _⟩, ⟨rup HO_0.out⟩, ⟨rup HO_6.out⟩, ⟨rup HO_7.out⟩, ⟨m1_q⟩, ⟨bel HB.out⟩⟩
     case rest =>
      clear HC35
      try clear c1
      try clear c2
      try clear p2
      try clear q2
      try clear hx2
      try clear qi2
      try clear c3
      try clear c4
      try clear c4b0
      try clear c4b1
      try clear p6
      try clear c8
      try clear q8
      try clear c10
      try clear c10b0
      try clear c11
      try clear c11b0
      try clear c12
      try clear c12b0
      try clear c14
      try clear c15
      try clear c21
      try clear c21b0
      try clear c21b1
      try clear c22
      try clear c22b0
      try clear c22b1
      try clear c23
      try clear c24
      try clear c24b0
      try clear c24b1
      try clear p24
      try clear q24
      try clear hx24
      try clear c25
      try clear c25b0
      try clear c25b1
      try clear p25
      try clear q25
      try clear hx25
      try clear qi25
      try clear c26
      try clear c26b0
      try clear c26b1
      try clear c28
      try clear c30
      try clear c36
      try clear c36b0
      try clear c36b1
      try clear c37
      try clear c37b0
      try clear c37b1
      try clear hx244_0
      try clear hx250_0
      try clear hx251_0
      try clear hx252_0
      try clear hx253_0
      try clear hx258_0
      try clear p2
      try clear p244
      try clear p250
      try clear p251
      try clear p252
      try clear p253
      try clear p258
      try clear p6
      try clear q2
      try clear q244
      try clear q250
      try clear q251
      try clear q252
      try clear q253
      try clear q258
      try clear q8
      obtain ⟨kq, x73_34, rfl, HA, HJ34, HO_0, HO_6, HO_7, HK, HB⟩ := hcut
      cases kq with
      | zero => exact absurd HA.out (by simp [impl_command.j2])
      | succ kj34 =>
       have H := HA.out
       clear HA
       simp only [impl_command.j2] at H
       by_cases c38 : x73_34 = true
       ·subst c38
        have H1 : (if 0 < (x7_1.length : Int) then (if 1 < (x7_1.length : Int) then (if 2 < (x7_1.length : Int) then ((impl_StoreTake.f kj34 l0 (rd x7_1 0) (rd x7_1 1) (rd x7_1 2)).bind fun bt262 => (if bt262.2.2 = true then ((impl_lotsText.f kj34 (⟨#[116, 111, 111, 107]⟩ : ByteArray) bt262.2.1).bind fun t269 => (some (bt262.1, t269))) else (some (l0, (⟨#[110, 111]⟩ : ByteArray))))) else (none)) else (none)) else (none)) = some (r1, r2) := by rw [if_pos rfl] at H; exact H
        clear H
        have H := H1
        clear H1
        by_cases c39 : 0 < (x7_1.length : Int)
        rotate_left
        ·rw [if_neg c39] at H
         exact absurd H (by simp)
        rw [if_pos c39] at H
        have c39b0 : decide (0 < (x7_1.length : Int)) = true := dT_q c39
        have c39b1 : decide (0 < x7_1.length) = true := dT_q (by omega)
        clear c39
        by_cases c40 : 1 < (x7_1.length : Int)
        rotate_left
        ·rw [if_neg c40] at H
         exact absurd H (by simp)
        rw [if_pos c40] at H
        have c40b0 : decide (1 < (x7_1.length : Int)) = true := dT_q c40
        have c40b1 : decide (1 < x7_1.length) = true := dT_q (by omega)
        clear c40
        by_cases c41 : 2 < (x7_1.length : Int)
        rotate_left
        ·rw [if_neg c41] at H
         exact absurd H (by simp)
        rw [if_pos c41] at H
        have c41b0 : decide (2 < (x7_1.length : Int)) = true := dT_q c41
        have c41b1 : decide (2 < x7_1.length) = true := dT_q (by omega)
        clear c41
        replace H := oB_q.mp H
        obtain ⟨⟨t262, t263, t264⟩, A420, H⟩ := H
        replace H : (if t264 = true then ((impl_lotsText.f kj34 (⟨#[116, 111, 111, 107]⟩ : ByteArray) t263).bind fun t269 => (some (t262, t269))) else (some (l0, (⟨#[110, 111]⟩ : ByteArray)))) = some (r1, r2) := H
        have A42 := Ae_q A420
        clear A420
        by_cases c43 : t264 = true
        rotate_left
        ·replace c43 := fM_q.mpr c43
         subst c43
         have H1 : (some (l0, (⟨#[110, 111]⟩ : ByteArray))) = some (r1, r2) := by rw [if_neg (show ¬ (false = true) by decide)] at H; exact H
         clear H
         have H := H1
         clear H1
         simp only [oE_q, pE_q] at H
         obtain ⟨rfl, rfl⟩ := H
         try go_wp2
         replace HO_0 := Ae_q (rD_q HO_0.out)
         replace HO_6 := Ae_q (rD_q HO_6.out)
         replace HO_7 := Ae_q (rD_q HO_7.out)
         replace HK := Ae_q (Kept.drew HK.out)
         replace HB := Ae_q (bD_q HB.out)
         have p259 : 0 ≤ (0 : Int) := (by omega)
         have q259 : 0 < (x7_1.length : Int) := oD_q (by assumption)
         obtain ⟨ad259, e259, hx259_0⟩ := aI_q (rR_q HO_7.out).2.2 0 p259 q259
         cases e259
         have qi259 : (0 < x7_1.length) = True := eq_true (by omega)
         (try rw [show ((0 : Int)).toNat = 0 from rfl] at hx259_0)
         (try rw [Addr.add_zero'] at hx259_0)
         replace p259 := eq_true p259
         replace q259 := eq_true q259
         have p260 : 0 ≤ (1 : Int) := (by omega)
         have q260 : 1 < (x7_1.length : Int) := oD_q (by assumption)
         obtain ⟨ad260, e260, hx260_0⟩ := aI_q (rR_q HO_7.out).2.2 1 p260 q260
         obtain rfl : ad259 = ad260 := (by injection e260)
         (try simp only [show (1 : Int).toNat = 1 from rfl, Nat.reduceMul, Nat.reduceEqDiff, Go.Addr.add, ↓reduceIte] at hx260_0)
         have qi260 : (1 < x7_1.length) = True := eq_true (by omega)
         (try rw [show ((1 : Int)).toNat = 1 from rfl] at hx260_0)
         replace p260 := eq_true p260
         replace q260 := eq_true q260
         have p261 : 0 ≤ (2 : Int) := (by omega)
         have q261 : 2 < (x7_1.length : Int) := oD_q (by assumption)
         obtain ⟨ad261, e261, hx261_0⟩ := aI_q (rR_q HO_7.out).2.2 2 p261 q261
         obtain rfl : ad259 = ad261 := (by injection e261)
         (try simp only [show (2 : Int).toNat = 2 from rfl, Nat.reduceMul, Nat.reduceEqDiff, Go.Addr.add, ↓reduceIte] at hx261_0)
         have qi261 : (2 < x7_1.length) = True := eq_true (by omega)
         (try rw [show ((2 : Int)).toNat = 2 from rfl] at hx261_0)
         replace p261 := eq_true p261
         replace q261 := eq_true q261
         obtain ⟨Ao51, co51, eo51⟩ := rS_q HO_0.out
         (first | subst eo51 | (injection eo51 with f1_ f2_ f3_; have f4_ := f1_.symm; have f5_ := f3_.symm; clear f1_ f2_ f3_; subst f4_; subst f5_))
         refine start_ (n := 18) (S := fun w' => w'.cell? ad259 = some (.int .i64 (rd x7_1 0)) ∧ w'.cell? ⟨ad259.block, ad259.off + 1, none⟩ = some (.int .i64 (rd x7_1 1)) ∧ w'.cell? ⟨ad259.block, ad259.off + 2, none⟩ = some (.int .i64 (rd x7_1 2))) (ds := []) #[false, false, false, false, false, false, false, false, false, false, false, false, false, false, false, false, false, false] m6_q rfl rfl ⟨hx259_0, hx260_0, hx261_0⟩ (fun hHeld => ?_); refine with_tabW impl_command.tab18 impl_command.bits18 (fun HT_ HW_ => ?_)
         generalize wc.drew = w50 at HO_0 HO_6 HO_7 HK HB hx259_0 hx260_0 hx261_0 hHeld ⊢
         refine pJ HT_ 0 83 rfl rfl ?_
         refine pJ HT_ 1 84 rfl rfl ?_
         refine pJ HT_ 2 85 rfl rfl ?_
         refine pJ HT_ 4 87 rfl rfl ?_
         refine pJ HT_ 5 88 rfl rfl ?_
         refine pJ HT_ 7 90 rfl rfl ?_
         refine pJ HT_ 8 91 rfl rfl ?_
         refine take_ (i := 3) (N := some 86) (v := ?_) (a' := ?_) #[true, true, true, true, true, true, false, true, true, false, false, false, false, false, false, false, false, false] rfl rfl (take_ofW HT_.out HW_.out m6_q) (fun _ _ _ h => h) (Or.inl ⟨by rfl, ?_⟩) hHeld ?_ ?_
         rotate_left
         ·rintro w' ⟨s0, s1, s2⟩
          go_simp
          with_reducible rfl
         rotate_left
         ·simp only [pS_q]
          rfl
         refine take_ (i := 6) (N := some 89) (v := ?_) (a' := ?_) #[true, true, true, true, true, true, true, true, true, false, false, false, false, false, false, false, false, false] rfl rfl (take_ofW HT_.out HW_.out m6_q) (fun _ _ _ h => h) (Or.inl ⟨by rfl, ?_⟩) hHeld ?_ ?_
         rotate_left
         ·rintro w' ⟨s0, s1, s2⟩
          go_simp
          with_reducible rfl
         rotate_left
         ·simp only [pS_q]
          rfl
         refine take_ (i := 9) (N := some 92) (v := ?_) (a' := ?_) #[true, true, true, true, true, true, true, true, true, true, false, false, false, false, false, false, false, false] rfl rfl (take_ofW HT_.out HW_.out m6_q) (fun _ _ _ h => h) (Or.inl ⟨by rfl, ?_⟩) hHeld ?_ ?_
         rotate_left
         ·rintro w' ⟨s0, s1, s2⟩
          go_simp
          with_reducible rfl
         rotate_left
         ·simp only [pS_q]
          rfl
         refine one_ (i := 10) (N := some 93) #[true, true, true, true, true, true, true, true, true, true, true, false, false, false, false, false, false, false] rfl rfl (one_of HT_.out m6_q) (by decide) (fun K hK => ?_)
         refine goes_ Tryd.func31 m6_q rfl #[.slice Ao51 l0.length co51, .int .i64 (rd x7_1 0), .int .i64 (rd x7_1 1), .int .i64 (rd x7_1 2)] (by rfl) rfl rfl m0_q ?_
         with_reducible refine (impl_StoreTake.calls kj34 _ _ l0 (rd x7_1 0) (rd x7_1 1) (rd x7_1 2) t262 t263 false _ ?side1 ?side2 A42.out).mono ?_
         (case side1 => exact m44_q)
         (case side2 => exact m47_q)
         rintro e w' ⟨v265, v267, rfl, ho0, ho1, hb⟩
         have HS0_ := (hb.cell (wL_q _ _ (hHeld.1))).trans (hHeld.1)
         have HS1_ := (hb.cell (wL_q _ _ (hHeld.2.1))).trans (hHeld.2.1)
         have HS2_ := (hb.cell (wL_q _ _ (hHeld.2.2))).trans (hHeld.2.2)
         refine ⟨_, rfl, ?_⟩
         replace HO_6 := Ae_q (rO_q (rup HO_6.out) hb)
         replace HO_7 := Ae_q (rO_q (rup HO_7.out) hb)
         have HO266 := Ae_q (rL_q (rW_q (Kd.R_newM (M := fun k_ => (P0_ k_ ∨ w.heap.size ≤ k_)) ho0 m4_q (fun k_ h_ => .inr h_)) (rT_q (rup HO_0.out))) (bZ_q (bel HB.out)))
         have HO268 := Ae_q (rL_q (rW_q (Kd.R_newM (M := fun k_ => (P0_ k_ ∨ w.heap.size ≤ k_)) ho1 m4_q (fun k_ h_ => .inr h_)) (rT_q (rup HO_0.out))) (bZ_q (bel HB.out)))
         replace HO_0 := Ae_q (rM_q (Kd.R_told (Kd.R_told (Kd.R_old (rup HO_0.out) hb) (rB_q ho0)) (rB_q ho1)) (fun _ h_ => h_.1))
         replace HK := Ae_q (Kept.below (S := (fun k_ => P0_ k_)) m1_q hb)
         replace HB := Ae_q (bT_q (bel HB.out) hb)
         (try clear hb)
         (try clear hb2)
         (try clear hk)
         (try clear hi)
         (try clear ho0)
         (try clear ho1)
         refine hK.out _ _ ⟨HS0_, HS1_, HS2_⟩ (fun hHeld => ?_)
         clear hK K
         refine nJ_q ?_
         refine pJ HT_ 11 82 rfl rfl ?_
         refine pJ HT_ 12 94 rfl rfl ?_
         refine pJ HT_ 13 95 rfl rfl ?_
         refine pJ HT_ 14 96 rfl rfl ?_
         refine pJ HT_ 15 15 rfl rfl ?_
         refine pJ HT_ 16 16 rfl rfl ?_
         refine pJ HT_ 17 17 rfl rfl ?_
         refine done_ (done_of HT_.out m6_q) ?_
         try go_wp2
         go_ret2
         exact ⟨_, m3_q, m69_q, bel HB.out, m1_q⟩
        subst c43
        have H1 : ((impl_lotsText.f kj34 (⟨#[116, 111, 111, 107]⟩ : ByteArray) t263).bind fun t269 => (some (t262, t269))) = some (r1, r2) := by rw [if_pos rfl] at H; exact H
        clear H
        have H := H1
        clear H1
        replace H := oB_q.mp H
        obtain ⟨t269, A440, H⟩ := H
        replace H : (some (t262, t269)) = some (r1, r2) := H
        have A44 := Ae_q A440
        clear A440
        simp only [oE_q, pE_q] at H
        obtain ⟨rfl, rfl⟩ := H
        try go_wp2
        replace HO_0 := Ae_q (rD_q HO_0.out)
        replace HO_6 := Ae_q (rD_q HO_6.out)
        replace HO_7 := Ae_q (rD_q HO_7.out)
        replace HK := Ae_q (Kept.drew HK.out)
        replace HB := Ae_q (bD_q HB.out)
        have p259 : 0 ≤ (0 : Int) := (by omega)
        have q259 : 0 < (x7_1.length : Int) := oD_q (by assumption)
        obtain ⟨ad259, e259, hx259_0⟩ := aI_q (rR_q HO_7.out).2.2 0 p259 q259
        cases e259
        have qi259 : (0 < x7_1.length) = True := eq_true (by omega)
        (try rw [show ((0 : Int)).toNat = 0 from rfl] at hx259_0)
        (try rw [Addr.add_zero'] at hx259_0)
        replace p259 := eq_true p259
        replace q259 := eq_true q259
        have p260 : 0 ≤ (1 : Int) := (by omega)
        have q260 : 1 < (x7_1.length : Int) := oD_q (by assumption)
        obtain ⟨ad260, e260, hx260_0⟩ := aI_q (rR_q HO_7.out).2.2 1 p260 q260
        obtain rfl : ad259 = ad260 := (by injection e260)
        (try simp only [show (1 : Int).toNat = 1 from rfl, Nat.reduceMul, Nat.reduceEqDiff, Go.Addr.add, ↓reduceIte] at hx260_0)
        have qi260 : (1 < x7_1.length) = True := eq_true (by omega)
        (try rw [show ((1 : Int)).toNat = 1 from rfl] at hx260_0)
        replace p260 := eq_true p260
        replace q260 := eq_true q260
        have p261 : 0 ≤ (2 : Int) := (by omega)
        have q261 : 2 < (x7_1.length : Int) := oD_q (by assumption)
        obtain ⟨ad261, e261, hx261_0⟩ := aI_q (rR_q HO_7.out).2.2 2 p261 q261
        obtain rfl : ad259 = ad261 := (by injection e261)
        (try simp only [show (2 : Int).toNat = 2 from rfl, Nat.reduceMul, Nat.reduceEqDiff, Go.Addr.add, ↓reduceIte] at hx261_0)
        have qi261 : (2 < x7_1.length) = True := eq_true (by omega)
        (try rw [show ((2 : Int)).toNat = 2 from rfl] at hx261_0)
        replace p261 := eq_true p261
        replace q261 := eq_true q261
        obtain ⟨Ao46, co46, eo46⟩ := rS_q HO_0.out
        (first | subst eo46 | (injection eo46 with f1_ f2_ f3_; have f4_ := f1_.symm; have f5_ := f3_.symm; clear f1_ f2_ f3_; subst f4_; subst f5_))
        refine start_ (n := 18) (S := fun w' => w'.cell? ad259 = some (.int .i64 (rd x7_1 0)) ∧ w'.cell? ⟨ad259.block, ad259.off + 1, none⟩ = some (.int .i64 (rd x7_1 1)) ∧ w'.cell? ⟨ad259.block, ad259.off + 2, none⟩ = some (.int .i64 (rd x7_1 2))) (ds := []) #[false, false, false, false, false, false, false, false, false, false, false, false, false, false, false, false, false, false] m6_q rfl rfl ⟨hx259_0, hx260_0, hx261_0⟩ (fun hHeld => ?_); refine with_tabW impl_command.tab18 impl_command.bits18 (fun HT_ HW_ => ?_)
        generalize wc.drew = w45 at HO_0 HO_6 HO_7 HK HB hx259_0 hx260_0 hx261_0 hHeld ⊢
        refine pJ HT_ 0 83 rfl rfl ?_
        refine pJ HT_ 1 84 rfl rfl ?_
        refine pJ HT_ 2 85 rfl rfl ?_
        refine pJ HT_ 4 87 rfl rfl ?_
        refine pJ HT_ 5 88 rfl rfl ?_
        refine pJ HT_ 7 90 rfl rfl ?_
        refine pJ HT_ 8 91 rfl rfl ?_
        refine take_ (i := 3) (N := some 86) (v := ?_) (a' := ?_) #[true, true, true, true, true, true, false, true, true, false, false, false, false, false, false, false, false, false] rfl rfl (take_ofW HT_.out HW_.out m6_q) (fun _ _ _ h => h) (Or.inl ⟨by rfl, ?_⟩) hHeld ?_ ?_
        rotate_left
        ·rintro w' ⟨s0, s1, s2⟩
         go_simp
         with_reducible rfl
        rotate_left
        ·simp only [pS_q]
         rfl
        refine take_ (i := 6) (N := some 89) (v := ?_) (a' := ?_) #[true, true, true, true, true, true, true, true, true, false, false, false, false, false, false, false, false, false] rfl rfl (take_ofW HT_.out HW_.out m6_q) (fun _ _ _ h => h) (Or.inl ⟨by rfl, ?_⟩) hHeld ?_ ?_
        rotate_left
        ·rintro w' ⟨s0, s1, s2⟩
         go_simp
         with_reducible rfl
        rotate_left
        ·simp only [pS_q]
         rfl
        refine take_ (i := 9) (N := some 92) (v := ?_) (a' := ?_) #[true, true, true, true, true, true, true, true, true, true, false, false, false, false, false, false, false, false] rfl rfl (take_ofW HT_.out HW_.out m6_q) (fun _ _ _ h => h) (Or.inl ⟨by rfl, ?_⟩) hHeld ?_ ?_
        rotate_left
        ·rintro w' ⟨s0, s1, s2⟩
         go_simp
         with_reducible rfl
        rotate_left
        ·simp only [pS_q]
         rfl
        refine one_ (i := 10) (N := some 93) #[true, true, true, true, true, true, true, true, true, true, true, false, false, false, false, false, false, false] rfl rfl (one_of HT_.out m6_q) (by decide) (fun K hK => ?_)
        refine goes_ Tryd.func31 m6_q rfl #[.slice Ao46 l0.length co46, .int .i64 (rd x7_1 0), .int .i64 (rd x7_1 1), .int .i64 (rd x7_1 2)] (by rfl) rfl rfl m0_q ?_
        with_reducible refine (impl_StoreTake.calls kj34 _ _ l0 (rd x7_1 0) (rd x7_1 1) (rd x7_1 2) t262 t263 true _ ?side1 ?side2 A42.out).mono ?_
        (case side1 => exact m44_q)
        (case side2 => exact m47_q)
        rintro e w' ⟨v265, v267, rfl, ho0, ho1, hb⟩
        have HS0_ := (hb.cell (wL_q _ _ (hHeld.1))).trans (hHeld.1)
        have HS1_ := (hb.cell (wL_q _ _ (hHeld.2.1))).trans (hHeld.2.1)
        have HS2_ := (hb.cell (wL_q _ _ (hHeld.2.2))).trans (hHeld.2.2)
        refine ⟨_, rfl, ?_⟩
        replace HO_6 := Ae_q (rO_q (rup HO_6.out) hb)
        replace HO_7 := Ae_q (rO_q (rup HO_7.out) hb)
        have HO266 := Ae_q (rL_q (rW_q (Kd.R_newM (M := fun k_ => (P0_ k_ ∨ w.heap.size ≤ k_)) ho0 m4_q (fun k_ h_ => .inr h_)) (rT_q (rup HO_0.out))) (bZ_q (bel HB.out)))
        have HO268 := Ae_q (rL_q (rW_q (Kd.R_newM (M := fun k_ => (P0_ k_ ∨ w.heap.size ≤ k_)) ho1 m4_q (fun k_ h_ => .inr h_)) (rT_q (rup HO_0.out))) (bZ_q (bel HB.out)))
        replace HO_0 := Ae_q (rM_q (Kd.R_told (Kd.R_told (Kd.R_old (rup HO_0.out) hb) (rB_q ho0)) (rB_q ho1)) (fun _ h_ => h_.1))
        replace HK := Ae_q (Kept.below (S := (fun k_ => P0_ k_)) m1_q hb)
        replace HB := Ae_q (bT_q (bel HB.out) hb)
        (try clear hb)
        (try clear hb2)
        (try clear hk)
        (try clear hi)
        (try clear ho0)
        (try clear ho1)
        refine hK.out _ _ ⟨HS0_, HS1_, HS2_⟩ (fun hHeld => ?_)
        clear hK K
        refine nJ_q ?_
        refine pJ HT_ 11 82 rfl rfl ?_
        refine pJ HT_ 12 94 rfl rfl ?_
        refine pJ HT_ 13 95 rfl rfl ?_
        refine pJ HT_ 14 96 rfl rfl ?_
        refine pJ HT_ 15 15 rfl rfl ?_
        refine pJ HT_ 16 16 rfl rfl ?_
        refine pJ HT_ 17 17 rfl rfl ?_
        refine done_ (done_of HT_.out m6_q) ?_
        obtain ⟨Ao48, co48, eo48⟩ := rS_q HO268.out
        subst eo48
        try go_wp2_with (first | ((with_reducible refine gC_q (f := 23) rfl ?_); refine gL_q (some 102) rfl rfl Tryd.func23 m6_q rfl #[.string (⟨#[116, 111, 111, 107]⟩ : ByteArray), .slice Ao48 t263.length co48] rfl m0_q ?_; (with_reducible refine (impl_lotsText.calls kj34 (⟨#[116, 111, 111, 107]⟩ : ByteArray) _ _ t263 t269 _ ?side1 ?side2 A44.out m29_q).mono ?_); (case side1 => exact cup (rR_q HO268.out).2.2); (case side2 => exact (rR_q HO268.out).2.1); rintro e w' ⟨rfl, hb⟩; refine ⟨_, rfl, ?_⟩; replace HO_0 := Ae_q (rO_q (rup HO_0.out) hb); replace HO_6 := Ae_q (rO_q (rup HO_6.out) hb); replace HO_7 := Ae_q (rO_q (rup HO_7.out) hb); replace HO266 := Ae_q (rO_q (rup HO266.out) hb); replace HO268 := Ae_q (rO_q (rup HO268.out) hb); replace HK := Ae_q (Kept.below (S := (fun k_ => P0_ k_)) m1_q hb); replace HB := Ae_q (bT_q (bel HB.out) hb); (try clear hb); (try clear hb2); (try clear hk); (try clear hi)))
        go_ret2
        exact ⟨_, m3_q, by (with_reducible repeat (first | apply rA_q | apply rN_q | apply rD_q)); exact rM_q HO266.out (fun _ hk => hk.1.1), bel HB.out, m1_q⟩
       replace c38 := fM_q.mpr c38
       subst c38
       have H1 : (if 0 < (t234.length : Int) then (if (rdOf ByteArray.empty t234 0).toList = ([100, 114, 111, 112] : List UInt8) then (impl_command.j3 kj34 l0 t234 x7_1 (x7_1.length : Int) ((x7_1.length : Int) == 1)) else (impl_command.j3 kj34 l0 t234 x7_1 (x7_1.length : Int) false)) else (none)) = some (r1, r2) := by rw [if_neg (show ¬ (false = true) by decide)] at H; exact H
       clear H
       have H := H1
       clear H1
       have HC53 := Ae_q H
       clear H
       go_upto_region 22 with (fail)
       go_cut [103] (fun v103 wc => ∃ (kq : Nat) (x103_52 : Bool), v103 = .bool x103_52 ∧ Aside0 (impl_command.j3 kq l0 t234 x7_1 (x7_1.length : Int) x103_52 = some (r1, r2)) ∧ Aside0 (kq ≤ kj34) ∧ Aside0 (Kd.R k49 49 wc w0.heap.size (fun k_ => (P0_ k_ ∨ w.heap.size ≤ k_)) u9000_ l0) ∧ Aside0 (Kd.R Kd.string 9 wc w0.heap.size (fun k_ => (P0_ k_ ∨ w.heap.size ≤ k_)) (.slice Ao9 t234.length co9) t234) ∧ Aside0 (Kd.R (Kd.int .i64) 3 wc w0.heap.size (fun k_ => (P0_ k_ ∨ w.heap.size ≤ k_)) (.slice Ao20 x7_1.length co20) x7_1) ∧ Aside0 (Kept w wc (fun k_ => P0_ k_)) ∧ Aside0 (Below w0.heap.size w0 wc))
       case first =>
        have H := HC53.out
        clear HC53
        by_cases c54 : 0 < (t234.length : Int)
        rotate_left
        ·rw [if_neg c54] at H
         exact absurd H (by simp)
        rw [if_pos c54] at H
        have c54b0 : decide (0 < (t234.length : Int)) = true := dT_q c54
        have c54b1 : decide (0 < t234.length) = true := dT_q (by omega)
        clear c54
        (first | rw [c54b0] | (simp only [i64_w, i32_w]; rw [c54b0]) | skip)
        by_cases c55 : (rdOf ByteArray.empty t234 0).toList = ([100, 114, 111, 112] : List UInt8)
        ·rw [if_pos c55] at H
         have c55b0 : ((rdOf ByteArray.empty t234 0).toList == ([100, 114, 111, 112] : List UInt8)) = true := beq_iff_eq.mpr c55
         have c55b1 : ((rdOf ByteArray.empty t234 0).toList != ([100, 114, 111, 112] : List UInt8)) = false := nE_q.mpr c55
         clear c55
         have H' := Ae_q H
         clear H
         have p270 : 0 ≤ (0 : Int) := (by omega)
         have q270 : 0 < (t234.length : Int) := oD_q (by assumption)
         obtain ⟨ad270, e270, hx270_0⟩ := Kd.at_string (rR_q HO_6.out).2.2 0 p270 q270
         cases e270
         have qi270 : (0 < t234.length) = True := eq_true (by omega)
         (try rw [show ((0 : Int)).toNat = 0 from rfl] at hx270_0)
         (try rw [Addr.add_zero'] at hx270_0)
         replace p270 := eq_true p270
         replace q270 := eq_true q270
         go_wp2
         go_meet
         case rel => exact ⟨_, (((x7_1.length : Int) == 1)), m2_q, H', ⟨m91_q⟩, ⟨rup HO_0.out⟩, ⟨rup HO_6.out⟩, ⟨rup HO_7.out⟩, ⟨m1_q⟩, ⟨bel HB.out⟩⟩
        rw [if_neg c55] at H
        have c55b0 : ((rdOf ByteArray.empty t234 0).toList == ([100, 114, 111, 112] : List UInt8)) = false := fN_q.mpr c55
        have c55b1 : ((rdOf ByteArray.empty t234 0).toList != ([100, 114, 111, 112] : List UInt8)) = true := nI_q.mpr c55
        have H' := Ae_q H
        clear H
        have p270 : 0 ≤ (0 : Int) := (by omega)
        have q270 : 0 < (t234.length : Int) := oD_q (by assumption)
        obtain ⟨ad270, e270, hx270_0⟩ := Kd.at_string (rR_q HO_6.out).2.2 0 p270 q270
        cases e270
        have qi270 : (0 < t234.length) = True := eq_true (by omega)
        (try rw [show ((0 : Int)).toNat = 0 from rfl] at hx270_0)
        (try rw [Addr.add_zero'] at hx270_0)
        replace p270 := eq_true p270
        replace q270 := eq_true q270
        go_wp2
        go_meet
        case rel => exact ⟨_, (false), m2_q, H', ⟨m91_q⟩, ⟨rup HO_0.out⟩, ⟨rup HO_6.out⟩, ⟨rup HO_7.out⟩, ⟨m1_q⟩, ⟨bel HB.out⟩⟩
       case rest =>
        clear HC53
        try clear c2
        try clear p2
        try clear q2
        try clear hx2
        try clear qi2
        try clear c3
        try clear c4
        try clear c5
        try clear p6
        try clear q8
        try clear c23
        try clear p24
        try clear q24
        try clear p25
        try clear q25
        try clear hx25
        try clear qi25
        try clear p26
        try clear q26
        try clear hx26
        try clear qi26
        try clear p27
        try clear q27
        try clear hx27
        try clear qi27
        try clear c31
        try clear c38
        try clear c39
        try clear c39b0
        try clear c39b1
        try clear c40
        try clear c40b0
        try clear c40b1
        try clear c41
        try clear c41b0
        try clear c41b1
        try clear c43
        try clear c54
        try clear c54b0
        try clear c54b1
        try clear c55
        try clear c55b0
        try clear c55b1
        try clear hx258_0
        try clear hx259_0
        try clear hx260_0
        try clear hx261_0
        try clear hx270_0
        try clear p2
        try clear p244
        try clear p250
        try clear p251
        try clear p252
        try clear p253
        try clear p258
        try clear p259
        try clear p260
        try clear p261
        try clear p270
        try clear p6
        try clear q2
        try clear q244
        try clear q250
        try clear q251
        try clear q252
        try clear q253
        try clear q258
        try clear q259
        try clear q260
        try clear q261
        try clear q270
        try clear q8
        obtain ⟨kq, x103_52, rfl, HA, HJ52, HO_0, HO_6, HO_7, HK, HB⟩ := hcut
        cases kq with
        | zero => exact absurd HA.out (by simp [impl_command.j3])
        | succ kj52 =>
         have H := HA.out
         clear HA
         simp only [impl_command.j3] at H
         by_cases c56 : x103_52 = true
         ·subst c56
          have H1 : (if 0 < (x7_1.length : Int) then ((impl_StoreDrop.f kj52 l0 (rd x7_1 0)).bind fun bt272 => ((impl_lotsText.f kj52 (⟨#[100, 114, 111, 112, 112, 101, 100]⟩ : ByteArray) bt272.2).bind fun t278 => (some (bt272.1, t278)))) else (none)) = some (r1, r2) := by rw [if_pos rfl] at H; exact H
          clear H
          have H := H1
          clear H1
          by_cases c57 : 0 < (x7_1.length : Int)
          rotate_left
          ·rw [if_neg c57] at H
           exact absurd H (by simp)
          rw [if_pos c57] at H
          have c57b0 : decide (0 < (x7_1.length : Int)) = true := dT_q c57
          have c57b1 : decide (0 < x7_1.length) = true := dT_q (by omega)
          clear c57
          replace H := oB_q.mp H
          obtain ⟨⟨t272, t273⟩, A580, H⟩ := H
          replace H : ((impl_lotsText.f kj52 (⟨#[100, 114, 111, 112, 112, 101, 100]⟩ : ByteArray) t273).bind fun t278 => (some (t272, t278))) = some (r1, r2) := H
          have A58 := Ae_q A580
          clear A580
          replace H := oB_q.mp H
          obtain ⟨t278, A590, H⟩ := H
          replace H : (some (t272, t278)) = some (r1, r2) := H
          have A59 := Ae_q A590
          clear A590
          simp only [oE_q, pE_q] at H
          obtain ⟨rfl, rfl⟩ := H
          have p271 : 0 ≤ (0 : Int) := (by omega)
          have q271 : 0 < (x7_1.length : Int) := oD_q (by assumption)
          obtain ⟨ad271, e271, hx271_0⟩ := aI_q (rR_q HO_7.out).2.2 0 p271 q271
          cases e271
          have qi271 : (0 < x7_1.length) = True := eq_true (by omega)
          (try rw [show ((0 : Int)).toNat = 0 from rfl] at hx271_0)
          (try rw [Addr.add_zero'] at hx271_0)
          replace p271 := eq_true p271
          replace q271 := eq_true q271
          obtain ⟨Ao60, co60, eo60⟩ := rS_q HO_0.out
          subst eo60
          go_wp2_with (first | ((with_reducible refine gC_q (f := 32) rfl ?_); refine gL_q (some 117) rfl rfl Tryd.func32 m6_q rfl #[.slice Ao60 l0.length co60, .int .i64 (rd x7_1 0)] rfl m0_q ?_; (with_reducible refine (impl_StoreDrop.calls kj52 _ _ l0 (rd x7_1 0) t272 t273 _ ?side1 ?side2 A58.out).mono ?_); (case side1 => exact m44_q); (case side2 => exact m47_q); rintro e w' ⟨v274, v276, rfl, ho0, ho1, hb⟩; refine ⟨_, rfl, ?_⟩; replace HO_6 := Ae_q (rO_q (rup HO_6.out) hb); replace HO_7 := Ae_q (rO_q (rup HO_7.out) hb); have HO275 := Ae_q (rL_q (rW_q (Kd.R_newM (M := fun k_ => (P0_ k_ ∨ w.heap.size ≤ k_)) ho0 m4_q (fun k_ h_ => .inr h_)) (rT_q (rup HO_0.out))) (bZ_q (bel HB.out))); have HO277 := Ae_q (rL_q (rW_q (Kd.R_newM (M := fun k_ => (P0_ k_ ∨ w.heap.size ≤ k_)) ho1 m4_q (fun k_ h_ => .inr h_)) (rT_q (rup HO_0.out))) (bZ_q (bel HB.out))); replace HO_0 := Ae_q (rM_q (Kd.R_told (Kd.R_told (Kd.R_old (rup HO_0.out) hb) (rB_q ho0)) (rB_q ho1)) (fun _ h_ => h_.1)); replace HK := Ae_q (Kept.below (S := (fun k_ => P0_ k_)) m1_q hb); replace HB := Ae_q (bT_q (bel HB.out) hb); (try clear hb); (try clear hb2); (try clear hk); (try clear hi); (try clear ho0); (try clear ho1); obtain ⟨Ao62, co62, eo62⟩ := rS_q HO277.out; subst eo62) | ((with_reducible refine gC_q (f := 23) rfl ?_); refine gL_q (some 122) rfl rfl Tryd.func23 m6_q rfl #[.string (⟨#[100, 114, 111, 112, 112, 101, 100]⟩ : ByteArray), .slice Ao62 t273.length co62] rfl m0_q ?_; (with_reducible refine (impl_lotsText.calls kj52 (⟨#[100, 114, 111, 112, 112, 101, 100]⟩ : ByteArray) _ _ t273 t278 _ ?side1 ?side2 A59.out m29_q).mono ?_); (case side1 => exact cup (rR_q HO277.out).2.2); (case side2 => exact (rR_q HO277.out).2.1); rintro e w' ⟨rfl, hb⟩; refine ⟨_, rfl, ?_⟩; replace HO_0 := Ae_q (rO_q (rup HO_0.out) hb); replace HO_6 := Ae_q (rO_q (rup HO_6.out) hb); replace HO_7 := Ae_q (rO_q (rup HO_7.out) hb); replace HO275 := Ae_q (rO_q (rup HO275.out) hb); replace HO277 := Ae_q (rO_q (rup HO277.out) hb); replace HK := Ae_q (Kept.below (S := (fun k_ => P0_ k_)) m1_q hb); replace HB := Ae_q (bT_q (bel HB.out) hb); (try clear hb); (try clear hb2); (try clear hk); (try clear hi)))
          go_ret2
          exact ⟨_, m3_q, by (with_reducible repeat (first | apply rA_q | apply rN_q | apply rD_q)); exact rM_q HO275.out (fun _ hk => hk.1.1), bel HB.out, m1_q⟩
         replace c56 := fM_q.mpr c56
         subst c56
         have H1 : (if 0 < (t234.length : Int) then (if (rdOf ByteArray.empty t234 0).toList = ([104, 97, 118, 101] : List UInt8) then (impl_command.j4 kj52 l0 t234 x7_1 (x7_1.length : Int) ((x7_1.length : Int) == 2)) else (impl_command.j4 kj52 l0 t234 x7_1 (x7_1.length : Int) false)) else (none)) = some (r1, r2) := by rw [if_neg (show ¬ (false = true) by decide)] at H; exact H
         clear H
         have H := H1
         clear H1
         have HC64 := Ae_q H
         clear H
         go_upto_region 25 with (fail)
         go_cut [123] (fun v123 wc => ∃ (kq : Nat) (x123_63 : Bool), v123 = .bool x123_63 ∧ Aside0 (impl_command.j4 kq l0 t234 x7_1 (x7_1.length : Int) x123_63 = some (r1, r2)) ∧ Aside0 (kq ≤ kj52) ∧ Aside0 (Kd.R k49 49 wc w0.heap.size (fun k_ => (P0_ k_ ∨ w.heap.size ≤ k_)) u9000_ l0) ∧ Aside0 (Kd.R Kd.string 9 wc w0.heap.size (fun k_ => (P0_ k_ ∨ w.heap.size ≤ k_)) (.slice Ao9 t234.length co9) t234) ∧ Aside0 (Kd.R (Kd.int .i64) 3 wc w0.heap.size (fun k_ => (P0_ k_ ∨ w.heap.size ≤ k_)) (.slice Ao20 x7_1.length co20) x7_1) ∧ Aside0 (Kept w wc (fun k_ => P0_ k_)) ∧ Aside0 (Below w0.heap.size w0 wc))
         case first =>
          have H := HC64.out
          clear HC64
          by_cases c65 : 0 < (t234.length : Int)
          rotate_left
          ·rw [if_neg c65] at H
           exact absurd H (by simp)
          rw [if_pos c65] at H
          have c65b0 : decide (0 < (t234.length : Int)) = true := dT_q c65
          have c65b1 : decide (0 < t234.length) = true := dT_q (by omega)
          clear c65
          (first | rw [c65b0] | (simp only [i64_w, i32_w]; rw [c65b0]) | skip)
          by_cases c66 : (rdOf ByteArray.empty t234 0).toList = ([104, 97, 118, 101] : List UInt8)
          ·rw [if_pos c66] at H
           have c66b0 : ((rdOf ByteArray.empty t234 0).toList == ([104, 97, 118, 101] : List UInt8)) = true := beq_iff_eq.mpr c66
           have c66b1 : ((rdOf ByteArray.empty t234 0).toList != ([104, 97, 118, 101] : List UInt8)) = false := nE_q.mpr c66
           clear c66
           have H' := Ae_q H
           clear H
           have p279 : 0 ≤ (0 : Int) := (by omega)
           have q279 : 0 < (t234.length : Int) := oD_q (by assumption)
           obtain ⟨ad279, e279, hx279_0⟩ := Kd.at_string (rR_q HO_6.out).2.2 0 p279 q279
           cases e279
           have qi279 : (0 < t234.length) = True := eq_true (by omega)
           (try rw [show ((0 : Int)).toNat = 0 from rfl] at hx279_0)
           (try rw [Addr.add_zero'] at hx279_0)
           replace p279 := eq_true p279
           replace q279 := eq_true q279
           go_wp2
           go_meet
           case rel => exact ⟨_, (((x7_1.length : Int) == 2)), m2_q, H', ⟨m80_q⟩, ⟨rup HO_0.out⟩, ⟨rup HO_6.out⟩, ⟨rup HO_7.out⟩, ⟨m1_q⟩, ⟨bel HB.out⟩⟩
          rw [if_neg c66] at H
          have c66b0 : ((rdOf ByteArray.empty t234 0).toList == ([104, 97, 118, 101] : List UInt8)) = false := fN_q.mpr c66
          have c66b1 : ((rdOf ByteArray.empty t234 0).toList != ([104, 97, 118, 101] : List UInt8)) = true := nI_q.mpr c66
          have H' := Ae_q H
          clear H
          have p279 : 0 ≤ (0 : Int) := (by omega)
          have q279 : 0 < (t234.length : Int) := oD_q (by assumption)
          obtain ⟨ad279, e279, hx279_0⟩ := Kd.at_string (rR_q HO_6.out).2.2 0 p279 q279
          cases e279
          have qi279 : (0 < t234.length) = True := eq_true (by omega)
          (try rw [show ((0 : Int)).toNat = 0 from rfl] at hx279_0)
          (try rw [Addr.add_zero'] at hx279_0)
          replace p279 := eq_true p279
          replace q279 := eq_true q279
          go_wp2
          go_meet
          case rel => exact ⟨_, (false), m2_q, H', ⟨m80_q⟩, ⟨rup HO_0.out⟩, ⟨rup HO_6.out⟩, ⟨rup HO_7.out⟩, ⟨m1_q⟩, ⟨bel HB.out⟩⟩
         case rest =>
          clear HC64
          try clear c2
          try clear p2
          try clear q2
          try clear hx2
          try clear qi2
          try clear c3
          try clear c4
          try clear c5
          try clear c6
          try clear p6
          try clear q8
          try clear c23
          try clear p24
          try clear q24
          try clear p25
          try clear q25
          try clear hx25
          try clear qi25
          try clear p26
          try clear q26
          try clear hx26
          try clear qi26
          try clear p27
          try clear q27
          try clear hx27
          try clear qi27
          try clear c31
          try clear c32
          try clear c38
          try clear c39
          try clear c39b0
          try clear c39b1
          try clear c40
          try clear c40b0
          try clear c40b1
          try clear c41
          try clear c41b0
          try clear c41b1
          try clear c43
          try clear c54
          try clear c54b0
          try clear c54b1
          try clear c55
          try clear c55b0
          try clear c55b1
          try clear c56
          try clear c57
          try clear c57b0
          try clear c57b1
          try clear c65
          try clear c65b0
          try clear c65b1
          try clear c66
          try clear c66b0
          try clear c66b1
          try clear hx258_0
          try clear hx259_0
          try clear hx260_0
          try clear hx261_0
          try clear hx270_0
          try clear hx271_0
          try clear hx279_0
          try clear p2
          try clear p24
          try clear p244
          try clear p25
          try clear p250
          try clear p251
          try clear p252
          try clear p253
          try clear p258
          try clear p259
          try clear p26
          try clear p260
          try clear p261
          try clear p27
          try clear p270
          try clear p271
          try clear p279
          try clear p6
          try clear q2
          try clear q24
          try clear q244
          try clear q25
          try clear q250
          try clear q251
          try clear q252
          try clear q253
          try clear q258
          try clear q259
          try clear q26
          try clear q260
          try clear q261
          try clear q27
          try clear q270
          try clear q271
          try clear q279
          try clear q8
          obtain ⟨kq, x123_63, rfl, HA, HJ63, HO_0, HO_6, HO_7, HK, HB⟩ := hcut
          cases kq with
          | zero => exact absurd HA.out (by simp [impl_command.j4])
          | succ kj63 =>
           have H := HA.out
           clear HA
           simp only [impl_command.j4] at H
           by_cases c67 : x123_63 = true
           rotate_left
           ·replace c67 := fM_q.mpr c67
            subst c67
            have H1 : (if 0 < (t234.length : Int) then (if (rdOf ByteArray.empty t234 0).toList = ([115, 104, 111, 119] : List UInt8) then (if (x7_1.length : Int) = 0 then ((impl_lotsText.f kj63 (⟨#[108, 111, 116, 115]⟩ : ByteArray) l0).bind fun t285 => (some (l0, t285))) else (some (l0, (⟨#[119, 104, 97, 116]⟩ : ByteArray)))) else (some (l0, (⟨#[119, 104, 97, 116]⟩ : ByteArray)))) else (none)) = some (r1, r2) := by rw [if_neg (show ¬ (false = true) by decide)] at H; exact H
            clear H
            have H := H1
            clear H1
            by_cases c77 : 0 < (t234.length : Int)
            rotate_left
            ·rw [if_neg c77] at H
             exact absurd H (by simp)
            rw [if_pos c77] at H
            have c77b0 : decide (0 < (t234.length : Int)) = true := dT_q c77
            have c77b1 : decide (0 < t234.length) = true := dT_q (by omega)
            clear c77
            by_cases c78 : (rdOf ByteArray.empty t234 0).toList = ([115, 104, 111, 119] : List UInt8)
            rotate_left
            ·rw [if_neg c78] at H
             have c78b0 : ((rdOf ByteArray.empty t234 0).toList == ([115, 104, 111, 119] : List UInt8)) = false := fN_q.mpr c78
             have c78b1 : ((rdOf ByteArray.empty t234 0).toList != ([115, 104, 111, 119] : List UInt8)) = true := nI_q.mpr c78
             simp only [oE_q, pE_q] at H
             obtain ⟨rfl, rfl⟩ := H
             have p284 : 0 ≤ (0 : Int) := (by omega)
             have q284 : 0 < (t234.length : Int) := oD_q (by assumption)
             obtain ⟨ad284, e284, hx284_0⟩ := Kd.at_string (rR_q HO_6.out).2.2 0 p284 q284
             cases e284
             have qi284 : (0 < t234.length) = True := eq_true (by omega)
             (try rw [show ((0 : Int)).toNat = 0 from rfl] at hx284_0)
             (try rw [Addr.add_zero'] at hx284_0)
             replace p284 := eq_true p284
             replace q284 := eq_true q284
             go_wp2
             go_ret2
             exact ⟨_, m3_q, rup HO_0.out, bel HB.out, m1_q⟩
            rw [if_pos c78] at H
            have c78b0 : ((rdOf ByteArray.empty t234 0).toList == ([115, 104, 111, 119] : List UInt8)) = true := beq_iff_eq.mpr c78
            have c78b1 : ((rdOf ByteArray.empty t234 0).toList != ([115, 104, 111, 119] : List UInt8)) = false := nE_q.mpr c78
            clear c78
            by_cases c79 : (x7_1.length : Int) = 0
            rotate_left
            ·rw [if_neg c79] at H
             have c79b0 : ((x7_1.length : Int) == 0) = false := fN_q.mpr c79
             have c79b1 : ((x7_1.length : Int) != 0) = true := nI_q.mpr c79
             have c79b2 : ¬ (x7_1 = []) := fun h_ => c79 (by rw [h_]; rfl)
             simp only [oE_q, pE_q] at H
             obtain ⟨rfl, rfl⟩ := H
             have p284 : 0 ≤ (0 : Int) := (by omega)
             have q284 : 0 < (t234.length : Int) := oD_q (by assumption)
             obtain ⟨ad284, e284, hx284_0⟩ := Kd.at_string (rR_q HO_6.out).2.2 0 p284 q284
             cases e284
             have qi284 : (0 < t234.length) = True := eq_true (by omega)
             (try rw [show ((0 : Int)).toNat = 0 from rfl] at hx284_0)
             (try rw [Addr.add_zero'] at hx284_0)
             replace p284 := eq_true p284
             replace q284 := eq_true q284
             go_wp2
             go_ret2
             exact ⟨_, m3_q, rup HO_0.out, bel HB.out, m1_q⟩
            rw [if_pos c79] at H
            have c79b0 : ((x7_1.length : Int) == 0) = true := beq_iff_eq.mpr c79
            have c79b1 : ((x7_1.length : Int) != 0) = false := nE_q.mpr c79
            clear c79
            replace H := oB_q.mp H
            obtain ⟨t285, A800, H⟩ := H
            replace H : (some (l0, t285)) = some (r1, r2) := H
            have A80 := Ae_q A800
            clear A800
            simp only [oE_q, pE_q] at H
            obtain ⟨rfl, rfl⟩ := H
            have p284 : 0 ≤ (0 : Int) := (by omega)
            have q284 : 0 < (t234.length : Int) := oD_q (by assumption)
            obtain ⟨ad284, e284, hx284_0⟩ := Kd.at_string (rR_q HO_6.out).2.2 0 p284 q284
            cases e284
            have qi284 : (0 < t234.length) = True := eq_true (by omega)
            (try rw [show ((0 : Int)).toNat = 0 from rfl] at hx284_0)
            (try rw [Addr.add_zero'] at hx284_0)
            replace p284 := eq_true p284
            replace q284 := eq_true q284
            obtain ⟨Ao81, co81, eo81⟩ := rS_q HO_0.out
            subst eo81
            go_wp2_with (first | ((with_reducible refine gC_q (f := 23) rfl ?_); refine gL_q (some 154) rfl rfl Tryd.func23 m6_q rfl #[.string (⟨#[108, 111, 116, 115]⟩ : ByteArray), .slice Ao81 l0.length co81] rfl m0_q ?_; (with_reducible refine (impl_lotsText.calls kj63 (⟨#[108, 111, 116, 115]⟩ : ByteArray) _ _ l0 t285 _ ?side1 ?side2 A80.out m29_q).mono ?_); (case side1 => exact m44_q); (case side2 => exact m47_q); rintro e w' ⟨rfl, hb⟩; refine ⟨_, rfl, ?_⟩; replace HO_0 := Ae_q (rO_q (rup HO_0.out) hb); replace HO_6 := Ae_q (rO_q (rup HO_6.out) hb); replace HO_7 := Ae_q (rO_q (rup HO_7.out) hb); replace HK := Ae_q (Kept.below (S := (fun k_ => P0_ k_)) m1_q hb); replace HB := Ae_q (bT_q (bel HB.out) hb); (try clear hb); (try clear hb2); (try clear hk); (try clear hi)))
            go_ret2
            exact ⟨_, m3_q, rup HO_0.out, bel HB.out, m1_q⟩
           subst c67
           have H1 : (if 0 < (x7_1.length : Int) then (if 1 < (x7_1.length : Int) then ((impl_StoreHas.f kj63 l0 (rd x7_1 0) (rd x7_1 1)).bind fun t282 => ((strconv_Itoa_33.f t282).bind fun t283 => (if 5 + t283.size ≤ 9223372036854775807 then (some (l0, (⟨#[104, 97, 118, 101, 32]⟩ : ByteArray) ++ t283)) else (none)))) else (none)) else (none)) = some (r1, r2) := by rw [if_pos rfl] at H; exact H
           clear H
           have H := H1
           clear H1
           by_cases c68 : 0 < (x7_1.length : Int)
           rotate_left
           ·rw [if_neg c68] at H
            exact absurd H (by simp)
           rw [if_pos c68] at H
           have c68b0 : decide (0 < (x7_1.length : Int)) = true := dT_q c68
           have c68b1 : decide (0 < x7_1.length) = true := dT_q (by omega)
           clear c68
           by_cases c69 : 1 < (x7_1.length : Int)
           rotate_left
           ·rw [if_neg c69] at H
            exact absurd H (by simp)
           rw [if_pos c69] at H
           have c69b0 : decide (1 < (x7_1.length : Int)) = true := dT_q c69
           have c69b1 : decide (1 < x7_1.length) = true := dT_q (by omega)
           clear c69
           replace H := oB_q.mp H
           obtain ⟨t282, A700, H⟩ := H
           replace H : ((strconv_Itoa_33.f t282).bind fun t283 => (if 5 + t283.size ≤ 9223372036854775807 then (some (l0, (⟨#[104, 97, 118, 101, 32]⟩ : ByteArray) ++ t283)) else (none))) = some (r1, r2) := H
           have A70 := Ae_q A700
           clear A700
           replace H := oB_q.mp H
           obtain ⟨t283, A710, H⟩ := H
           replace H : (if 5 + t283.size ≤ 9223372036854775807 then (some (l0, (⟨#[104, 97, 118, 101, 32]⟩ : ByteArray) ++ t283)) else (none)) = some (r1, r2) := H
           have A71 := Ae_q A710
           clear A710
           by_cases c72 : 5 + t283.size ≤ 9223372036854775807
           rotate_left
           ·rw [if_neg c72] at H
            exact absurd H (by simp)
           rw [if_pos c72] at H
           have c72b0 := eq_true c72
           have c72b1 : decide (5 + t283.size ≤ 9223372036854775807) = true := dT_q c72
           try have c72b2 : (9223372036854775807 < 5 + t283.size) = False := eq_false (Nat.not_lt.2 c72)
           simp only [oE_q, pE_q] at H
           obtain ⟨rfl, rfl⟩ := H
           try go_wp2
           replace HO_0 := Ae_q (rD_q HO_0.out)
           replace HO_6 := Ae_q (rD_q HO_6.out)
           replace HO_7 := Ae_q (rD_q HO_7.out)
           replace HK := Ae_q (Kept.drew HK.out)
           replace HB := Ae_q (bD_q HB.out)
           have p280 : 0 ≤ (0 : Int) := (by omega)
           have q280 : 0 < (x7_1.length : Int) := oD_q (by assumption)
           obtain ⟨ad280, e280, hx280_0⟩ := aI_q (rR_q HO_7.out).2.2 0 p280 q280
           cases e280
           have qi280 : (0 < x7_1.length) = True := eq_true (by omega)
           (try rw [show ((0 : Int)).toNat = 0 from rfl] at hx280_0)
           (try rw [Addr.add_zero'] at hx280_0)
           replace p280 := eq_true p280
           replace q280 := eq_true q280
           have p281 : 0 ≤ (1 : Int) := (by omega)
           have q281 : 1 < (x7_1.length : Int) := oD_q (by assumption)
           obtain ⟨ad281, e281, hx281_0⟩ := aI_q (rR_q HO_7.out).2.2 1 p281 q281
           obtain rfl : ad280 = ad281 := (by injection e281)
           (try simp only [show (1 : Int).toNat = 1 from rfl, Nat.reduceMul, Nat.reduceEqDiff, Go.Addr.add, ↓reduceIte] at hx281_0)
           have qi281 : (1 < x7_1.length) = True := eq_true (by omega)
           (try rw [show ((1 : Int)).toNat = 1 from rfl] at hx281_0)
           replace p281 := eq_true p281
           replace q281 := eq_true q281
           obtain ⟨Ao74, co74, eo74⟩ := rS_q HO_0.out
           (first | subst eo74 | (injection eo74 with f1_ f2_ f3_; have f4_ := f1_.symm; have f5_ := f3_.symm; clear f1_ f2_ f3_; subst f4_; subst f5_))
           refine start_ (n := 13) (S := fun w' => w'.cell? ad280 = some (.int .i64 (rd x7_1 0)) ∧ w'.cell? ⟨ad280.block, ad280.off + 1, none⟩ = some (.int .i64 (rd x7_1 1))) (ds := []) #[false, false, false, false, false, false, false, false, false, false, false, false, false] m6_q rfl rfl ⟨hx280_0, hx281_0⟩ (fun hHeld => ?_); refine with_tabW impl_command.tab26 impl_command.bits26 (fun HT_ HW_ => ?_)
           generalize wc.drew = w73 at HO_0 HO_6 HO_7 HK HB hx280_0 hx281_0 hHeld ⊢
           refine pJ HT_ 0 132 rfl rfl ?_
           refine pJ HT_ 1 133 rfl rfl ?_
           refine pJ HT_ 2 134 rfl rfl ?_
           refine pJ HT_ 3 135 rfl rfl ?_
           refine pJ HT_ 5 137 rfl rfl ?_
           refine pJ HT_ 6 138 rfl rfl ?_
           refine take_ (i := 4) (N := some 136) (v := ?_) (a' := ?_) #[true, true, true, true, true, true, true, false, false, false, false, false, false] rfl rfl (take_ofW HT_.out HW_.out m6_q) (fun _ _ _ h => h) (Or.inl ⟨by rfl, ?_⟩) hHeld ?_ ?_
           rotate_left
           ·rintro w' ⟨s0, s1⟩
            go_simp
            with_reducible rfl
           rotate_left
           ·simp only [pS_q]
            rfl
           refine take_ (i := 7) (N := some 139) (v := ?_) (a' := ?_) #[true, true, true, true, true, true, true, true, false, false, false, false, false] rfl rfl (take_ofW HT_.out HW_.out m6_q) (fun _ _ _ h => h) (Or.inl ⟨by rfl, ?_⟩) hHeld ?_ ?_
           rotate_left
           ·rintro w' ⟨s0, s1⟩
            go_simp
            with_reducible rfl
           rotate_left
           ·simp only [pS_q]
            rfl
           refine one_ (i := 8) (N := some 140) #[true, true, true, true, true, true, true, true, true, false, false, false, false] rfl rfl (one_of HT_.out m6_q) (by decide) (fun K hK => ?_)
           refine goes_ Tryd.func34 m6_q rfl #[.slice Ao74 l0.length co74, .int .i64 (rd x7_1 0), .int .i64 (rd x7_1 1)] (by rfl) rfl rfl m0_q ?_
           with_reducible refine (impl_StoreHas.calls kj63 _ _ l0 (rd x7_1 0) (rd x7_1 1) t282 _ ?side1 ?side2 A70.out).mono ?_
           (case side1 => exact m44_q)
           (case side2 => exact m47_q)
           rintro e w' ⟨rfl, hb⟩
           have HS0_ := (hb.cell (wL_q _ _ (hHeld.1))).trans (hHeld.1)
           have HS1_ := (hb.cell (wL_q _ _ (hHeld.2))).trans (hHeld.2)
           refine ⟨_, rfl, ?_⟩
           replace HO_0 := Ae_q (rO_q (rup HO_0.out) hb)
           replace HO_6 := Ae_q (rO_q (rup HO_6.out) hb)
           replace HO_7 := Ae_q (rO_q (rup HO_7.out) hb)
           replace HK := Ae_q (Kept.below (S := (fun k_ => P0_ k_)) m1_q hb)
           replace HB := Ae_q (bT_q (bel HB.out) hb)
           (try clear hb)
           (try clear hb2)
           (try clear hk)
           (try clear hi)
           refine hK.out _ _ ⟨HS0_, HS1_⟩ (fun hHeld => ?_)
           clear hK K
           refine nJ_q ?_
           refine one_ (i := 9) (N := some 141) #[true, true, true, true, true, true, true, true, true, true, false, false, false] rfl rfl (one_of HT_.out m6_q) (by decide) (fun K hK => ?_)
           refine goes_ Tryd.func33 m6_q rfl #[.int .i64 t282] (by rfl) rfl rfl m0_q ?_
           with_reducible refine (strconv_Itoa_33.calls t282 t283 _ A71.out m29_q).mono ?_
           rintro e w' ⟨rfl, hb⟩
           have HS0_ := (hb.cell (wL_q _ _ (hHeld.1))).trans (hHeld.1)
           have HS1_ := (hb.cell (wL_q _ _ (hHeld.2))).trans (hHeld.2)
           refine ⟨_, rfl, ?_⟩
           replace HO_0 := Ae_q (rO_q (rup HO_0.out) hb)
           replace HO_6 := Ae_q (rO_q (rup HO_6.out) hb)
           replace HO_7 := Ae_q (rO_q (rup HO_7.out) hb)
           replace HK := Ae_q (Kept.below (S := (fun k_ => P0_ k_)) m1_q hb)
           replace HB := Ae_q (bT_q (bel HB.out) hb)
           (try clear hb)
           (try clear hb2)
           (try clear hk)
           (try clear hi)
           refine hK.out _ _ ⟨HS0_, HS1_⟩ (fun hHeld => ?_)
           clear hK K
           refine nJ_q ?_
           refine pJ HT_ 10 142 rfl rfl ?_
           refine pJ HT_ 11 4 rfl rfl ?_
           refine pJ HT_ 12 5 rfl rfl ?_
           refine done_ (done_of HT_.out m6_q) ?_
           try go_wp2
           go_ret2
           exact ⟨_, m3_q, rup HO_0.out, bel HB.out, m1_q⟩

end Go.Proofs.YtbclhpibilbdbaaDoor.PSc
