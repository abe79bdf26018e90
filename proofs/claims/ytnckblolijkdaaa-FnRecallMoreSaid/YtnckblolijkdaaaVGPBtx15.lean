import Derived.Test.YtnckblolijkdaaaVGPBtx0
import Derived.Test.YtnckblolijkdaaaVGPBtx1
import Derived.Test.YtnckblolijkdaaaVGPBtx2
import Derived.Test.YtnckblolijkdaaaVGPBtx3
namespace Go.Proofs.Ytnckblolijkdaaa.PBt
open Go.RowKit Go.Proofs.YtnckblolijkdaaaW.PrintWords Go.Proofs.YtnckblolijkdaaaW.PrintLast Go.Proofs.YtnckblolijkdaaaW.PrintMore
attribute [local go_sem] max2_int min2_int max_two min_two max_three min_three max_four min_four
set_option linter.unusedVariables false
set_option linter.unusedSimpArgs false

mutual
def spec_l92Plates.j0 : Nat → List (S39) → List (S49) → Int → List Int → Int → Option ((List (S49)) × Int)
 | 0, _, _, _, _, _ => none
 | k + 1, x1, x5, x6, x1000, x1001 => spec_l92Plates.l0 k x1 x5 x6 0 x1000 x1001
def spec_l92Plates.l0 : Nat → List (S39) → List (S49) → Int → Int → List Int → Int → Option ((List (S49)) × Int)
 | 0, _, _, _, _, _, _ => none
 | k + 1, x1, x5, x6, x7, x1000, x1001 => if x7 < x6 then (if (x1.length : Int) > 0 then ((spec_l6Rd_pick.f k x1000 x1001 (x1.length : Int)).bind fun bt311 => (if 0 ≤ bt311.1 then (if bt311.1 < (x1.length : Int) then ((spec_l6Rd_pick.f k x1000 bt311.2 7).bind fun bt315 => ((spec_l6Rd_pick.f k x1000 bt315.2 120).bind fun bt317 => (if x5.length < 5864062014805 then (spec_l92Plates.l0 k x1 (x5 ++ [(⟨wrap64 (1 + bt315.1), (rd_T39 x1 bt311.1).f0, mx (wrap64 ((wrap64 (((rd_T39 x1 bt311.1).f2) - 10)) + bt317.1)) 0⟩ : S49)]) x6 (wrap64 (x7 + 1)) x1000 bt317.2) else (none)))) else (none)) else (none))) else (spec_l92Plates.l0 k x1 x5 x6 (wrap64 (x7 + 1)) x1000 x1001)) else (if (x5.length : Int) > 0 then ((spec_l6Rd_pick.f k x1000 x1001 24).bind fun bt322 => (spec_l92Plates.j2 k x5 (bt322.1 == 0) x1000 bt322.2)) else (spec_l92Plates.j2 k x5 false x1000 x1001))
def spec_l92Plates.j2 : Nat → List (S49) → Bool → List Int → Int → Option ((List (S49)) × Int)
 | 0, _, _, _, _ => none
 | k + 1, x5, x56, x1000, x1001 => if x56 = true then ((spec_l6Rd_pick.f k x1000 x1001 (x5.length : Int)).bind fun bt324 => ((spec_l6Rd_pick.f k x1000 bt324.2 2).bind fun bt326 => ((spec_l6Rd_pick.f k x1000 bt326.2 9).bind fun bt328 => ((some (([(-1), 1439, 1440] : List Int) : List Int)).bind fun y330 => ((spec_l6Rd_pick.f k x1000 bt328.2 3).bind fun bt333 => (if 0 ≤ bt333.1 then (if bt333.1 < (y330.length : Int) then (if 0 ≤ bt324.1 then (if bt324.1 < (x5.length : Int) then (some ((x5.set (bt324.1 : Int).toNat (⟨wrap64 (bt326.1 * 100), bt328.1, rd y330 bt333.1⟩ : S49)), bt333.2)) else (none)) else (none)) else (none)) else (none))))))) else (some (x5, x1001))
end
def spec_l92Plates.f (k : Nat) (s0_0 : List Int) (s0_1 : Int) (l1 : List (S39)) : Option ((List (S49)) × Int) := (some (([] : List (S49)) : List (S49))).bind fun y302 => ((spec_l6Rd_pick.f k s0_0 s0_1 10).bind fun bt305 => ((spec_l6Rd_pick.f k s0_0 bt305.2 20).bind fun bt307 => (if bt307.1 = 0 then ((spec_l6Rd_pick.f k s0_0 bt307.2 2).bind fun bt309 => (spec_l92Plates.j0 k l1 y302 (wrap64 (16 + bt309.1)) s0_0 bt309.2)) else (spec_l92Plates.j0 k l1 y302 bt305.1 s0_0 bt307.2))))
def spec_l92Plates.T10 : Bool × List (List Nat × List Nat) := (true, [([], []), ([], []), ([1], [1]), ([2], [2]), ([], []), ([4], [4]), ([], []), ([6], [6]), ([7], [7]), ([], []), ([9, 2], [9]), ([8, 10], [8, 10]), ([11], [11]), ([3, 5, 12], [3, 5, 12]), ([13], [13]), ([0, 14, 10], [0, 14]), ([15, 15, 0, 1, 2, 3, 4, 5, 6, 7, 8, 9, 10, 11, 12, 13, 14, 15], [0, 15])])
def spec_l92Plates.B10 : List Nat := [0, 0, 2, 6, 0, 16, 0, 64, 192, 0, 518, 1990, 4038, 8190, 16382, 32767, 65535]
theorem spec_l92Plates.tab10 : rtab .any (opsOf Try.f55 10) = spec_l92Plates.T10 := by kernel_rfl
theorem spec_l92Plates.bits10 : waitsOk spec_l92Plates.T10.2 spec_l92Plates.B10 = true := by kernel_rfl
set_option maxHeartbeats 8000000 in
set_option maxRecDepth 100000 in
theorem spec_l92Plates.calls (k : Nat) (g : Nat) (s0_0 : List Int) (s0_1 : Int) (A1 : Option Addr) (c1 : Nat) (l1 : List (S39)) (r1 : List (S49)) (r2 : Int) (w0 w : World) (hI : IsS82 w0 w g s0_0 s0_1) (hB : Below w0.heap.size w0 w) (hr1 : ∀ W_, KeepBut w W_ g none → Kd.C k39 W_ A1 l1.length l1) (hc1 : l1.length ≤ c1) (h : spec_l92Plates.f k s0_0 s0_1 l1 = some (r1, r2)) :
    Calls Try.prog 55 #[.pointer (some ⟨g, 0, none⟩), .slice A1 l1.length c1] w fun e w' => ∃ v0_ : Value, e = .returned (v0_) ∧ Kd.R k49 49 w' w.heap.size (fun _ => True) v0_ r1 ∧ IsS82 w0 w' g s0_0 r2 ∧ Below w0.heap.size w0 w' ∧ KeepBut w w' g none := by
 have hu39 := Try.underlying39
 have hu49 := Try.underlying49
 have HR1 := Ae_q hr1
 have HC1 := Ae_q hc1
 clear hr1 hc1
 have HI0 := Ae_q hI
 have HK := Ae_q (KeepBut.refl w g none)
 have HL := Ae_q hB.size
 clear hI
 have HW0 := Ae_q hB.size
 have HB := Ae_q hB
 clear hB
 have H : ((some (([] : List (S49)) : List (S49))).bind fun y302 => ((spec_l6Rd_pick.f k s0_0 s0_1 10).bind fun bt305 => ((spec_l6Rd_pick.f k s0_0 bt305.2 20).bind fun bt307 => (if bt307.1 = 0 then ((spec_l6Rd_pick.f k s0_0 bt307.2 2).bind fun bt309 => (spec_l92Plates.j0 k l1 y302 (wrap64 (16 + bt309.1)) s0_0 bt309.2)) else (spec_l92Plates.j0 k l1 y302 bt305.1 s0_0 bt307.2))))) = some (r1, r2) := h
 clear h
 obtain ⟨y302, hy302⟩ : ∃ y_ : List (S49), y_ = (([] : List (S49))) := ⟨_, rfl⟩
 replace H : ((spec_l6Rd_pick.f k s0_0 s0_1 10).bind fun bt305 => ((spec_l6Rd_pick.f k s0_0 bt305.2 20).bind fun bt307 => (if bt307.1 = 0 then ((spec_l6Rd_pick.f k s0_0 bt307.2 2).bind fun bt309 => (spec_l92Plates.j0 k l1 y302 (wrap64 (16 + bt309.1)) s0_0 bt309.2)) else (spec_l92Plates.j0 k l1 y302 bt305.1 s0_0 bt307.2)))) = some (r1, r2) := by first | (rw [hy302]; with_reducible exact H) | (have H2_ := (oS_q _ _).symm.trans H; rw [hy302]; with_reducible exact H2_) | (have H2_ := (oS_q _ _).symm.trans H; with_reducible exact H2_) | with_reducible exact H | (rw [hy302]; exact H) | exact H
 have Ny302 := Ae_q hy302
 clear hy302
 replace H := oB_q.mp H
 obtain ⟨⟨t305, t306⟩, A30, H⟩ := H
 replace H : ((spec_l6Rd_pick.f k s0_0 t306 20).bind fun bt307 => (if bt307.1 = 0 then ((spec_l6Rd_pick.f k s0_0 bt307.2 2).bind fun bt309 => (spec_l92Plates.j0 k l1 y302 (wrap64 (16 + bt309.1)) s0_0 bt309.2)) else (spec_l92Plates.j0 k l1 y302 t305 s0_0 bt307.2))) = some (r1, r2) := H
 have A3 := Ae_q A30
 clear A30
 replace H := oB_q.mp H
 obtain ⟨⟨t307, t308⟩, A40, H⟩ := H
 replace H : (if t307 = 0 then ((spec_l6Rd_pick.f k s0_0 t308 2).bind fun bt309 => (spec_l92Plates.j0 k l1 y302 (wrap64 (16 + bt309.1)) s0_0 bt309.2)) else (spec_l92Plates.j0 k l1 y302 t305 s0_0 t308)) = some (r1, r2) := H
 have A4 := Ae_q A40
 clear A40
 have HC5 := Ae_q H
 clear H
 go_enter Try.func55, Try.ntmps55
 go_upto_if 14 with (first | ((with_reducible refine gD_q (N := 9) rfl ?_); refine Kd.R_lit k49 _ 49 ?hg (N := 9) ?hd (xs := ([] : List (S49))) (inner := []) (ok := fun _ => True) (okp := fun _ => True) ?hr ?hp (fun _ hk => hk) trivial (bR_q _ _) (nR_q _) (by simp) ?_; (case hd => rfl); (case hg => rfl); (case hr => exact m11_q); (case hp => exact m42_q); intro v303 w6 ho7 hb hg_ hnew_; clear hg_ hnew_; (first | rw [← Ny302.out] at ho7 | (simp only [Int.reduceToNat] at ho7; rw [← Ny302.out] at ho7)); have HO304 := Ae_q (rL_q ho7 (keep_size (w := w) (g := g) (row := none) m2_q)); replace HK := Ae_q (kT_q m2_q (kO_q hb g none) (.inl rfl)); replace HB := Ae_q (bT_q m3_q hb); replace HI0 := Ae_q (IsS82.below m4_q hb); clear hb ho7) | ((with_reducible refine gC_q (f := 52) rfl ?_); (first | (refine gL_q (some 11) rfl rfl Try.func52 m9_q rfl #[.pointer (some ⟨g, 0, none⟩), .int .i64 10] rfl m0_q ?_; (with_reducible refine (spec_l6Rd_pick.calls k g s0_0 s0_1 10 t305 t306 w0 _ ?side1 ?side2 A3.out).mono ?_); (case side1 => exact m4_q); (case side2 => exact m3_q); rintro e w' ⟨rfl, hi, hb, hk⟩; refine ⟨_, rfl, ?_⟩; have n0_ := Ae_q (rM_q (rK_q (IsS82.apart (show IsS82 w0 _ g s0_0 s0_1 from by repeat (with_reducible first | exact HI0.out | apply i2_q | apply i0_q | apply i1_q | apply i3_q)) (rup HO304.out) (by decide)) hk (fun _ h => h.2)) (fun _ h => h.1))) | (refine gL_q (some 13) rfl rfl Try.func52 m9_q rfl #[.pointer (some ⟨g, 0, none⟩), .int .i64 20] rfl m0_q ?_; (with_reducible refine (spec_l6Rd_pick.calls k g s0_0 t306 20 t307 t308 w0 _ ?side1 ?side2 A4.out).mono ?_); (case side1 => exact m4_q); (case side2 => exact m3_q); rintro e w' ⟨rfl, hi, hb, hk⟩; refine ⟨_, rfl, ?_⟩; have n0_ := Ae_q (rM_q (rK_q (IsS82.apart (show IsS82 w0 _ g s0_0 t306 from by repeat (with_reducible first | exact HI0.out | apply i2_q | apply i0_q | apply i1_q | apply i3_q)) (rup HO304.out) (by decide)) hk (fun _ h => h.2)) (fun _ h => h.1)))); have n1_ := Ae_q (kT_q m2_q hk (.inl rfl)); have n2_ := Ae_q (hb); have n3_ := Ae_q (hi); clear HO304; clear HK; clear HB; clear HI0; have HO304 := n0_; have HK := n1_; have HB := n2_; have HI0 := n3_; clear n0_ n1_ n2_ n3_; (try clear hb); (try clear hb2); (try clear hk); (try clear hi)))
 (try simp only [Act.put, sA_q, sZ_q, sS_q])
 go_cut [6] (fun v6 wc => ∃ (kq : Nat) (x6_4 : Int) (x1001_4 : Int), v6 = .int .i64 x6_4 ∧ Aside0 (spec_l92Plates.j0 kq l1 y302 x6_4 s0_0 x1001_4 = some (r1, r2)) ∧ Aside0 (kq ≤ k) ∧ Aside0 (Kd.R k49 49 wc w.heap.size (fun _ => True) v303 y302) ∧ Aside0 (IsS82 w0 wc g s0_0 x1001_4) ∧ Aside0 (KeepBut w wc g none) ∧ Aside0 (Below w0.heap.size w0 wc))
 case first =>
  have H := HC5.out
  clear HC5
  by_cases c10 : t307 = 0
  rotate_left
  ·rw [if_neg c10] at H
   have c10b0 : (t307 == 0) = false := fN_q.mpr c10
   have c10b1 : (t307 != 0) = true := nI_q.mpr c10
   (first | rw [c10b0] | (simp only [i64_w, i32_w]; rw [c10b0]) | skip)
   have H' := Ae_q H
   clear H
   go_wp2
   go_meet
   case rel => exact ⟨_, (t305), (t308), m5_q, H', ⟨m43_q⟩, ⟨rup HO304.out⟩, ⟨m4_q⟩, ⟨m2_q⟩, ⟨m3_q⟩⟩
  rw [if_pos c10] at H
  have c10b0 : (t307 == 0) = true := beq_iff_eq.mpr c10
  have c10b1 : (t307 != 0) = false := nE_q.mpr c10
  clear c10
  (first | rw [c10b0] | (simp only [i64_w, i32_w]; rw [c10b0]) | skip)
  replace H := oB_q.mp H
  obtain ⟨⟨t309, t310⟩, A110, H⟩ := H
  replace H : (spec_l92Plates.j0 k l1 y302 (wrap64 (16 + t309)) s0_0 t310) = some (r1, r2) := H
  have A11 := Ae_q A110
  clear A110
  have H' := Ae_q H
  clear H
  go_wp2_with (first | ((with_reducible refine gC_q (f := 52) rfl ?_); refine gL_q (some 16) rfl rfl Try.func52 m9_q rfl #[.pointer (some ⟨g, 0, none⟩), .int .i64 2] rfl m0_q ?_; (with_reducible refine (spec_l6Rd_pick.calls k g s0_0 t308 2 t309 t310 w0 _ ?side1 ?side2 A11.out).mono ?_); (case side1 => exact m4_q); (case side2 => exact m3_q); rintro e w' ⟨rfl, hi, hb, hk⟩; refine ⟨_, rfl, ?_⟩; replace HO304 := Ae_q (rM_q (rK_q (IsS82.apart (show IsS82 w0 _ g s0_0 t308 from by repeat (with_reducible first | exact HI0.out | apply i2_q | apply i0_q | apply i1_q | apply i3_q)) (rup HO304.out) (by decide)) hk (fun _ h => h.2)) (fun _ h => h.1)); replace HK := Ae_q (kT_q m2_q hk (.inl rfl)); replace HB := Ae_q (hb); replace HI0 := Ae_q (hi); (try clear hb); (try clear hb2); (try clear hk); (try clear hi)))
  go_meet
  case rel => exact ⟨_, (wrap64 (16 + t309)), (t310), m5_q, H', ⟨m43_q⟩, ⟨rup HO304.out⟩, ⟨m4_q⟩, ⟨m2_q⟩, ⟨m3_q⟩⟩
 case rest =>
  clear HC5
  try clear c1
  try clear p2
  try clear c5
  try clear p6
  try clear c10
  try clear c10b0
  try clear c10b1
  obtain ⟨kq, x6_4, x1001_4, rfl, HA, HJ4, HO_5, HI0, HK, HB⟩ := hcut
  cases kq with
  | zero => exact absurd HA.out (by simp [spec_l92Plates.j0])
  | succ kj4 =>
   have H := HA.out
   clear HA
   simp only [spec_l92Plates.j0] at H
   have H' := Ae_q H
   clear H
   go_wp2
   go_loopg [5, 7] kj4 (fun kq v5 v7 w' => ∃ (x5_2 : List (S49)) (x7_2 : Int) (x1001_2 : Int), v7 = .int .i64 x7_2 ∧ Aside0 (spec_l92Plates.l0 kq l1 x5_2 x6_4 x7_2 s0_0 x1001_2 = some (r1, r2)) ∧ Aside0 (kq ≤ kj4) ∧ Aside0 (Kd.R k49 49 w' w.heap.size (fun _ => True) v5 x5_2) ∧ Aside0 (IsS82 w0 w' g s0_0 x1001_2) ∧ Aside0 (KeepBut w w' g none) ∧ Aside0 (Below w0.heap.size w0 w'))
   case atStart => exact ⟨(y302), (0), (x1001_4), m5_q, H', ⟨nR_q _⟩, ⟨rup HO_5.out⟩, ⟨m4_q⟩, ⟨m2_q⟩, ⟨m3_q⟩⟩
   case round =>
    clear H'
    try clear c1
    try clear p2
    try clear c5
    try clear p6
    try clear c10
    try clear c10b0
    try clear c10b1
    try clear p2
    try clear p6
    obtain ⟨x5_2, x7_2, x1001_2, rfl, HA, HK2, HO_5, HI0, HK, HB⟩ := hrel
    cases gk with
    | zero => exact absurd HA.out (by simp [spec_l92Plates.l0])
    | succ k2 =>
     have H := HA.out
     clear HA
     simp only [spec_l92Plates.l0] at H
     by_cases c13 : x7_2 < x6_4
     rotate_left
     ·rw [if_neg c13] at H
      have c13b0 : decide (x7_2 < x6_4) = false := dF_q c13
      clear c13
      have HC31 := Ae_q H
      clear H
      go_upto_region 11 with (fail)
      go_cut [56] (fun v56 wc => ∃ (kq : Nat) (x56_30 : Bool) (x1001_30 : Int), v56 = .bool x56_30 ∧ Aside0 (spec_l92Plates.j2 kq x5_2 x56_30 s0_0 x1001_30 = some (r1, r2)) ∧ Aside0 (kq ≤ k2) ∧ Aside0 (Kd.R k49 49 wc w.heap.size (fun _ => True) u5 x5_2) ∧ Aside0 (IsS82 w0 wc g s0_0 x1001_30) ∧ Aside0 (KeepBut w wc g none) ∧ Aside0 (Below w0.heap.size w0 wc))
      case first =>
       have H := HC31.out
       clear HC31
       by_cases c32 : (x5_2.length : Int) > 0
       rotate_left
       ·rw [if_neg c32] at H
        have c32b0 : decide (0 < (x5_2.length : Int)) = false := dF_q c32
        have c32b1 : decide (0 < x5_2.length) = false := dF_q (by omega)
        clear c32
        (first | rw [c32b0] | (simp only [i64_w, i32_w]; rw [c32b0]) | skip)
        have H' := Ae_q H
        clear H
        obtain ⟨Ao36, co36, eo36⟩ := rS_q HO_5.out
        subst eo36
        go_wp2
        go_meet
        case rel => exact ⟨_, (false), (x1001_2), m5_q, H', ⟨by have := HJ4.out; have := HK2.out; first | omega | exact nR_q _⟩, ⟨rup HO_5.out⟩, ⟨m4_q⟩, ⟨m2_q⟩, ⟨m3_q⟩⟩
       rw [if_pos c32] at H
       have c32b0 : decide (0 < (x5_2.length : Int)) = true := dT_q c32
       have c32b1 : decide (0 < x5_2.length) = true := dT_q (by omega)
       clear c32
       (first | rw [c32b0] | (simp only [i64_w, i32_w]; rw [c32b0]) | skip)
       replace H := oB_q.mp H
       obtain ⟨⟨t322, t323⟩, A330, H⟩ := H
       replace H : (spec_l92Plates.j2 k2 x5_2 (t322 == 0) s0_0 t323) = some (r1, r2) := H
       have A33 := Ae_q A330
       clear A330
       have H' := Ae_q H
       clear H
       obtain ⟨Ao34, co34, eo34⟩ := rS_q HO_5.out
       subst eo34
       go_wp2_with (first | (go_at_call 52; (with_reducible refine (spec_l6Rd_pick.calls k2 g s0_0 x1001_2 24 t322 t323 w0 _ ?side1 ?side2 A33.out).mono ?_); (case side1 => exact m4_q); (case side2 => exact m3_q); rintro e w' ⟨rfl, hi, hb, hk⟩; replace HO_5 := Ae_q (rM_q (rK_q (IsS82.apart (show IsS82 w0 _ g s0_0 x1001_2 from by repeat (with_reducible first | exact HI0.out | apply i2_q | apply i0_q | apply i1_q | apply i3_q)) (rup HO_5.out) (by decide)) hk (fun _ h => h.2)) (fun _ h => h.1)); replace HK := Ae_q (kT_q m2_q hk (.inl rfl)); replace HB := Ae_q (hb); replace HI0 := Ae_q (hi); (try clear hb); (try clear hb2); (try clear hk); (try clear hi)))
       go_meet
       case rel => exact ⟨_, ((t322 == 0)), (t323), m5_q, H', ⟨by have := HJ4.out; have := HK2.out; first | omega | exact nR_q _⟩, ⟨rup HO_5.out⟩, ⟨m4_q⟩, ⟨m2_q⟩, ⟨m3_q⟩⟩
      case rest =>
       clear HC31
       try clear c1
       try clear c2
       try clear p2
       try clear c3
       try clear p3
       try clear q3
       try clear hx3
       try clear c5
       try clear p6
       try clear c10
       try clear c10b0
       try clear c10b1
       try clear c13
       try clear c13b0
       try clear c14
       try clear c14b0
       try clear c14b1
       try clear c16
       try clear c16b0
       try clear c17
       try clear c17b0
       try clear c21
       try clear c24
       try clear c31
       try clear p31
       try clear q31
       try clear hx31
       try clear c32
       try clear c32b0
       try clear c32b1
       try clear hcz25_0
       try clear hcz25_1
       try clear hcz25_2
       try clear hcz25_3
       try clear hfz25_0
       try clear hfz25_1
       try clear hfz25_2
       try clear hfz25_3
       try clear hx313_0
       try clear hx313_1
       try clear hx313_2
       try clear hx313_3
       try clear p2
       try clear p313
       try clear p6
       try clear q313
       obtain ⟨kq, x56_30, x1001_30, rfl, HA, HJ30, HO_5, HI0, HK, HB⟩ := hcut
       cases kq with
       | zero => exact absurd HA.out (by simp [spec_l92Plates.j2])
       | succ kj30 =>
        have H := HA.out
        clear HA
        simp only [spec_l92Plates.j2] at H
        by_cases c37 : x56_30 = true
        rotate_left
        ·replace c37 := fM_q.mpr c37
         subst c37
         have H1 : (some (x5_2, x1001_30)) = some (r1, r2) := by rw [if_neg (show ¬ (false = true) by decide)] at H; exact H
         clear H
         have H := H1
         clear H1
         simp only [oE_q, pE_q] at H
         obtain ⟨rfl, rfl⟩ := H
         go_wp2
         go_ret
         exact ⟨_, m6_q, rup HO_5.out, m4_q, m3_q, m2_q⟩
        subst c37
        have H1 : ((spec_l6Rd_pick.f kj30 s0_0 x1001_30 (x5_2.length : Int)).bind fun bt324 => ((spec_l6Rd_pick.f kj30 s0_0 bt324.2 2).bind fun bt326 => ((spec_l6Rd_pick.f kj30 s0_0 bt326.2 9).bind fun bt328 => ((some (([(-1), 1439, 1440] : List Int) : List Int)).bind fun y330 => ((spec_l6Rd_pick.f kj30 s0_0 bt328.2 3).bind fun bt333 => (if 0 ≤ bt333.1 then (if bt333.1 < (y330.length : Int) then (if 0 ≤ bt324.1 then (if bt324.1 < (x5_2.length : Int) then (some ((x5_2.set (bt324.1 : Int).toNat (⟨wrap64 (bt326.1 * 100), bt328.1, rd y330 bt333.1⟩ : S49)), bt333.2)) else (none)) else (none)) else (none)) else (none))))))) = some (r1, r2) := by rw [if_pos rfl] at H; exact H
        clear H
        have H := H1
        clear H1
        replace H := oB_q.mp H
        obtain ⟨⟨t324, t325⟩, A380, H⟩ := H
        replace H : ((spec_l6Rd_pick.f kj30 s0_0 t325 2).bind fun bt326 => ((spec_l6Rd_pick.f kj30 s0_0 bt326.2 9).bind fun bt328 => ((some (([(-1), 1439, 1440] : List Int) : List Int)).bind fun y330 => ((spec_l6Rd_pick.f kj30 s0_0 bt328.2 3).bind fun bt333 => (if 0 ≤ bt333.1 then (if bt333.1 < (y330.length : Int) then (if 0 ≤ t324 then (if t324 < (x5_2.length : Int) then (some ((x5_2.set (t324 : Int).toNat (⟨wrap64 (bt326.1 * 100), bt328.1, rd y330 bt333.1⟩ : S49)), bt333.2)) else (none)) else (none)) else (none)) else (none)))))) = some (r1, r2) := H
        have A38 := Ae_q A380
        clear A380
        replace H := oB_q.mp H
        obtain ⟨⟨t326, t327⟩, A390, H⟩ := H
        replace H : ((spec_l6Rd_pick.f kj30 s0_0 t327 9).bind fun bt328 => ((some (([(-1), 1439, 1440] : List Int) : List Int)).bind fun y330 => ((spec_l6Rd_pick.f kj30 s0_0 bt328.2 3).bind fun bt333 => (if 0 ≤ bt333.1 then (if bt333.1 < (y330.length : Int) then (if 0 ≤ t324 then (if t324 < (x5_2.length : Int) then (some ((x5_2.set (t324 : Int).toNat (⟨wrap64 (t326 * 100), bt328.1, rd y330 bt333.1⟩ : S49)), bt333.2)) else (none)) else (none)) else (none)) else (none))))) = some (r1, r2) := H
        have A39 := Ae_q A390
        clear A390
        replace H := oB_q.mp H
        obtain ⟨⟨t328, t329⟩, A400, H⟩ := H
        replace H : ((some (([(-1), 1439, 1440] : List Int) : List Int)).bind fun y330 => ((spec_l6Rd_pick.f kj30 s0_0 t329 3).bind fun bt333 => (if 0 ≤ bt333.1 then (if bt333.1 < (y330.length : Int) then (if 0 ≤ t324 then (if t324 < (x5_2.length : Int) then (some ((x5_2.set (t324 : Int).toNat (⟨wrap64 (t326 * 100), t328, rd y330 bt333.1⟩ : S49)), bt333.2)) else (none)) else (none)) else (none)) else (none)))) = some (r1, r2) := H
        have A40 := Ae_q A400
        clear A400
        obtain ⟨y330, hy330⟩ : ∃ y_ : List Int, y_ = (([(-1), 1439, 1440] : List Int)) := ⟨_, rfl⟩
        replace H : ((spec_l6Rd_pick.f kj30 s0_0 t329 3).bind fun bt333 => (if 0 ≤ bt333.1 then (if bt333.1 < (y330.length : Int) then (if 0 ≤ t324 then (if t324 < (x5_2.length : Int) then (some ((x5_2.set (t324 : Int).toNat (⟨wrap64 (t326 * 100), t328, rd y330 bt333.1⟩ : S49)), bt333.2)) else (none)) else (none)) else (none)) else (none))) = some (r1, r2) := by first | (rw [hy330]; with_reducible exact H) | (have H2_ := (oS_q _ _).symm.trans H; rw [hy330]; with_reducible exact H2_) | (have H2_ := (oS_q _ _).symm.trans H; with_reducible exact H2_) | with_reducible exact H | (rw [hy330]; exact H) | exact H
        have Ny330 := Ae_q hy330
        clear hy330
        replace H := oB_q.mp H
        obtain ⟨⟨t333, t334⟩, A410, H⟩ := H
        replace H : (if 0 ≤ t333 then (if t333 < (y330.length : Int) then (if 0 ≤ t324 then (if t324 < (x5_2.length : Int) then (some ((x5_2.set (t324 : Int).toNat (⟨wrap64 (t326 * 100), t328, rd y330 t333⟩ : S49)), t334)) else (none)) else (none)) else (none)) else (none)) = some (r1, r2) := H
        have A41 := Ae_q A410
        clear A410
        by_cases c42 : 0 ≤ t333
        rotate_left
        ·rw [if_neg c42] at H
         exact absurd H (by simp)
        rw [if_pos c42] at H
        have c42b0 : decide (0 ≤ t333) = true := dT_q c42
        clear c42
        by_cases c43 : t333 < (y330.length : Int)
        rotate_left
        ·rw [if_neg c43] at H
         exact absurd H (by simp)
        rw [if_pos c43] at H
        have c43b0 : decide (t333 < (y330.length : Int)) = true := dT_q c43
        clear c43
        by_cases c44 : 0 ≤ t324
        rotate_left
        ·rw [if_neg c44] at H
         exact absurd H (by simp)
        rw [if_pos c44] at H
        have c44b0 : decide (0 ≤ t324) = true := dT_q c44
        clear c44
        by_cases c45 : t324 < (x5_2.length : Int)
        rotate_left
        ·rw [if_neg c45] at H
         exact absurd H (by simp)
        rw [if_pos c45] at H
        have c45b0 : decide (t324 < (x5_2.length : Int)) = true := dT_q c45
        clear c45
        obtain ⟨y336, hy336⟩ : ∃ y_ : List (S49), y_ = (x5_2.set (t324 : Int).toNat (⟨wrap64 (t326 * 100), t328, rd y330 t333⟩ : S49)) := ⟨_, rfl⟩
        replace H : (some (y336, t334)) = some (r1, r2) := by first | (rw [hy336]; with_reducible exact H) | (have H2_ := (oS_q _ _).symm.trans H; rw [hy336]; with_reducible exact H2_) | (have H2_ := (oS_q _ _).symm.trans H; with_reducible exact H2_) | with_reducible exact H | (rw [hy336]; exact H) | exact H
        have Ny336 := Ae_q hy336
        clear hy336
        simp only [oE_q, pE_q] at H
        obtain ⟨rfl, rfl⟩ := H
        obtain ⟨Ao47, co47, eo47⟩ := rS_q HO_5.out
        subst eo47
        go_wp2_with (first | ((with_reducible refine gC_q (f := 52) rfl ?_); refine gL_q (some 61) rfl rfl Try.func52 m9_q rfl #[.pointer (some ⟨g, 0, none⟩), .int .i64 (x5_2.length : Int)] rfl m0_q ?_; (with_reducible refine (spec_l6Rd_pick.calls kj30 g s0_0 x1001_30 (x5_2.length : Int) t324 t325 w0 _ ?side1 ?side2 A38.out).mono ?_); (case side1 => exact m4_q); (case side2 => exact m3_q); rintro e w' ⟨rfl, hi, hb, hk⟩; refine ⟨_, rfl, ?_⟩; replace HO_5 := Ae_q (rM_q (rK_q (IsS82.apart (show IsS82 w0 _ g s0_0 x1001_30 from by repeat (with_reducible first | exact HI0.out | apply i2_q | apply i0_q | apply i1_q | apply i3_q)) (rup HO_5.out) (by decide)) hk (fun _ h => h.2)) (fun _ h => h.1)); replace HK := Ae_q (kT_q m2_q hk (.inl rfl)); replace HB := Ae_q (hb); replace HI0 := Ae_q (hi); (try clear hb); (try clear hb2); (try clear hk); (try clear hi)) | ((with_reducible refine gC_q (f := 52) rfl ?_); refine gL_q (some 63) rfl rfl Try.func52 m9_q rfl #[.pointer (some ⟨g, 0, none⟩), .int .i64 2] rfl m0_q ?_; (with_reducible refine (spec_l6Rd_pick.calls kj30 g s0_0 t325 2 t326 t327 w0 _ ?side1 ?side2 A39.out).mono ?_); (case side1 => exact m4_q); (case side2 => exact m3_q); rintro e w' ⟨rfl, hi, hb, hk⟩; refine ⟨_, rfl, ?_⟩; replace HO_5 := Ae_q (rM_q (rK_q (IsS82.apart (show IsS82 w0 _ g s0_0 t325 from by repeat (with_reducible first | exact HI0.out | apply i2_q | apply i0_q | apply i1_q | apply i3_q)) (rup HO_5.out) (by decide)) hk (fun _ h => h.2)) (fun _ h => h.1)); replace HK := Ae_q (kT_q m2_q hk (.inl rfl)); replace HB := Ae_q (hb); replace HI0 := Ae_q (hi); (try clear hb); (try clear hb2); (try clear hk); (try clear hi)) | ((with_reducible refine gC_q (f := 52) rfl ?_); refine gL_q (some 66) rfl rfl Try.func52 m9_q rfl #[.pointer (some ⟨g, 0, none⟩), .int .i64 9] rfl m0_q ?_; (with_reducible refine (spec_l6Rd_pick.calls kj30 g s0_0 t327 9 t328 t329 w0 _ ?side1 ?side2 A40.out).mono ?_); (case side1 => exact m4_q); (case side2 => exact m3_q); rintro e w' ⟨rfl, hi, hb, hk⟩; refine ⟨_, rfl, ?_⟩; replace HO_5 := Ae_q (rM_q (rK_q (IsS82.apart (show IsS82 w0 _ g s0_0 t327 from by repeat (with_reducible first | exact HI0.out | apply i2_q | apply i0_q | apply i1_q | apply i3_q)) (rup HO_5.out) (by decide)) hk (fun _ h => h.2)) (fun _ h => h.1)); replace HK := Ae_q (kT_q m2_q hk (.inl rfl)); replace HB := Ae_q (hb); replace HI0 := Ae_q (hi); (try clear hb); (try clear hb2); (try clear hk); (try clear hi)) | ((with_reducible refine gD_q (N := 67) rfl ?_); refine Kd.R_lit kI_q _ 3 ?hg (N := 67) ?hd (xs := ([(-1), 1439, 1440] : List Int)) (inner := [.int .i64 (-1), .int .i64 1439, .int .i64 1440]) (ok := fun _ => True) (okp := fun _ => True) ?hr ?hp (fun _ hk => hk) trivial (bR_q _ _) (nR_q _) (by simp) ?_; (case hd => rfl); (case hg => rfl); (case hr => exact m11_q); (case hp => exact (Reps.one (show Kd.M kI_q _ _ _ (-1) [.int .i64 (-1)] from rfl) (Reps.one (show Kd.M kI_q _ _ _ 1439 [.int .i64 1439] from rfl) (Reps.one (show Kd.M kI_q _ _ _ 1440 [.int .i64 1440] from rfl) (Reps.none _ _))))); intro v331 w51 ho52 hb hg_ hnew_; clear hg_ hnew_; (first | rw [← Ny330.out] at ho52 | (simp only [Int.reduceToNat] at ho52; rw [← Ny330.out] at ho52)); replace HO_5 := Ae_q (rO_q (rup HO_5.out) hb); have HO332 := Ae_q (rL_q ho52 (keep_size (w := w) (g := g) (row := none) m2_q)); replace HK := Ae_q (kT_q m2_q (kO_q hb g none) (.inl rfl)); replace HB := Ae_q (bT_q m3_q hb); replace HI0 := Ae_q (IsS82.below m4_q hb); clear hb ho52) | ((with_reducible refine gC_q (f := 52) rfl ?_); refine gL_q (some 69) rfl rfl Try.func52 m9_q rfl #[.pointer (some ⟨g, 0, none⟩), .int .i64 3] rfl m0_q ?_; (with_reducible refine (spec_l6Rd_pick.calls kj30 g s0_0 t329 3 t333 t334 w0 _ ?side1 ?side2 A41.out).mono ?_); (case side1 => exact m4_q); (case side2 => exact m3_q); rintro e w53 ⟨rfl, hi, hb, hk⟩; refine ⟨_, rfl, ?_⟩; replace HO_5 := Ae_q (rM_q (rK_q (IsS82.apart (show IsS82 w0 _ g s0_0 t329 from by repeat (with_reducible first | exact HI0.out | apply i2_q | apply i0_q | apply i1_q | apply i3_q)) (rup HO_5.out) (by decide)) hk (fun _ h => h.2)) (fun _ h => h.1)); replace HO332 := Ae_q (rM_q (rK_q (IsS82.apart (show IsS82 w0 _ g s0_0 t329 from by repeat (with_reducible first | exact HI0.out | apply i2_q | apply i0_q | apply i1_q | apply i3_q)) (rup HO332.out) (by decide)) hk (fun _ h => h.2)) (fun _ h => h.1)); replace HK := Ae_q (kT_q m2_q hk (.inl rfl)); replace HB := Ae_q (hb); replace HI0 := Ae_q (hi); (try clear hb); (try clear hb2); (try clear hk); (try clear hi); obtain ⟨Ao54, co54, eo54⟩ := rS_q HO332.out; subst eo54; have p335 : 0 ≤ (t333 : Int) := oD_q (by assumption); have q335 : t333 < (y330.length : Int) := oD_q (by assumption); obtain ⟨ad335, e335, hx335_0⟩ := aI_q (rR_q HO332.out).2.2 t333 p335 q335; cases e335; replace p335 := eq_true p335; replace q335 := eq_true q335; have p46 : 0 ≤ (t324 : Int) := oD_q (by assumption); have q46 : (t324 : Int) < ((x5_2.length : Int) : Int) := oD_q (by assumption); obtain ⟨go46, co46, eo46, gb46, gl46, cl46, HG46⟩ := Kd.R_form HO_5.out (by omega); (first | cases eo46 | (injection eo46 with ea_ en_ ec_; (first | subst ea_ | (injection ea_ with ea_; subst ea_)); subst ec_; clear en_)); have GB46 := Ae_q gb46; have GG46 := Ae_q HG46; clear gb46 gl46 HG46; obtain ⟨ce46, hcl46, hM46, hcc46, hfr46⟩ := Kd.R_elem HO_5.out z49 (t324 : Int) p46 q46; obtain rfl := k49_openM hM46; have hx46_0 : w53.cell? ⟨go46, (t324 : Int).toNat * 3, none⟩ = some (.int .i64 ((rd_T49 x5_2 t324).f0)) := hcc46 0 _ rfl; have hx46_1 : w53.cell? ⟨go46, (t324 : Int).toNat * 3 + 1, none⟩ = some (.int .i64 ((rd_T49 x5_2 t324).f1)) := hcc46 1 _ rfl; have hx46_2 : w53.cell? ⟨go46, (t324 : Int).toNat * 3 + 2, none⟩ = some (.int .i64 ((rd_T49 x5_2 t324).f2)) := hcc46 2 _ rfl; have hf46_0 : w53.frozen? ⟨go46, (t324 : Int).toNat * 3, none⟩ = false := hfr46 0; have hf46_1 : w53.frozen? ⟨go46, (t324 : Int).toNat * 3 + 1, none⟩ = false := hfr46 1; have hf46_2 : w53.frozen? ⟨go46, (t324 : Int).toNat * 3 + 2, none⟩ = false := hfr46 2; clear hcl46 hcc46 hfr46 hM46; replace p46 := eq_true p46; replace q46 := eq_true q46; have HX55 := Ae_q (show Kd.R k49 49 w53 w.heap.size (fun _ => True) (.slice (some ⟨go46, 0, none⟩) x5_2.length co47) x5_2 from (rup HO_5.out)); obtain ⟨ce55, hcl55, hM55, hcc55, hfr55⟩ := Kd.R_elem HX55.out z49 (t324 : Int) (oD_q (by assumption)) (by have h_ : (t324 : Int) < ((x5_2.length : Int) : Int) := oD_q (by assumption); first | exact h_ | (have e_ := (rR_q HO_5.out).1; omega) | simpa using h_); obtain rfl := k49_openM hM55; have HP55 := Kd.R_seg HX55.out (t324 : Int) (oD_q (by assumption)) (by have h_ : (t324 : Int) < ((x5_2.length : Int) : Int) := oD_q (by assumption); first | exact h_ | (have e_ := (rR_q HO_5.out).1; omega) | simpa using h_) (seg := [.int .i64 (wrap64 (t326 * 100)), .int .i64 t328, .int .i64 (rd y330 t333)]) (j := 0) hcl55 hcc55 (show 3 ≤ 3 from by decide) (x' := (⟨wrap64 (t326 * 100), t328, rd y330 t333⟩ : S49)) (k49_mkM _ _ _ (⟨wrap64 (t326 * 100), t328, rd y330 t333⟩ : S49) ) (fun _ hk => hk); have hx55_0 := hcc55 0 _ rfl; (try simp only [show (k49).sz = 3 from rfl, Nat.mul_one, Nat.add_zero] at hx55_0); have hf55_0 := hfr55 0; (try simp only [show (k49).sz = 3 from rfl, Nat.mul_one, Nat.add_zero] at hf55_0); have hx55_1 := hcc55 1 _ rfl; (try simp only [show (k49).sz = 3 from rfl, Nat.mul_one, Nat.add_zero] at hx55_1); have hf55_1 := hfr55 1; (try simp only [show (k49).sz = 3 from rfl, Nat.mul_one, Nat.add_zero] at hf55_1); have hx55_2 := hcc55 2 _ rfl; (try simp only [show (k49).sz = 3 from rfl, Nat.mul_one, Nat.add_zero] at hx55_2); have hf55_2 := hfr55 2; (try simp only [show (k49).sz = 3 from rfl, Nat.mul_one, Nat.add_zero] at hf55_2); clear hcl55 hcc55 hfr55 hM55) | ((with_reducible refine gate_store (t := 49) (p := 73) rfl ?_); refine store_event (t := 49) (p := 73) (v := ?vo_w56) (w1 := (((w53.setCell ⟨go46, (t324 : Int).toNat * 3, none⟩ (.int .i64 (wrap64 (t326 * 100)))).setCell ⟨go46, (t324 : Int).toNat * 3 + 1, none⟩ (.int .i64 t328)).setCell ⟨go46, (t324 : Int).toNat * 3 + 2, none⟩ (.int .i64 (rd y330 t333)))) ?hg ?ho ?hn ?hr ?_; (case ho => rfl); (case hg => rfl); (case hn => rfl); (case hr => exact m11_q); intro w56 hw; have hg : w53.grownBy w56 (some go46) := (by rw [hw]; exact HP55.2); have hp_ : Kd.R k49 49 w56 w.heap.size (fun _ => True) (.slice (some ⟨go46, 0, none⟩) x5_2.length co47) y336 := (by rw [hw, Ny336.out]; exact HP55.1); clear HP55; replace HI0 := Ae_q (IsS82.grown m4_q hg (IsS82.own_ne HI0.out HO_5.out (by decide))); replace HO332 := Ae_q (Kd.R_over' (v := (.slice (some ⟨go46, 0, none⟩) x5_2.length co47)) (rup HO332.out) (Kd.R_typed HO_5.out) (by decide) hg); replace HB := Ae_q ((by rw [hw]; exact bS_q (bS_q (bS_q (HB.out) (nT_q HL.out GB46.out)) (nT_q HL.out GB46.out)) (nT_q HL.out GB46.out) : Below w0.heap.size w0 w56)); replace HK := Ae_q (kT_q m2_q (KeepBut.of_grown hg g) (Kd.R_base2 HO_5.out)); replace HO_5 := Ae_q (hp_); clear hg hw hp_))
        go_ret
        exact ⟨_, m6_q, rup HO_5.out, m4_q, m3_q, m2_q⟩
     rw [if_pos c13] at H
     have c13b0 : decide (x7_2 < x6_4) = true := dT_q c13
     clear c13
     by_cases c14 : (l1.length : Int) > 0
     rotate_left
     ·rw [if_neg c14] at H
      have c14b0 : decide (0 < (l1.length : Int)) = false := dF_q c14
      have c14b1 : decide (0 < l1.length) = false := dF_q (by omega)
      clear c14
      have H' := Ae_q H
      clear H
      go_wp2
      go_roundg k2
      case measure => have := HJ4.out; have := HK2.out; omega
      case rel => exact ⟨(x5_2), (wrap64 (x7_2 + 1)), (x1001_2), m5_q, H', ⟨by have := HJ4.out; have := HK2.out; omega⟩, ⟨rup HO_5.out⟩, ⟨m4_q⟩, ⟨m2_q⟩, ⟨m3_q⟩⟩
     rw [if_pos c14] at H
     have c14b0 : decide (0 < (l1.length : Int)) = true := dT_q c14
     have c14b1 : decide (0 < l1.length) = true := dT_q (by omega)
     clear c14
     replace H := oB_q.mp H
     obtain ⟨⟨t311, t312⟩, A150, H⟩ := H
     replace H : (if 0 ≤ t311 then (if t311 < (l1.length : Int) then ((spec_l6Rd_pick.f k2 s0_0 t312 7).bind fun bt315 => ((spec_l6Rd_pick.f k2 s0_0 bt315.2 120).bind fun bt317 => (if x5_2.length < 5864062014805 then (spec_l92Plates.l0 k2 l1 (x5_2 ++ [(⟨wrap64 (1 + bt315.1), (rd_T39 l1 t311).f0, mx (wrap64 ((wrap64 (((rd_T39 l1 t311).f2) - 10)) + bt317.1)) 0⟩ : S49)]) x6_4 (wrap64 (x7_2 + 1)) s0_0 bt317.2) else (none)))) else (none)) else (none)) = some (r1, r2) := H
     have A15 := Ae_q A150
     clear A150
     by_cases c16 : 0 ≤ t311
     rotate_left
     ·rw [if_neg c16] at H
      exact absurd H (by simp)
     rw [if_pos c16] at H
     have c16b0 : decide (0 ≤ t311) = true := dT_q c16
     clear c16
     by_cases c17 : t311 < (l1.length : Int)
     rotate_left
     ·rw [if_neg c17] at H
      exact absurd H (by simp)
     rw [if_pos c17] at H
     have c17b0 : decide (t311 < (l1.length : Int)) = true := dT_q c17
     clear c17
     replace H := oB_q.mp H
     obtain ⟨⟨t315, t316⟩, A180, H⟩ := H
     replace H : ((spec_l6Rd_pick.f k2 s0_0 t316 120).bind fun bt317 => (if x5_2.length < 5864062014805 then (spec_l92Plates.l0 k2 l1 (x5_2 ++ [(⟨wrap64 (1 + t315), (rd_T39 l1 t311).f0, mx (wrap64 ((wrap64 (((rd_T39 l1 t311).f2) - 10)) + bt317.1)) 0⟩ : S49)]) x6_4 (wrap64 (x7_2 + 1)) s0_0 bt317.2) else (none))) = some (r1, r2) := H
     have A18 := Ae_q A180
     clear A180
     replace H := oB_q.mp H
     obtain ⟨⟨t317, t318⟩, A190, H⟩ := H
     replace H : (if x5_2.length < 5864062014805 then (spec_l92Plates.l0 k2 l1 (x5_2 ++ [(⟨wrap64 (1 + t315), (rd_T39 l1 t311).f0, mx (wrap64 ((wrap64 (((rd_T39 l1 t311).f2) - 10)) + t317)) 0⟩ : S49)]) x6_4 (wrap64 (x7_2 + 1)) s0_0 t318) else (none)) = some (r1, r2) := H
     have A19 := Ae_q A190
     clear A190
     obtain ⟨ji20, hji20⟩ : ∃ j_ : Int, (mx (wrap64 ((wrap64 (((rd_T39 l1 t311).f2) - 10)) + t317)) 0) = j_ := ⟨_, rfl⟩
     replace H : (if x5_2.length < 5864062014805 then (spec_l92Plates.l0 k2 l1 (x5_2 ++ [(⟨wrap64 (1 + t315), (rd_T39 l1 t311).f0, ji20⟩ : S49)]) x6_4 (wrap64 (x7_2 + 1)) s0_0 t318) else (none)) = some (r1, r2) := by first | (rw [hji20] at H; exact H) | (simp only [hji20] at H ⊢; exact H)
     (try rw [hji20] at A15)
     (try rw [hji20] at A18)
     (try rw [hji20] at A19)
     have hji20_ : (if (wrap64 ((wrap64 (((rd_T39 l1 t311).f2) - 10)) + t317)) < 0 then 0 else (wrap64 ((wrap64 (((rd_T39 l1 t311).f2) - 10)) + t317))) = ji20 := hji20
     by_cases c21 : x5_2.length < 5864062014805
     rotate_left
     ·rw [if_neg c21] at H
      exact absurd H (by simp)
     rw [if_pos c21] at H
     have LMc21 := Ae_q c21
     clear c21
     obtain ⟨y319, hy319⟩ : ∃ y_ : List (S49), y_ = (x5_2 ++ [(⟨wrap64 (1 + t315), (rd_T39 l1 t311).f0, ji20⟩ : S49)]) := ⟨_, rfl⟩
     replace H : (spec_l92Plates.l0 k2 l1 y319 x6_4 (wrap64 (x7_2 + 1)) s0_0 t318) = some (r1, r2) := by first | (rw [hy319]; with_reducible exact H) | (have H2_ := (oS_q _ _).symm.trans H; rw [hy319]; with_reducible exact H2_) | (have H2_ := (oS_q _ _).symm.trans H; with_reducible exact H2_) | with_reducible exact H | (rw [hy319]; exact H) | exact H
     have Ny319 := Ae_q hy319
     clear hy319
     have H' := Ae_q H
     clear H
     try go_wp2_with (first | ((with_reducible refine gC_q (f := 52) rfl ?_); refine gL_q (some 30) rfl rfl Try.func52 m9_q rfl #[.pointer (some ⟨g, 0, none⟩), .int .i64 (l1.length : Int)] rfl m0_q ?_; (with_reducible refine (spec_l6Rd_pick.calls k2 g s0_0 x1001_2 (l1.length : Int) t311 t312 w0 _ ?side1 ?side2 A15.out).mono ?_); (case side1 => exact m4_q); (case side2 => exact m3_q); rintro e w' ⟨rfl, hi, hb, hk⟩; refine ⟨_, rfl, ?_⟩; replace HO_5 := Ae_q (rM_q (rK_q (IsS82.apart (show IsS82 w0 _ g s0_0 x1001_2 from by repeat (with_reducible first | exact HI0.out | apply i2_q | apply i0_q | apply i1_q | apply i3_q)) (rup HO_5.out) (by decide)) hk (fun _ h => h.2)) (fun _ h => h.1)); replace HK := Ae_q (kT_q m2_q hk (.inl rfl)); replace HB := Ae_q (hb); replace HI0 := Ae_q (hi); (try clear hb); (try clear hb2); (try clear hk); (try clear hi); have p313 : 0 ≤ (t311 : Int) := oD_q (by assumption); have q313 : t311 < (l1.length : Int) := oD_q (by assumption); obtain ⟨ad313, A313_1, c313_1, e313, hx313_0, hx313_1, hx313_2, hx313_3, hl313_1, hi313_1⟩ := at_T39 (Kd.C_foot_now HR1.out HK.out) t311 p313 q313; cases e313; have HR313_1 := Ae_q hi313_1; have HC313_1 := Ae_q hl313_1; clear hi313_1 hl313_1; replace p313 := eq_true p313; replace q313 := eq_true q313) | ((with_reducible refine gD_q (N := 8) rfl ?_); refine bE_q ?hg (N := 8) ?hd (cs := #[.int .i64 0, .slice none 0 0, .int .i64 0, .int .i64 0]) (t := 39) ?hr ?_; (case hd => rfl); (case hg => rfl); (case hr => exact m11_q); intro gb314 hg w23 hbox hb; replace HO_5 := Ae_q (rO_q (rup HO_5.out) hb); replace HR313_1 := Ae_q (cB_q (by repeat (first | (with_reducible exact HR313_1.out) | (with_reducible refine cA_q ?_ _) | (with_reducible refine cN_q ?_ _) | (with_reducible refine cD_q ?_) | exact HR313_1.out)) hb); replace HB := Ae_q (bT_q m3_q hb); have BK314 := Ae_q (hbox); have GW314 := Ae_q ((by rw [hg]; exact (keep_size (w := w) (g := g) (row := none) m2_q) : w.heap.size ≤ gb314)); have GE314 := Ae_q ((nT_q HW0.out (by rw [hg]; exact (keep_size (w := w) (g := g) (row := none) m2_q) : w.heap.size ≤ gb314) : w0.heap.size ≤ gb314)); replace HK := Ae_q (kT_q m2_q (kO_q hb g none) (.inl rfl)); have NB0_314 := Ae_q ((by rw [hg]; exact nL_q (IsS82.lt (show IsS82 w0 _ g s0_0 t312 from by repeat (with_reducible first | exact HI0.out | apply i2_q | apply i0_q | apply i1_q | apply i3_q))) : g ≠ gb314)); have NB314_0 := Ae_q ((by rw [hg]; exact nG_q (IsS82.lt (show IsS82 w0 _ g s0_0 t312 from by repeat (with_reducible first | exact HI0.out | apply i2_q | apply i0_q | apply i1_q | apply i3_q))) : gb314 ≠ g)); replace HI0 := Ae_q (IsS82.below m4_q hb); clear hb hbox hg; have hnb24 := NB314_0.out; have hnc24 := NB0_314.out; have hcz25_0 : cI w23 gb314 0 0 := cZ BK314 0 rfl; have hcz25_1 : w23.cell? ⟨gb314, 1, none⟩ = some (.slice none 0 0) := (bC_q BK314.out 1).trans rfl; have hcz25_2 : cI w23 gb314 2 0 := cZ BK314 2 rfl; have hcz25_3 : cI w23 gb314 3 0 := cZ BK314 3 rfl; have hfz25_0 := bF_q BK314.out 0; have hfz25_1 := bF_q BK314.out 1; have hfz25_2 := bF_q BK314.out 2; have hfz25_3 := bF_q BK314.out 3))
     have n0_ : Aside0 (Kd.R k49 49 ((((w23.setCell ⟨gb314, 0, none⟩ (.int .i64 ((rd_T39 l1 t311).f0))).setCell ⟨gb314, 1, none⟩ (.slice A313_1 ((rd_T39 l1 t311).f1).length c313_1)).setCell ⟨gb314, 2, none⟩ (.int .i64 ((rd_T39 l1 t311).f2))).setCell ⟨gb314, 3, none⟩ (.int .i64 ((rd_T39 l1 t311).f3))) w.heap.size (fun _ => True) u5 x5_2) := ⟨by (with_reducible repeat (first | apply rA_q | apply rN_q | apply rD_q)); exact rM_q (Kd.R_far (p := ⟨gb314, 3, none⟩) (Kd.R_far (p := ⟨gb314, 2, none⟩) (Kd.R_far (p := ⟨gb314, 1, none⟩) (Kd.R_far (p := ⟨gb314, 0, none⟩) (Kd.R_types HO_5.out BK314.out (by decide)) (fun _ hk => hk.2) (.int .i64 ((rd_T39 l1 t311).f0))) (fun _ hk => hk.2) (.slice A313_1 ((rd_T39 l1 t311).f1).length c313_1)) (fun _ hk => hk.2) (.int .i64 ((rd_T39 l1 t311).f2))) (fun _ hk => hk.2) (.int .i64 ((rd_T39 l1 t311).f3))) (fun _ hk => trivial)⟩
     have n1_ : Aside0 (((((w23.setCell ⟨gb314, 0, none⟩ (.int .i64 ((rd_T39 l1 t311).f0))).setCell ⟨gb314, 1, none⟩ (.slice A313_1 ((rd_T39 l1 t311).f1).length c313_1)).setCell ⟨gb314, 2, none⟩ (.int .i64 ((rd_T39 l1 t311).f2))).setCell ⟨gb314, 3, none⟩ (.int .i64 ((rd_T39 l1 t311).f3))).heap[gb314]? = some (.cells #[.int .i64 ((rd_T39 l1 t311).f0), .slice A313_1 ((rd_T39 l1 t311).f1).length c313_1, .int .i64 ((rd_T39 l1 t311).f2), .int .i64 ((rd_T39 l1 t311).f3)] 39 (0, 0))) := ⟨by (with_reducible repeat (first | refine bN_q ?_ _ | refine bW_q ?_ | refine bL_q ?_ _)); refine blk_put (cs := #[.int .i64 ((rd_T39 l1 t311).f0), .slice A313_1 ((rd_T39 l1 t311).f1).length c313_1, .int .i64 ((rd_T39 l1 t311).f2), .int .i64 0]) ?_ 3 _ rfl; (with_reducible repeat (first | refine bN_q ?_ _ | refine bW_q ?_ | refine bL_q ?_ _)); refine blk_put (cs := #[.int .i64 ((rd_T39 l1 t311).f0), .slice A313_1 ((rd_T39 l1 t311).f1).length c313_1, .int .i64 0, .int .i64 0]) ?_ 2 _ rfl; (with_reducible repeat (first | refine bN_q ?_ _ | refine bW_q ?_ | refine bL_q ?_ _)); refine blk_put (cs := #[.int .i64 ((rd_T39 l1 t311).f0), .slice none 0 0, .int .i64 0, .int .i64 0]) ?_ 1 _ rfl; (with_reducible repeat (first | refine bN_q ?_ _ | refine bW_q ?_ | refine bL_q ?_ _)); refine blk_put (cs := #[.int .i64 0, .slice none 0 0, .int .i64 0, .int .i64 0]) ?_ 0 _ rfl; (with_reducible repeat (first | refine bN_q ?_ _ | refine bW_q ?_ | refine bL_q ?_ _)); exact BK314.out⟩
     have n2_ : Aside0 (IsS82 w0 ((((w23.setCell ⟨gb314, 0, none⟩ (.int .i64 ((rd_T39 l1 t311).f0))).setCell ⟨gb314, 1, none⟩ (.slice A313_1 ((rd_T39 l1 t311).f1).length c313_1)).setCell ⟨gb314, 2, none⟩ (.int .i64 ((rd_T39 l1 t311).f2))).setCell ⟨gb314, 3, none⟩ (.int .i64 ((rd_T39 l1 t311).f3))) g s0_0 t312) := ⟨m20_q⟩
     have n3_ : Aside0 (KeepBut w ((((w23.setCell ⟨gb314, 0, none⟩ (.int .i64 ((rd_T39 l1 t311).f0))).setCell ⟨gb314, 1, none⟩ (.slice A313_1 ((rd_T39 l1 t311).f1).length c313_1)).setCell ⟨gb314, 2, none⟩ (.int .i64 ((rd_T39 l1 t311).f2))).setCell ⟨gb314, 3, none⟩ (.int .i64 ((rd_T39 l1 t311).f3))) g none) := ⟨m18_q⟩
     have n4_ : Aside0 (Below w0.heap.size w0 ((((w23.setCell ⟨gb314, 0, none⟩ (.int .i64 ((rd_T39 l1 t311).f0))).setCell ⟨gb314, 1, none⟩ (.slice A313_1 ((rd_T39 l1 t311).f1).length c313_1)).setCell ⟨gb314, 2, none⟩ (.int .i64 ((rd_T39 l1 t311).f2))).setCell ⟨gb314, 3, none⟩ (.int .i64 ((rd_T39 l1 t311).f3)))) := ⟨m19_q⟩
     (try clear HO_5)
     (try clear BK314)
     (try clear HI0)
     (try clear HK)
     (try clear HB)
     generalize ((((w23.setCell ⟨gb314, 0, none⟩ (.int .i64 ((rd_T39 l1 t311).f0))).setCell ⟨gb314, 1, none⟩ (.slice A313_1 ((rd_T39 l1 t311).f1).length c313_1)).setCell ⟨gb314, 2, none⟩ (.int .i64 ((rd_T39 l1 t311).f2))).setCell ⟨gb314, 3, none⟩ (.int .i64 ((rd_T39 l1 t311).f3))) = w26 at n0_ n1_ n2_ n3_ n4_ ⊢
     have HO_5 := n0_
     have BK314 := n1_
     have HI0 := n2_
     have HK := n3_
     have HB := n4_
     clear n0_ n1_ n2_ n3_ n4_
     replace HO_5 := Ae_q (rD_q HO_5.out)
     replace BK314 := Ae_q (bW_q BK314.out)
     replace HI0 := Ae_q (i1_q HI0.out)
     replace HK := Ae_q (kD_q HK.out)
     replace HB := Ae_q (bD_q HB.out)
     refine start_ (n := 17) (S := fun w' => w'.cell? ⟨gb314, 0, none⟩ = some (.int .i64 ((rd_T39 l1 t311).f0)) ∧ w'.cell? ⟨gb314, 1, none⟩ = some (.slice A313_1 ((rd_T39 l1 t311).f1).length c313_1) ∧ w'.cell? ⟨gb314, 2, none⟩ = some (.int .i64 ((rd_T39 l1 t311).f2)) ∧ w'.cell? ⟨gb314, 3, none⟩ = some (.int .i64 ((rd_T39 l1 t311).f3))) (ds := []) #[false, false, false, false, false, false, false, false, false, false, false, false, false, false, false, false, false] m9_q rfl rfl ⟨(bC_q BK314.out 0).trans rfl, (bC_q BK314.out 1).trans rfl, (bC_q BK314.out 2).trans rfl, (bC_q BK314.out 3).trans rfl⟩ (fun hHeld => ?_); refine with_tabW spec_l92Plates.tab10 spec_l92Plates.bits10 (fun HT_ HW_ => ?_)
     generalize w26.drew = w27 at HO_5 BK314 HI0 HK HB hHeld ⊢
     refine pJ HT_ 0 33 rfl rfl ?_
     refine pJ HT_ 1 34 rfl rfl ?_
     refine pJ HT_ 4 37 rfl rfl ?_
     refine pJ HT_ 6 39 rfl rfl ?_
     refine pJ HT_ 9 42 rfl rfl ?_
     refine take_ (i := 5) (N := some 38) (v := ?_) (a' := ?_) #[true, true, false, false, true, true, true, false, false, true, false, false, false, false, false, false, false] rfl rfl (take_ofW HT_.out HW_.out m9_q) (fun _ _ _ h => h) (Or.inl ⟨by rfl, ?_⟩) hHeld ?_ ?_
     rotate_left
     ·rintro w' ⟨s0, s1, s2, s3⟩
      go_simp
      with_reducible rfl
     rotate_left
     ·simp only [pS_q]
      rfl
     refine take_ (i := 7) (N := some 40) (v := ?_) (a' := ?_) #[true, true, false, false, true, true, true, true, false, true, false, false, false, false, false, false, false] rfl rfl (take_ofW HT_.out HW_.out m9_q) (fun _ _ _ h => h) (Or.inl ⟨by rfl, ?_⟩) hHeld ?_ ?_
     rotate_left
     ·rintro w' ⟨s0, s1, s2, s3⟩
      go_simp
      with_reducible rfl
     rotate_left
     ·simp only [pS_q]
      rfl
     refine pJ HT_ 8 41 rfl rfl ?_
     refine one_ (i := 2) (N := some 35) #[true, true, true, false, true, true, true, true, true, true, false, false, false, false, false, false, false] rfl rfl (one_of HT_.out m9_q) (by decide) (fun K hK => ?_)
     refine goes_ Try.func52 m9_q rfl #[.pointer (some ⟨g, 0, none⟩), .int .i64 7] (by rfl) rfl rfl m0_q ?_
     with_reducible refine (spec_l6Rd_pick.calls k2 g s0_0 t312 7 t315 t316 w0 _ ?side1 ?side2 A18.out).mono ?_
     (case side1 => exact m20_q)
     (case side2 => exact m19_q)
     rintro e w' ⟨rfl, hi, hb, hk⟩
     refine ⟨_, rfl, ?_⟩
     replace HO_5 := Ae_q (rM_q (rK_q (IsS82.apart (show IsS82 w0 _ g s0_0 t312 from by repeat (with_reducible first | exact HI0.out | apply i2_q | apply i0_q | apply i1_q | apply i3_q | refine IsS82.far ?_ NB0_314.out _)) (rup HO_5.out) (by decide)) hk (fun _ h => h.2)) (fun _ h => h.1))
     replace BK314 := Ae_q (kB_q hk (g' := gb314) (o := .cells #[.int .i64 ((rd_T39 l1 t311).f0), .slice A313_1 ((rd_T39 l1 t311).f1).length c313_1, .int .i64 ((rd_T39 l1 t311).f2), .int .i64 ((rd_T39 l1 t311).f3)] 39 (0, 0)) (bup BK314.out) NB314_0.out (by simp))
     replace HK := Ae_q (kT_q m18_q hk (.inl rfl))
     replace HB := Ae_q (hb)
     replace HI0 := Ae_q (hi)
     (try clear hb)
     (try clear hb2)
     (try clear hk)
     (try clear hi)
     refine hK.out _ _ ⟨(bC_q BK314.out 0).trans rfl, (bC_q BK314.out 1).trans rfl, (bC_q BK314.out 2).trans rfl, (bC_q BK314.out 3).trans rfl⟩ (fun hHeld => ?_)
     clear hK K
     refine nJ_q ?_
     refine pJ HT_ 3 36 rfl rfl ?_
     refine one_ (i := 10) (N := some 43) #[true, true, true, true, true, true, true, true, true, true, true, false, false, false, false, false, false] rfl rfl (one_of HT_.out m9_q) (by decide) (fun K hK => ?_)
     refine goes_ Try.func52 m9_q rfl #[.pointer (some ⟨g, 0, none⟩), .int .i64 120] (by rfl) rfl rfl m0_q ?_
     with_reducible refine (spec_l6Rd_pick.calls k2 g s0_0 t316 120 t317 t318 w0 _ ?side1 ?side2 A19.out).mono ?_
     (case side1 => exact m20_q)
     (case side2 => exact m19_q)
     rintro e w' ⟨rfl, hi, hb, hk⟩
     refine ⟨_, rfl, ?_⟩
     replace HO_5 := Ae_q (rM_q (rK_q (IsS82.apart (show IsS82 w0 _ g s0_0 t316 from by repeat (with_reducible first | exact HI0.out | apply i2_q | apply i0_q | apply i1_q | apply i3_q | refine IsS82.far ?_ NB0_314.out _)) (rup HO_5.out) (by decide)) hk (fun _ h => h.2)) (fun _ h => h.1))
     replace BK314 := Ae_q (kB_q hk (g' := gb314) (o := .cells #[.int .i64 ((rd_T39 l1 t311).f0), .slice A313_1 ((rd_T39 l1 t311).f1).length c313_1, .int .i64 ((rd_T39 l1 t311).f2), .int .i64 ((rd_T39 l1 t311).f3)] 39 (0, 0)) (bup BK314.out) NB314_0.out (by simp))
     replace HK := Ae_q (kT_q m18_q hk (.inl rfl))
     replace HB := Ae_q (hb)
     replace HI0 := Ae_q (hi)
     (try clear hb)
     (try clear hb2)
     (try clear hk)
     (try clear hi)
     refine hK.out _ _ ⟨(bC_q BK314.out 0).trans rfl, (bC_q BK314.out 1).trans rfl, (bC_q BK314.out 2).trans rfl, (bC_q BK314.out 3).trans rfl⟩ (fun hHeld => ?_)
     clear hK K
     refine nJ_q ?_
     refine pJ HT_ 11 44 rfl rfl ?_
     refine pJ HT_ 12 45 rfl rfl ?_
     refine pJ HT_ 13 46 rfl rfl ?_
     refine one_ (i := 14) (N := some 47) #[true, true, true, true, true, true, true, true, true, true, true, true, true, true, true, false, false] rfl rfl (one_of HT_.out m9_q) (by decide) (fun K hK => ?_)
     refine value_ (w1 := ?_) (v := ?_) (by rfl) rfl ?_ ?_
     rotate_left 2
     ·go_simp
      constructor
      ·rfl
      rfl
     refine hK.out _ _ ⟨(bC_q (bL_q BK314.out _) 0).trans rfl, (bC_q (bL_q BK314.out _) 1).trans rfl, (bC_q (bL_q BK314.out _) 2).trans rfl, (bC_q (bL_q BK314.out _) 3).trans rfl⟩ (fun hHeld => ?_)
     clear hK K
     refine nJ_q ?_
     refine one_ (i := 15) (N := some 48) #[true, true, true, true, true, true, true, true, true, true, true, true, true, true, true, true, false] rfl rfl (one_of HT_.out m9_q) (by decide) (fun K hK => ?_)
     refine Kd.R_append_step k49 w.heap.size (by rfl) (.tmp 33) (.tmp 47) 44 49 (.agg #[(.int .i64 0), (.int .i64 0), (.int .i64 0)]) 24 rfl Try.underlying44 info49 rfl (by decide) (by omega) u5 x5_2 (⟨wrap64 (1 + t315), (rd_T39 l1 t311).f0, ji20⟩ : S49) [.int .i64 (wrap64 (1 + t315)), .int .i64 ((rd_T39 l1 t311).f0), .int .i64 ji20] (fun _ => True) (fun _ => False) rfl rfl ?aP (fun _ hk => hk.elim) ?aF ?aO (bR_q _ _) ?aS ?aL ?_
     (case aP => exact k49_mkM _ _ _ (⟨wrap64 (1 + t315), (rd_T39 l1 t311).f0, ji20⟩ : S49))
     (case aF => exact (fun _ _ => trivial))
     (case aO => exact (rup HO_5.out))
     (case aS => exact (keep_size (w := w) (g := g) (row := none) m18_q))
     (case aL => have := LMc21.out; omega)
     intro v320 w30 ho hb hg hat
     rw [← Ny319.out] at ho
     replace BK314 := Ae_q (bG_q (g := gb314) (o := .cells #[.int .i64 ((rd_T39 l1 t311).f0), .slice A313_1 ((rd_T39 l1 t311).f1).length c313_1, .int .i64 ((rd_T39 l1 t311).f2), .int .i64 ((rd_T39 l1 t311).f3)] 39 (0, 0)) (bup BK314.out) hg (Kd.R_ne HO_5.out BK314.out (by decide)))
     replace HB := Ae_q (below_weaken m19_q HL.out hb)
     replace HI0 := Ae_q (IsS82.grown m20_q hg (IsS82.own_ne HI0.out HO_5.out (by decide)))
     replace HK := Ae_q (kT_q m18_q (KeepBut.of_grown hg g) (Kd.R_base2 HO_5.out))
     have HO321 := Ae_q (ho)
     clear HO_5
     clear ho hb hg hat
     refine hK.out _ _ ⟨(bC_q BK314.out 0).trans rfl, (bC_q BK314.out 1).trans rfl, (bC_q BK314.out 2).trans rfl, (bC_q BK314.out 3).trans rfl⟩ (fun hHeld => ?_)
     clear hK K
     refine nJ_q ?_
     refine pJ HT_ 16 5 rfl rfl ?_
     refine done_ (done_of HT_.out m9_q) ?_
     try go_wp2
     go_roundg k2
     case measure => have := HJ4.out; have := HK2.out; omega
     case rel => exact ⟨(y319), (wrap64 (x7_2 + 1)), (t318), m5_q, H', ⟨by have := HJ4.out; have := HK2.out; omega⟩, ⟨rup HO321.out⟩, ⟨m20_q⟩, ⟨m18_q⟩, ⟨m19_q⟩⟩

-- NOT PRINTED: function 68 (impl_Plate_68)

-- NOT PRINTED: function 56 (impl_Plate_56)

end Go.Proofs.Ytnckblolijkdaaa.PBt
