import Derived.Test.YtfnpiacmlahegaaVDPRpx0
import Derived.Test.YtfnpiacmlahegaaVDPRpx19
namespace Go.Proofs.Ytfnpiacmlahegaa.PRp
open Go.RowKit Go.Proofs.YtfnpiacmlahegaaW.PrintWords Go.Proofs.YtfnpiacmlahegaaW.PrintLast Go.Proofs.YtfnpiacmlahegaaW.PrintMore
attribute [local go_sem] max2_int min2_int max_two min_two max_three min_three max_four min_four
set_option linter.unusedVariables false
set_option linter.unusedSimpArgs false

mutual
def spec_l92Steps.j0 : Nat → List (S63) → Int → List Int → Int → Option ((List (S63)) × Int)
 | 0, _, _, _, _ => none
 | k + 1, x3, x4, x1000, x1001 => spec_l92Steps.l0 k x3 x4 0 x1000 x1001
def spec_l92Steps.l0 : Nat → List (S63) → Int → Int → List Int → Int → Option ((List (S63)) × Int)
 | 0, _, _, _, _, _ => none
 | k + 1, x3, x4, x5, x1000, x1001 => if x5 < x4 then ((spec_l6Rd_pick.f k x1000 x1001 12).bind fun bt456 => ((spec_l6Rd_pick.f k x1000 bt456.2 4).bind fun bt458 => ((spec_l6Rd_pick.f k x1000 bt458.2 4).bind fun bt460 => (spec_l92Steps.l1 k x3 x4 x5 0 x1000 bt460.2 (wrap64 (1 + bt456.1)) bt458.1 bt460.1 (([] : List Int)))))) else (if x4 > 0 then ((spec_l6Rd_pick.f k x1000 x1001 30).bind fun bt474 => (if bt474.1 = 0 then ((spec_l6Rd_pick.f k x1000 bt474.2 x4).bind fun bt476 => ((some (([0, 99, 100] : List Int) : List Int)).bind fun y478 => ((spec_l6Rd_pick.f k x1000 bt476.2 3).bind fun bt481 => (if 0 ≤ bt481.1 then (if bt481.1 < (y478.length : Int) then (if 0 ≤ bt476.1 then (if bt476.1 < (x3.length : Int) then (some ((x3.set (bt476.1 : Int).toNat (⟨rd y478 bt481.1, (rd_T63 x3 bt476.1).f1, (rd_T63 x3 bt476.1).f2, (rd_T63 x3 bt476.1).f3⟩ : S63)), bt481.2)) else (none)) else (none)) else (none)) else (none))))) else (if bt474.1 = 1 then (if 0 < (x3.length : Int) then (if ((rd_T63 x3 0).f3).length < 17592186044416 then (some ((x3.set (0 : Int).toNat (⟨(rd_T63 x3 0).f0, (rd_T63 x3 0).f1, (rd_T63 x3 0).f2, (((rd_T63 x3 0).f3) ++ [0])⟩ : S63)), bt474.2)) else (none)) else (none)) else (if bt474.1 = 2 then ((spec_l6Rd_pick.f k x1000 bt474.2 x4).bind fun bt490 => ((some (([(-1), 4, 5] : List Int) : List Int)).bind fun y492 => ((spec_l6Rd_pick.f k x1000 bt490.2 3).bind fun bt495 => (if 0 ≤ bt495.1 then (if bt495.1 < (y492.length : Int) then (if 0 ≤ bt490.1 then (if bt490.1 < (x3.length : Int) then (some ((x3.set (bt490.1 : Int).toNat (⟨(rd_T63 x3 bt490.1).f0, (rd_T63 x3 bt490.1).f1, rd y492 bt495.1, (rd_T63 x3 bt490.1).f3⟩ : S63)), bt495.2)) else (none)) else (none)) else (none)) else (none))))) else (some (x3, bt474.2)))))) else (some (x3, x1001)))
def spec_l92Steps.l1 : Nat → List (S63) → Int → Int → Int → List Int → Int → Int → Int → Int → List Int → Option ((List (S63)) × Int)
 | 0, _, _, _, _, _, _, _, _, _, _ => none
 | k + 1, x3, x4, x5, x7, x1000, x1001, x466000, x466001, x466002, x466003 => if x7 < x5 then ((spec_l6Rd_pick.f k x1000 x1001 4).bind fun bt466 => (if bt466.1 = 0 then (if x466003.length < 17592186044416 then (spec_l92Steps.l1 k x3 x4 x5 (wrap64 (x7 + 1)) x1000 bt466.2 x466000 x466001 x466002 (x466003 ++ [x7])) else (none)) else (spec_l92Steps.l1 k x3 x4 x5 (wrap64 (x7 + 1)) x1000 bt466.2 x466000 x466001 x466002 x466003))) else (if x3.length < 2932031007402 then (spec_l92Steps.l0 k (x3 ++ [(⟨x466000, x466001, x466002, x466003⟩ : S63)]) x4 (wrap64 (x5 + 1)) x1000 x1001) else (none))
end
def spec_l92Steps.f (k : Nat) (s0_0 : List Int) (s0_1 : Int) : Option ((List (S63)) × Int) := (some (([] : List (S63)) : List (S63))).bind fun y447 => ((spec_l6Rd_pick.f k s0_0 s0_1 8).bind fun bt450 => ((spec_l6Rd_pick.f k s0_0 bt450.2 20).bind fun bt452 => (if bt452.1 = 0 then ((spec_l6Rd_pick.f k s0_0 bt452.2 2).bind fun bt454 => (spec_l92Steps.j0 k y447 (wrap64 (8 + bt454.1)) s0_0 bt454.2)) else (spec_l92Steps.j0 k y447 bt450.1 s0_0 bt452.2))))
set_option maxHeartbeats 8000000 in
set_option maxRecDepth 100000 in
theorem spec_l92Steps.calls (k : Nat) (g : Nat) (s0_0 : List Int) (s0_1 : Int) (r1 : List (S63)) (r2 : Int) (w0 w : World) (hI : IsS83 w0 w g s0_0 s0_1) (hB : Below w0.heap.size w0 w) (h : spec_l92Steps.f k s0_0 s0_1 = some (r1, r2)) :
    Calls Try.prog 67 #[.pointer (some ⟨g, 0, none⟩)] w fun e w' => ∃ v0_ : Value, e = .returned (v0_) ∧ Kd.S k63 63 w' w.heap.size (fun _ => True) v0_ r1 ∧ IsS83 w0 w' g s0_0 r2 ∧ Below w0.heap.size w0 w' ∧ KeepBut w w' g none := by
 have hu63 := Try.underlying63
 have HI0 := Ae_q hI
 have HK := Ae_q (KeepBut.refl w g none)
 have HL := Ae_q hB.size
 clear hI
 have HW0 := Ae_q hB.size
 have HB := Ae_q hB
 clear hB
 have H : ((some (([] : List (S63)) : List (S63))).bind fun y447 => ((spec_l6Rd_pick.f k s0_0 s0_1 8).bind fun bt450 => ((spec_l6Rd_pick.f k s0_0 bt450.2 20).bind fun bt452 => (if bt452.1 = 0 then ((spec_l6Rd_pick.f k s0_0 bt452.2 2).bind fun bt454 => (spec_l92Steps.j0 k y447 (wrap64 (8 + bt454.1)) s0_0 bt454.2)) else (spec_l92Steps.j0 k y447 bt450.1 s0_0 bt452.2))))) = some (r1, r2) := h
 clear h
 obtain ⟨y447, hy447⟩ : ∃ y_ : List (S63), y_ = (([] : List (S63))) := ⟨_, rfl⟩
 replace H : ((spec_l6Rd_pick.f k s0_0 s0_1 8).bind fun bt450 => ((spec_l6Rd_pick.f k s0_0 bt450.2 20).bind fun bt452 => (if bt452.1 = 0 then ((spec_l6Rd_pick.f k s0_0 bt452.2 2).bind fun bt454 => (spec_l92Steps.j0 k y447 (wrap64 (8 + bt454.1)) s0_0 bt454.2)) else (spec_l92Steps.j0 k y447 bt450.1 s0_0 bt452.2)))) = some (r1, r2) := by first | (rw [hy447]; with_reducible exact H) | (have H2_ := (oS_q _ _).symm.trans H; rw [hy447]; with_reducible exact H2_) | (have H2_ := (oS_q _ _).symm.trans H; with_reducible exact H2_) | with_reducible exact H | (rw [hy447]; exact H) | exact H
 have Ny447 := Ae_q hy447
 clear hy447
 replace H := oB_q.mp H
 obtain ⟨⟨t450, t451⟩, A20, H⟩ := H
 replace H : ((spec_l6Rd_pick.f k s0_0 t451 20).bind fun bt452 => (if bt452.1 = 0 then ((spec_l6Rd_pick.f k s0_0 bt452.2 2).bind fun bt454 => (spec_l92Steps.j0 k y447 (wrap64 (8 + bt454.1)) s0_0 bt454.2)) else (spec_l92Steps.j0 k y447 t450 s0_0 bt452.2))) = some (r1, r2) := H
 have A2 := Ae_q A20
 clear A20
 replace H := oB_q.mp H
 obtain ⟨⟨t452, t453⟩, A30, H⟩ := H
 replace H : (if t452 = 0 then ((spec_l6Rd_pick.f k s0_0 t453 2).bind fun bt454 => (spec_l92Steps.j0 k y447 (wrap64 (8 + bt454.1)) s0_0 bt454.2)) else (spec_l92Steps.j0 k y447 t450 s0_0 t453)) = some (r1, r2) := H
 have A3 := Ae_q A30
 clear A30
 have HC4 := Ae_q H
 clear H
 go_enter Try.func67, Try.ntmps67
 go_upto_if 13 with (first | ((with_reducible refine gD_q (N := 8) rfl ?_); refine Kd.S_lit k63 _ 63 ?hg (N := 8) ?hd (xs := ([] : List (S63))) (inner := []) (ok := fun _ => True) (okp := fun _ => True) ?hr ?hp (fun _ hk => hk) trivial (bR_q _ _) (nR_q _) (by simp) ?_; (case hd => rfl); (case hg => rfl); (case hr => exact m5_q); (case hp => exact m104_q); intro v448 w5 ho6 hb hg_ hnew_; clear hg_ hnew_; (first | rw [← Ny447.out] at ho6 | (simp only [Int.reduceToNat] at ho6; rw [← Ny447.out] at ho6)); have HO449 := Ae_q (Kd.S_lower ho6 (keep_size (w := w) (g := g) (row := none) m4_q)); replace HK := Ae_q (kT_q m4_q (kO_q hb g none) (.inl rfl)); replace HB := Ae_q (bT_q m9_q hb); replace HI0 := Ae_q (i7_q m11_q hb); clear hb ho6) | ((with_reducible refine gC_q (f := 70) rfl ?_); (first | (refine gL_q (some 10) rfl rfl Try.func70 m8_q rfl #[.pointer (some ⟨g, 0, none⟩), .int .i64 8] rfl m0_q ?_; (with_reducible refine (spec_l6Rd_pick.calls k g s0_0 s0_1 8 t450 t451 w0 _ ?side1 ?side2 A2.out).mono ?_); (case side1 => exact m11_q); (case side2 => exact m9_q); rintro e w' ⟨rfl, hi, hb, hk⟩; refine ⟨_, rfl, ?_⟩; have n0_ := Ae_q (Kd.S_mono (Kd.S_keep (IsS83.apartS (show IsS83 w0 _ g s0_0 s0_1 from by repeat (with_reducible first | exact HI0.out | apply i2_q | apply i1_q | apply i0_q | apply i3_q)) m112_q (by decide)) hk (fun _ h => h.2)) (fun _ h => h.1))) | (refine gL_q (some 12) rfl rfl Try.func70 m8_q rfl #[.pointer (some ⟨g, 0, none⟩), .int .i64 20] rfl m0_q ?_; (with_reducible refine (spec_l6Rd_pick.calls k g s0_0 t451 20 t452 t453 w0 _ ?side1 ?side2 A3.out).mono ?_); (case side1 => exact m11_q); (case side2 => exact m9_q); rintro e w' ⟨rfl, hi, hb, hk⟩; refine ⟨_, rfl, ?_⟩; have n0_ := Ae_q (Kd.S_mono (Kd.S_keep (IsS83.apartS (show IsS83 w0 _ g s0_0 t451 from by repeat (with_reducible first | exact HI0.out | apply i2_q | apply i1_q | apply i0_q | apply i3_q)) m112_q (by decide)) hk (fun _ h => h.2)) (fun _ h => h.1)))); have n1_ := Ae_q (kT_q m4_q hk (.inl rfl)); have n2_ := Ae_q (hb); have n3_ := Ae_q (hi); clear HO449; clear HK; clear HB; clear HI0; have HO449 := n0_; have HK := n1_; have HB := n2_; have HI0 := n3_; clear n0_ n1_ n2_ n3_; (try clear hb); (try clear hb2); (try clear hk); (try clear hi)))
 (try simp only [Act.put, sA_q, sZ_q, sS_q])
 go_cut [4] (fun v4 wc => ∃ (kq : Nat) (x4_3 : Int) (x1001_3 : Int), v4 = .int .i64 x4_3 ∧ Aside0 (spec_l92Steps.j0 kq y447 x4_3 s0_0 x1001_3 = some (r1, r2)) ∧ Aside0 (kq ≤ k) ∧ Aside0 (Kd.S k63 63 wc w.heap.size (fun _ => True) v448 y447) ∧ Aside0 (IsS83 w0 wc g s0_0 x1001_3) ∧ Aside0 (KeepBut w wc g none) ∧ Aside0 (Below w0.heap.size w0 wc))
 case first =>
  have H := HC4.out
  clear HC4
  by_cases c9 : t452 = 0
  rotate_left
  ·rw [if_neg c9] at H
   have c9b0 : (t452 == 0) = false := fN_q.mpr c9
   have c9b1 : (t452 != 0) = true := nI_q.mpr c9
   (first | rw [c9b0] | (simp only [i64_w, i32_w]; rw [c9b0]) | skip)
   have H' := Ae_q H
   clear H
   go_wp2
   go_meet
   case rel => exact ⟨_, (t450), (t453), m7_q, H', ⟨m111_q⟩, ⟨m112_q⟩, ⟨m11_q⟩, ⟨m4_q⟩, ⟨m9_q⟩⟩
  rw [if_pos c9] at H
  have c9b0 : (t452 == 0) = true := beq_iff_eq.mpr c9
  have c9b1 : (t452 != 0) = false := nE_q.mpr c9
  clear c9
  (first | rw [c9b0] | (simp only [i64_w, i32_w]; rw [c9b0]) | skip)
  replace H := oB_q.mp H
  obtain ⟨⟨t454, t455⟩, A100, H⟩ := H
  replace H : (spec_l92Steps.j0 k y447 (wrap64 (8 + t454)) s0_0 t455) = some (r1, r2) := H
  have A10 := Ae_q A100
  clear A100
  have H' := Ae_q H
  clear H
  go_wp2_with (first | ((with_reducible refine gC_q (f := 70) rfl ?_); refine gL_q (some 15) rfl rfl Try.func70 m8_q rfl #[.pointer (some ⟨g, 0, none⟩), .int .i64 2] rfl m0_q ?_; (with_reducible refine (spec_l6Rd_pick.calls k g s0_0 t453 2 t454 t455 w0 _ ?side1 ?side2 A10.out).mono ?_); (case side1 => exact m11_q); (case side2 => exact m9_q); rintro e w' ⟨rfl, hi, hb, hk⟩; refine ⟨_, rfl, ?_⟩; replace HO449 := Ae_q (Kd.S_mono (Kd.S_keep (IsS83.apartS (show IsS83 w0 _ g s0_0 t453 from by repeat (with_reducible first | exact HI0.out | apply i2_q | apply i1_q | apply i0_q | apply i3_q)) m112_q (by decide)) hk (fun _ h => h.2)) (fun _ h => h.1)); replace HK := Ae_q (kT_q m4_q hk (.inl rfl)); replace HB := Ae_q (hb); replace HI0 := Ae_q (hi); (try clear hb); (try clear hb2); (try clear hk); (try clear hi)))
  go_meet
  case rel => exact ⟨_, (wrap64 (8 + t454)), (t455), m7_q, H', ⟨m111_q⟩, ⟨m112_q⟩, ⟨m11_q⟩, ⟨m4_q⟩, ⟨m9_q⟩⟩
 case rest =>
  clear HC4
  try clear p2
  try clear c6
  try clear p6
  try clear c7
  try clear c9
  try clear c9b0
  try clear c9b1
  obtain ⟨kq, x4_3, x1001_3, rfl, HA, HJ3, HO_3, HI0, HK, HB⟩ := hcut
  cases kq with
  | zero => exact absurd HA.out (by simp [spec_l92Steps.j0])
  | succ kj3 =>
   have H := HA.out
   clear HA
   simp only [spec_l92Steps.j0] at H
   have H' := Ae_q H
   clear H
   go_wp2
   go_loopg [3, 5] kj3 (fun kq v3 v5 w' => ∃ (x3_2 : List (S63)) (x5_2 : Int) (x1001_2 : Int), v5 = .int .i64 x5_2 ∧ Aside0 (spec_l92Steps.l0 kq x3_2 x4_3 x5_2 s0_0 x1001_2 = some (r1, r2)) ∧ Aside0 (kq ≤ kj3) ∧ Aside0 (Kd.S k63 63 w' w.heap.size (fun _ => True) v3 x3_2) ∧ Aside0 (IsS83 w0 w' g s0_0 x1001_2) ∧ Aside0 (KeepBut w w' g none) ∧ Aside0 (Below w0.heap.size w0 w'))
   case atStart => exact ⟨(y447), (0), (x1001_3), m7_q, H', ⟨nR_q _⟩, ⟨m26_q⟩, ⟨m11_q⟩, ⟨m4_q⟩, ⟨m9_q⟩⟩
   case round =>
    clear H'
    try clear p2
    try clear c6
    try clear p6
    try clear c7
    try clear c9
    try clear c9b0
    try clear c9b1
    try clear p2
    try clear p6
    obtain ⟨x3_2, x5_2, x1001_2, rfl, HA, HK2, HO_3, HI0, HK, HB⟩ := hrel
    cases gk with
    | zero => exact absurd HA.out (by simp [spec_l92Steps.l0])
    | succ k2 =>
     have H := HA.out
     clear HA
     simp only [spec_l92Steps.l0] at H
     by_cases c12 : x5_2 < x4_3
     ·rw [if_pos c12] at H
      have c12b0 : decide (x5_2 < x4_3) = true := dT_q c12
      clear c12
      replace H := oB_q.mp H
      obtain ⟨⟨t456, t457⟩, A130, H⟩ := H
      replace H : ((spec_l6Rd_pick.f k2 s0_0 t457 4).bind fun bt458 => ((spec_l6Rd_pick.f k2 s0_0 bt458.2 4).bind fun bt460 => (spec_l92Steps.l1 k2 x3_2 x4_3 x5_2 0 s0_0 bt460.2 (wrap64 (1 + t456)) bt458.1 bt460.1 (([] : List Int))))) = some (r1, r2) := H
      have A13 := Ae_q A130
      clear A130
      replace H := oB_q.mp H
      obtain ⟨⟨t458, t459⟩, A140, H⟩ := H
      replace H : ((spec_l6Rd_pick.f k2 s0_0 t459 4).bind fun bt460 => (spec_l92Steps.l1 k2 x3_2 x4_3 x5_2 0 s0_0 bt460.2 (wrap64 (1 + t456)) t458 bt460.1 (([] : List Int)))) = some (r1, r2) := H
      have A14 := Ae_q A140
      clear A140
      replace H := oB_q.mp H
      obtain ⟨⟨t460, t461⟩, A150, H⟩ := H
      replace H : (spec_l92Steps.l1 k2 x3_2 x4_3 x5_2 0 s0_0 t461 (wrap64 (1 + t456)) t458 t460 (([] : List Int))) = some (r1, r2) := H
      have A15 := Ae_q A150
      clear A150
      obtain ⟨y462, hy462⟩ : ∃ y_ : List Int, y_ = (([] : List Int)) := ⟨_, rfl⟩
      replace H : (spec_l92Steps.l1 k2 x3_2 x4_3 x5_2 0 s0_0 t461 (wrap64 (1 + t456)) t458 t460 y462) = some (r1, r2) := by first | (rw [hy462]; with_reducible exact H) | (have H2_ := (oS_q _ _).symm.trans H; rw [hy462]; with_reducible exact H2_) | (have H2_ := (oS_q _ _).symm.trans H; with_reducible exact H2_) | with_reducible exact H | (rw [hy462]; exact H) | exact H
      have Ny462 := Ae_q hy462
      clear hy462
      have H' := Ae_q H
      clear H
      go_wp2_with (first | ((with_reducible refine gC_q (f := 70) rfl ?_); (first | (refine gL_q (some 23) rfl rfl Try.func70 m8_q rfl #[.pointer (some ⟨g, 0, none⟩), .int .i64 12] rfl m0_q ?_; (with_reducible refine (spec_l6Rd_pick.calls k2 g s0_0 x1001_2 12 t456 t457 w0 _ ?side1 ?side2 A13.out).mono ?_); (case side1 => exact m11_q); (case side2 => exact m9_q); rintro e w' ⟨rfl, hi, hb, hk⟩; refine ⟨_, rfl, ?_⟩; have n0_ := Ae_q (Kd.S_mono (Kd.S_keep (IsS83.apartS (show IsS83 w0 _ g s0_0 x1001_2 from by repeat (with_reducible first | exact HI0.out | apply i2_q | apply i1_q | apply i0_q | apply i3_q)) m26_q (by decide)) hk (fun _ h => h.2)) (fun _ h => h.1))) | (refine gL_q (some 26) rfl rfl Try.func70 m8_q rfl #[.pointer (some ⟨g, 0, none⟩), .int .i64 4] rfl m0_q ?_; (with_reducible refine (spec_l6Rd_pick.calls k2 g s0_0 t457 4 t458 t459 w0 _ ?side1 ?side2 A14.out).mono ?_); (case side1 => exact m11_q); (case side2 => exact m9_q); rintro e w' ⟨rfl, hi, hb, hk⟩; refine ⟨_, rfl, ?_⟩; have n0_ := Ae_q (Kd.S_mono (Kd.S_keep (IsS83.apartS (show IsS83 w0 _ g s0_0 t457 from by repeat (with_reducible first | exact HI0.out | apply i2_q | apply i1_q | apply i0_q | apply i3_q)) m26_q (by decide)) hk (fun _ h => h.2)) (fun _ h => h.1))) | (refine gL_q (some 28) rfl rfl Try.func70 m8_q rfl #[.pointer (some ⟨g, 0, none⟩), .int .i64 4] rfl m0_q ?_; (with_reducible refine (spec_l6Rd_pick.calls k2 g s0_0 t459 4 t460 t461 w0 _ ?side1 ?side2 A15.out).mono ?_); (case side1 => exact m11_q); (case side2 => exact m9_q); rintro e w' ⟨rfl, hi, hb, hk⟩; refine ⟨_, rfl, ?_⟩; have n0_ := Ae_q (Kd.S_mono (Kd.S_keep (IsS83.apartS (show IsS83 w0 _ g s0_0 t459 from by repeat (with_reducible first | exact HI0.out | apply i2_q | apply i1_q | apply i0_q | apply i3_q)) m26_q (by decide)) hk (fun _ h => h.2)) (fun _ h => h.1)))); have n1_ := Ae_q (kT_q m4_q hk (.inl rfl)); have n2_ := Ae_q (hb); have n3_ := Ae_q (hi); clear HO_3; clear HK; clear HB; clear HI0; have HO_3 := n0_; have HK := n1_; have HB := n2_; have HI0 := n3_; clear n0_ n1_ n2_ n3_; (try clear hb); (try clear hb2); (try clear hk); (try clear hi)) | ((with_reducible refine gD_q (N := 29) rfl ?_); refine Kd.R_lit kI_q _ 3 ?hg (N := 29) ?hd (xs := ([] : List Int)) (inner := []) (ok := fun _ => True) (okp := fun _ => True) ?hr ?hp (fun _ hk => hk) trivial (bR_q _ _) (nR_q _) (by simp) ?_; (case hd => rfl); (case hg => rfl); (case hr => exact m5_q); (case hp => exact m104_q); intro v463 w19 ho20 hb hg_ hnew_; clear hg_ hnew_; (first | rw [← Ny462.out] at ho20 | (simp only [Int.reduceToNat] at ho20; rw [← Ny462.out] at ho20)); replace HO_3 := Ae_q (Kd.S_elder' m26_q (rB_q ho20) hb); have HO464 := Ae_q (rL_q ho20 (keep_size (w := w) (g := g) (row := none) m4_q)); replace HK := Ae_q (kT_q m4_q (kO_q hb g none) (.inl rfl)); replace HB := Ae_q (bT_q m9_q hb); replace HI0 := Ae_q (i7_q m11_q hb); clear hb ho20; obtain ⟨Ao21, co21, eo21⟩ := rS_q HO464.out; subst eo21) | ((with_reducible refine gD_q (N := 6) rfl ?_); refine bE_q ?hg (N := 6) ?hd (cs := #[.int .i64 0, .int .i64 0, .int .i64 0, .slice none 0 0]) (t := 63) ?hr ?_; (case hd => rfl); (case hg => rfl); (case hr => exact m5_q); intro gb465 hg w22 hbox hb; replace HO_3 := Ae_q (Kd.S_below (Kd.S_elderB m26_q gb465 (Nat.le_of_eq hg.symm)) hb); replace HO464 := Ae_q (rO_q (rup HO464.out) hb); replace HB := Ae_q (bT_q m9_q hb); have BK465 := Ae_q (hbox); have GW465 := Ae_q ((by rw [hg]; exact (keep_size (w := w) (g := g) (row := none) m4_q) : w.heap.size ≤ gb465)); have GE465 := Ae_q ((nT_q HW0.out (by rw [hg]; exact (keep_size (w := w) (g := g) (row := none) m4_q) : w.heap.size ≤ gb465) : w0.heap.size ≤ gb465)); replace HK := Ae_q (kT_q m4_q (kO_q hb g none) (.inl rfl)); have NB0_465 := Ae_q ((by rw [hg]; exact nL_q (i6_q (show IsS83 w0 _ g s0_0 t461 from by repeat (with_reducible first | exact HI0.out | apply i2_q | apply i1_q | apply i0_q | apply i3_q))) : g ≠ gb465)); have NB465_0 := Ae_q ((by rw [hg]; exact nG_q (i6_q (show IsS83 w0 _ g s0_0 t461 from by repeat (with_reducible first | exact HI0.out | apply i2_q | apply i1_q | apply i0_q | apply i3_q))) : gb465 ≠ g)); replace HI0 := Ae_q (i7_q m11_q hb); clear hb hbox hg; have hnb23 := NB465_0.out; have hnc23 := NB0_465.out; have hcz24_0 : cI w22 gb465 0 0 := cZ BK465 0 rfl; have hcz24_1 : cI w22 gb465 1 0 := cZ BK465 1 rfl; have hcz24_2 : cI w22 gb465 2 0 := cZ BK465 2 rfl; have hcz24_3 : w22.cell? ⟨gb465, 3, none⟩ = some (.slice none 0 0) := (bC_q BK465.out 3).trans rfl; have hfz24_0 := bF_q BK465.out 0; have hfz24_1 := bF_q BK465.out 1; have hfz24_2 := bF_q BK465.out 2; have hfz24_3 := bF_q BK465.out 3))
      go_loopg [7] k2 (fun kq v7 w' => ∃ (x7_3 : Int) (x1001_3 : Int) (x466003_3 : List Int) (u466003 : Value), v7 = .int .i64 x7_3 ∧ Aside0 (spec_l92Steps.l1 kq x3_2 x4_3 x5_2 x7_3 s0_0 x1001_3 (wrap64 (1 + t456)) t458 t460 x466003_3 = some (r1, r2)) ∧ Aside0 (kq ≤ k2) ∧ Aside0 (Kd.S k63 63 w' w.heap.size (fun k_ => some k_ ≠ (u466003 : Value).ownBlock ∧ k_ ≠ gb465) u3 x3_2) ∧ Aside0 (Kd.R kI_q 3 w' w.heap.size (fun _ => True) u466003 x466003_3) ∧ Aside0 (w'.heap[gb465]? = some (.cells #[.int .i64 (wrap64 (1 + t456)), .int .i64 t458, .int .i64 t460, u466003] 63 (0, 0))) ∧ Aside0 (IsS83 w0 w' g s0_0 x1001_3) ∧ Aside0 (KeepBut w w' g none) ∧ Aside0 (Below w0.heap.size w0 w'))
      case atStart => exact ⟨(0), (t461), (y462), (.slice Ao21 y462.length co21), m7_q, H', ⟨nR_q _⟩, ⟨by (with_reducible repeat (first | apply tA_q | apply tN_q | apply tD_q)); exact Kd.S_mono (Kd.S_far (p := ⟨gb465, 3, none⟩) (Kd.S_far (p := ⟨gb465, 2, none⟩) (Kd.S_far (p := ⟨gb465, 1, none⟩) (Kd.S_far (p := ⟨gb465, 0, none⟩) (Kd.S_mono HO_3.out (fun k_ hk => (⟨hk, hk.2⟩ : _ ∧ k_ ≠ gb465))) (fun _ hk => hk.2) (.int .i64 (wrap64 (1 + t456)))) (fun _ hk => hk.2) (.int .i64 t458)) (fun _ hk => hk.2) (.int .i64 t460)) (fun _ hk => hk.2) (.slice Ao21 y462.length co21)) (fun _ hk => ⟨hk.1.1.2, hk.1.2⟩)⟩, ⟨by (with_reducible repeat (first | apply rA_q | apply rN_q | apply rD_q)); exact rM_q (Kd.R_far (p := ⟨gb465, 3, none⟩) (Kd.R_far (p := ⟨gb465, 2, none⟩) (Kd.R_far (p := ⟨gb465, 1, none⟩) (Kd.R_far (p := ⟨gb465, 0, none⟩) (Kd.R_types HO464.out BK465.out (by decide)) (fun _ hk => hk.2) (.int .i64 (wrap64 (1 + t456)))) (fun _ hk => hk.2) (.int .i64 t458)) (fun _ hk => hk.2) (.int .i64 t460)) (fun _ hk => hk.2) (.slice Ao21 y462.length co21)) (fun _ hk => trivial)⟩, ⟨by (with_reducible repeat (first | refine bN_q ?_ _ | refine bW_q ?_ | refine bL_q ?_ _)); refine blk_put (cs := #[.int .i64 (wrap64 (1 + t456)), .int .i64 t458, .int .i64 t460, .slice none 0 0]) ?_ 3 _ rfl; (with_reducible repeat (first | refine bN_q ?_ _ | refine bW_q ?_ | refine bL_q ?_ _)); refine blk_put (cs := #[.int .i64 (wrap64 (1 + t456)), .int .i64 t458, .int .i64 0, .slice none 0 0]) ?_ 2 _ rfl; (with_reducible repeat (first | refine bN_q ?_ _ | refine bW_q ?_ | refine bL_q ?_ _)); refine blk_put (cs := #[.int .i64 (wrap64 (1 + t456)), .int .i64 0, .int .i64 0, .slice none 0 0]) ?_ 1 _ rfl; (with_reducible repeat (first | refine bN_q ?_ _ | refine bW_q ?_ | refine bL_q ?_ _)); refine blk_put (cs := #[.int .i64 0, .int .i64 0, .int .i64 0, .slice none 0 0]) ?_ 0 _ rfl; (with_reducible repeat (first | refine bN_q ?_ _ | refine bW_q ?_ | refine bL_q ?_ _)); exact BK465.out⟩, ⟨m59_q⟩, ⟨m45_q⟩, ⟨m53_q⟩⟩
      case round =>
       clear H'
       try clear c1
       try clear c2
       try clear p2
       try clear c6
       try clear p6
       try clear c7
       try clear c9
       try clear c9b0
       try clear c9b1
       try clear c12
       try clear c12b0
       try clear c23
       try clear hcz24_0
       try clear hcz24_1
       try clear hcz24_2
       try clear hcz24_3
       try clear hfz24_0
       try clear hfz24_1
       try clear hfz24_2
       try clear hfz24_3
       try clear p2
       try clear p6
       obtain ⟨x7_3, x1001_3, x466003_3, u466003, rfl, HA, HK3, HO_3, HO_466003, BK465, HI0, HK, HB⟩ := hrel
       cases gk with
       | zero => exact absurd HA.out (by simp [spec_l92Steps.l1])
       | succ k3 =>
        have H := HA.out
        clear HA
        simp only [spec_l92Steps.l1] at H
        by_cases c25 : x7_3 < x5_2
        rotate_left
        ·rw [if_neg c25] at H
         have c25b0 : decide (x7_3 < x5_2) = false := dF_q c25
         clear c25
         by_cases c36 : x3_2.length < 2932031007402
         rotate_left
         ·rw [if_neg c36] at H
          exact absurd H (by simp)
         rw [if_pos c36] at H
         have LMc36 := Ae_q c36
         clear c36
         obtain ⟨y471, hy471⟩ : ∃ y_ : List (S63), y_ = (x3_2 ++ [(⟨(wrap64 (1 + t456)), t458, t460, x466003_3⟩ : S63)]) := ⟨_, rfl⟩
         replace H : (spec_l92Steps.l0 k3 y471 x4_3 (wrap64 (x5_2 + 1)) s0_0 x1001_3) = some (r1, r2) := by first | (rw [hy471]; with_reducible exact H) | (have H2_ := (oS_q _ _).symm.trans H; rw [hy471]; with_reducible exact H2_) | (have H2_ := (oS_q _ _).symm.trans H; with_reducible exact H2_) | with_reducible exact H | (rw [hy471]; exact H) | exact H
         have Ny471 := Ae_q hy471
         clear hy471
         have H' := Ae_q H
         clear H
         have hnb37 := NB465_0.out
         have hnc37 := NB0_465.out
         have hcz38_0 : cI wr gb465 0 (wrap64 (1 + t456)) := cZ BK465 0 rfl
         have hcz38_1 : cI wr gb465 1 t458 := cZ BK465 1 rfl
         have hcz38_2 : cI wr gb465 2 t460 := cZ BK465 2 rfl
         have hcz38_3 : wr.cell? ⟨gb465, 3, none⟩ = some (u466003) := (bC_q BK465.out 3).trans rfl
         have hfz38_0 := bF_q BK465.out 0
         have hfz38_1 := bF_q BK465.out 1
         have hfz38_2 := bF_q BK465.out 2
         have hfz38_3 := bF_q BK465.out 3
         obtain ⟨Ao40, co40, eo40⟩ := rS_q HO_466003.out
         subst eo40
         go_wp2_with (first | ((with_reducible refine gate_builtin (b := .append) (xs := #[.tmp 45, .tmp 47]) rfl ?_); at_builtin; refine Kd.S_append k63 w.heap.size rfl (.tmp 45) (.tmp 47) 28 63 (.agg #[(.int .i64 0), (.int .i64 0), (.int .i64 0), (.slice none 0 0)]) 48 rfl Try.underlying28 info63 rfl (by decide) (by omega) u3 x3_2 (⟨(wrap64 (1 + t456)), t458, t460, x466003_3⟩ : S63) [.int .i64 (wrap64 (1 + t456)), .int .i64 t458, .int .i64 t460, .slice Ao40 x466003_3.length co40] (fun k_ => k_ ≠ gb465) (fun k_ => some k_ = (.slice Ao40 x466003_3.length co40 : Value).ownBlock) rfl rfl ?aP (fun k_ hk_ => ((rM_q (ok' := fun k_ => ((fun k_ => k_ ≠ gb465)) k_ ∧ some k_ ≠ (u3 : Value).ownBlock) (Kd.R_types (Kd.R_apart' (HO_466003.out) (Kd.S_typed HO_3.out) (by decide)) BK465.out (by decide)) (fun k_ hk => ⟨hk.2, hk.1.2⟩))).1 k_ hk_.symm) ?aF ?aO (bR_q _ _) ?aS ?aL ?_; (case aP => exact k63_mkM _ _ _ (⟨(wrap64 (1 + t456)), t458, t460, x466003_3⟩ : S63) (rM_q (Kd.R_tight rfl (rM_q (ok' := fun k_ => ((fun k_ => k_ ≠ gb465)) k_ ∧ some k_ ≠ (u3 : Value).ownBlock) (Kd.R_types (Kd.R_apart' (HO_466003.out) (Kd.S_typed HO_3.out) (by decide)) BK465.out (by decide)) (fun k_ hk => ⟨hk.2, hk.1.2⟩))) (fun _ h_ => h_))); (case aF => exact (fun k_ hk => Kd.freshB (g := gb465) (o := .cells #[.int .i64 (wrap64 (1 + t456)), .int .i64 t458, .int .i64 t460, .slice Ao40 x466003_3.length co40] 63 (0, 0)) (bup BK465.out) k_ hk)); (case aO => exact (by (with_reducible repeat (first | apply tA_q | apply tN_q | apply tD_q)); exact Kd.S_mono HO_3.out (fun k_ hk => ⟨hk.2, fun e_ => hk.1 e_⟩))); (case aS => exact (keep_size (w := w) (g := g) (row := none) m45_q)); (case aL => exact m143_q); intro v472 w39 ho hb hg hat; rw [← Ny471.out] at ho; replace BK465 := Ae_q (bG_q (g := gb465) (o := .cells #[.int .i64 (wrap64 (1 + t456)), .int .i64 t458, .int .i64 t460, .slice Ao40 x466003_3.length co40] 63 (0, 0)) (bup BK465.out) hg (Kd.S_away HO_3.out (fun _ hk => hk.2))); replace HB := Ae_q (below_weaken m53_q HL.out hb); replace HI0 := Ae_q (IsS83.grown m59_q hg (IsS83.own_neS HI0.out HO_3.out (by decide))); replace HK := Ae_q (kT_q m45_q (KeepBut.of_grown hg g) (Kd.S_base2 HO_3.out)); have HO473 := Ae_q (ho); clear HO_3; clear HO_466003; clear ho hb hg hat))
         go_roundg k3
         case measure => have := HJ3.out; have := HK2.out; have := HK3.out; omega
         case rel => exact ⟨(y471), (wrap64 (x5_2 + 1)), (x1001_3), m7_q, H', ⟨m160_q⟩, ⟨by (with_reducible repeat (first | apply tA_q | apply tN_q | apply tD_q)); exact Kd.S_mono HO473.out (fun _ hk => trivial)⟩, ⟨m59_q⟩, ⟨m45_q⟩, ⟨m53_q⟩⟩
        rw [if_pos c25] at H
        have c25b0 : decide (x7_3 < x5_2) = true := dT_q c25
        clear c25
        replace H := oB_q.mp H
        obtain ⟨⟨t466, t467⟩, A260, H⟩ := H
        replace H : (if t466 = 0 then (if x466003_3.length < 17592186044416 then (spec_l92Steps.l1 k3 x3_2 x4_3 x5_2 (wrap64 (x7_3 + 1)) s0_0 t467 (wrap64 (1 + t456)) t458 t460 (x466003_3 ++ [x7_3])) else (none)) else (spec_l92Steps.l1 k3 x3_2 x4_3 x5_2 (wrap64 (x7_3 + 1)) s0_0 t467 (wrap64 (1 + t456)) t458 t460 x466003_3)) = some (r1, r2) := H
        have A26 := Ae_q A260
        clear A260
        by_cases c27 : t466 = 0
        rotate_left
        ·rw [if_neg c27] at H
         have c27b0 : (t466 == 0) = false := fN_q.mpr c27
         have c27b1 : (t466 != 0) = true := nI_q.mpr c27
         have H' := Ae_q H
         clear H
         go_wp2_with (first | ((with_reducible refine gC_q (f := 70) rfl ?_); refine gL_q (some 37) rfl rfl Try.func70 m8_q rfl #[.pointer (some ⟨g, 0, none⟩), .int .i64 4] rfl m0_q ?_; (with_reducible refine (spec_l6Rd_pick.calls k3 g s0_0 x1001_3 4 t466 t467 w0 _ ?side1 ?side2 A26.out).mono ?_); (case side1 => exact m59_q); (case side2 => exact m53_q); rintro e w' ⟨rfl, hi, hb, hk⟩; refine ⟨_, rfl, ?_⟩; replace HO_3 := Ae_q (Kd.S_mono (Kd.S_keep (IsS83.apartS (show IsS83 w0 _ g s0_0 x1001_3 from by repeat (with_reducible first | exact HI0.out | apply i2_q | apply i1_q | apply i0_q | apply i3_q | refine i4_q ?_ NB0_465.out _)) m26_q (by decide)) hk (fun _ h => h.2)) (fun _ h => h.1)); replace HO_466003 := Ae_q (rM_q (rK_q (IsS83.apart (show IsS83 w0 _ g s0_0 x1001_3 from by repeat (with_reducible first | exact HI0.out | apply i2_q | apply i1_q | apply i0_q | apply i3_q | refine i4_q ?_ NB0_465.out _)) (rup HO_466003.out) (by decide)) hk (fun _ h => h.2)) (fun _ h => h.1)); replace BK465 := Ae_q (kB_q hk (g' := gb465) (o := .cells #[.int .i64 (wrap64 (1 + t456)), .int .i64 t458, .int .i64 t460, u466003] 63 (0, 0)) (bup BK465.out) NB465_0.out (by simp)); replace HK := Ae_q (kT_q m45_q hk (.inl rfl)); replace HB := Ae_q (hb); replace HI0 := Ae_q (hi); (try clear hb); (try clear hb2); (try clear hk); (try clear hi)))
         go_roundg k3
         case measure => have := HJ3.out; have := HK2.out; have := HK3.out; omega
         case rel => exact ⟨(wrap64 (x7_3 + 1)), (t467), (x466003_3), (u466003), m7_q, H', ⟨m160_q⟩, ⟨m26_q⟩, ⟨rup HO_466003.out⟩, ⟨bup BK465.out⟩, ⟨m59_q⟩, ⟨m45_q⟩, ⟨m53_q⟩⟩
        rw [if_pos c27] at H
        have c27b0 : (t466 == 0) = true := beq_iff_eq.mpr c27
        have c27b1 : (t466 != 0) = false := nE_q.mpr c27
        clear c27
        by_cases c28 : x466003_3.length < 17592186044416
        rotate_left
        ·rw [if_neg c28] at H
         exact absurd H (by simp)
        rw [if_pos c28] at H
        have LMc28 := Ae_q c28
        clear c28
        obtain ⟨y468, hy468⟩ : ∃ y_ : List Int, y_ = (x466003_3 ++ [x7_3]) := ⟨_, rfl⟩
        replace H : (spec_l92Steps.l1 k3 x3_2 x4_3 x5_2 (wrap64 (x7_3 + 1)) s0_0 t467 (wrap64 (1 + t456)) t458 t460 y468) = some (r1, r2) := by first | (rw [hy468]; with_reducible exact H) | (have H2_ := (oS_q _ _).symm.trans H; rw [hy468]; with_reducible exact H2_) | (have H2_ := (oS_q _ _).symm.trans H; with_reducible exact H2_) | with_reducible exact H | (rw [hy468]; exact H) | exact H
        have Ny468 := Ae_q hy468
        clear hy468
        have H' := Ae_q H
        clear H
        go_wp2_with (first | ((with_reducible refine gC_q (f := 70) rfl ?_); refine gL_q (some 37) rfl rfl Try.func70 m8_q rfl #[.pointer (some ⟨g, 0, none⟩), .int .i64 4] rfl m0_q ?_; (with_reducible refine (spec_l6Rd_pick.calls k3 g s0_0 x1001_3 4 t466 t467 w0 _ ?side1 ?side2 A26.out).mono ?_); (case side1 => exact m59_q); (case side2 => exact m53_q); rintro e w29 ⟨rfl, hi, hb, hk⟩; refine ⟨_, rfl, ?_⟩; replace HO_3 := Ae_q (Kd.S_mono (Kd.S_keep (IsS83.apartS (show IsS83 w0 _ g s0_0 x1001_3 from by repeat (with_reducible first | exact HI0.out | apply i2_q | apply i1_q | apply i0_q | apply i3_q | refine i4_q ?_ NB0_465.out _)) m26_q (by decide)) hk (fun _ h => h.2)) (fun _ h => h.1)); replace HO_466003 := Ae_q (rM_q (rK_q (IsS83.apart (show IsS83 w0 _ g s0_0 x1001_3 from by repeat (with_reducible first | exact HI0.out | apply i2_q | apply i1_q | apply i0_q | apply i3_q | refine i4_q ?_ NB0_465.out _)) (rup HO_466003.out) (by decide)) hk (fun _ h => h.2)) (fun _ h => h.1)); replace BK465 := Ae_q (kB_q hk (g' := gb465) (o := .cells #[.int .i64 (wrap64 (1 + t456)), .int .i64 t458, .int .i64 t460, u466003] 63 (0, 0)) (bup BK465.out) NB465_0.out (by simp)); replace HK := Ae_q (kT_q m45_q hk (.inl rfl)); replace HB := Ae_q (hb); replace HI0 := Ae_q (hi); (try clear hb); (try clear hb2); (try clear hk); (try clear hi); have hnb30 := NB465_0.out; have hnc30 := NB0_465.out; have hcz31_0 : cI w29 gb465 0 (wrap64 (1 + t456)) := cZ BK465 0 rfl; have hcz31_1 : cI w29 gb465 1 t458 := cZ BK465 1 rfl; have hcz31_2 : cI w29 gb465 2 t460 := cZ BK465 2 rfl; have hcz31_3 : w29.cell? ⟨gb465, 3, none⟩ = some (u466003) := (bC_q BK465.out 3).trans rfl; have hfz31_0 := bF_q BK465.out 0; have hfz31_1 := bF_q BK465.out 1; have hfz31_2 := bF_q BK465.out 2; have hfz31_3 := bF_q BK465.out 3) | ((with_reducible refine gate_builtin (b := .append) (xs := #[.tmp 40, .tmp 42]) rfl ?_); at_builtin; refine Kd.R_append kI_q w.heap.size rfl (.tmp 40) (.tmp 42) 23 3 (.int .i64 0) 8 rfl Try.underlying23 info3 rfl (by decide) (by omega) u466003 x466003_3 x7_3 [.int .i64 x7_3] (fun _ => True) (fun _ => False) rfl rfl ?aP (fun _ hk => hk.elim) ?aF ?aO (bR_q _ _) ?aS ?aL ?_; (case aP => exact rfl); (case aF => exact m155_q); (case aO => exact (rup HO_466003.out)); (case aS => exact (keep_size (w := w) (g := g) (row := none) m45_q)); (case aL => have := LMc28.out; omega); intro v469 w32 ho hb hg hat; rw [← Ny468.out] at ho; replace HO_3 := Ae_q (Kd.S_after (ok := (fun k_ => k_ ≠ gb465)) (by (with_reducible repeat (first | apply tA_q | apply tN_q | apply tD_q)); exact Kd.S_mono HO_3.out (fun _ hk => ⟨hk.2, hk.1⟩)) hg hat); replace BK465 := Ae_q (bG_q (g := gb465) (o := .cells #[.int .i64 (wrap64 (1 + t456)), .int .i64 t458, .int .i64 t460, u466003] 63 (0, 0)) (bup BK465.out) hg (Kd.R_ne HO_466003.out BK465.out (by decide))); replace HB := Ae_q (below_weaken m53_q HL.out hb); replace HI0 := Ae_q (IsS83.grown m59_q hg (IsS83.own_ne HI0.out HO_466003.out (by decide))); replace HK := Ae_q (kT_q m45_q (KeepBut.of_grown hg g) (Kd.R_base2 HO_466003.out)); have HO470 := Ae_q (ho); clear HO_466003; clear ho hb hg hat; obtain ⟨Ao33, co33, eo33⟩ := rS_q HO470.out; subst eo33; have hcz34_0 : cI w32 gb465 0 (wrap64 (1 + t456)) := cZ BK465 0 rfl; have hcz34_1 : cI w32 gb465 1 t458 := cZ BK465 1 rfl; have hcz34_2 : cI w32 gb465 2 t460 := cZ BK465 2 rfl; have hcz34_3 : w32.cell? ⟨gb465, 3, none⟩ = some (u466003) := (bC_q BK465.out 3).trans rfl; have hfz34_0 := bF_q BK465.out 0; have hfz34_1 := bF_q BK465.out 1; have hfz34_2 := bF_q BK465.out 2; have hfz34_3 := bF_q BK465.out 3))
        go_roundg k3
        case measure => have := HJ3.out; have := HK2.out; have := HK3.out; omega
        case rel => exact ⟨(wrap64 (x7_3 + 1)), (t467), (y468), (.slice Ao33 y468.length co33), m7_q, H', ⟨m160_q⟩, ⟨by (with_reducible repeat (first | apply tA_q | apply tN_q | apply tD_q)); exact Kd.S_mono (Kd.S_far (p := ⟨gb465, 3, none⟩) (Kd.S_mono HO_3.out (fun k_ hk => (⟨hk, hk.1⟩ : _ ∧ k_ ≠ gb465))) (fun _ hk => hk.2) (.slice Ao33 y468.length co33)) (fun _ hk => ⟨hk.1.2, hk.1.1⟩)⟩, ⟨by (with_reducible repeat (first | apply rA_q | apply rN_q | apply rD_q)); exact rM_q (Kd.R_far (p := ⟨gb465, 3, none⟩) (Kd.R_types HO470.out BK465.out (by decide)) (fun _ hk => hk.2) (.slice Ao33 y468.length co33)) (fun _ hk => trivial)⟩, ⟨by (with_reducible repeat (first | refine bN_q ?_ _ | refine bW_q ?_ | refine bL_q ?_ _)); refine blk_put (cs := #[.int .i64 (wrap64 (1 + t456)), .int .i64 t458, .int .i64 t460, u466003]) ?_ 3 _ rfl; (with_reducible repeat (first | refine bN_q ?_ _ | refine bW_q ?_ | refine bL_q ?_ _)); exact BK465.out⟩, ⟨m59_q⟩, ⟨m45_q⟩, ⟨m53_q⟩⟩
     rw [if_neg c12] at H
     have c12b0 : decide (x5_2 < x4_3) = false := dF_q c12
     clear c12
     by_cases c41 : x4_3 > 0
     rotate_left
     ·rw [if_neg c41] at H
      have c41b0 : decide (0 < x4_3) = false := dF_q c41
      clear c41
      simp only [oE_q, pE_q] at H
      obtain ⟨rfl, rfl⟩ := H
      go_wp2
      go_ret
      exact ⟨_, m6_q, m26_q, m11_q, m9_q, m4_q⟩
     rw [if_pos c41] at H
     have c41b0 : decide (0 < x4_3) = true := dT_q c41
     clear c41
     replace H := oB_q.mp H
     obtain ⟨⟨t474, t475⟩, A420, H⟩ := H
     replace H : (if t474 = 0 then ((spec_l6Rd_pick.f k2 s0_0 t475 x4_3).bind fun bt476 => ((some (([0, 99, 100] : List Int) : List Int)).bind fun y478 => ((spec_l6Rd_pick.f k2 s0_0 bt476.2 3).bind fun bt481 => (if 0 ≤ bt481.1 then (if bt481.1 < (y478.length : Int) then (if 0 ≤ bt476.1 then (if bt476.1 < (x3_2.length : Int) then (some ((x3_2.set (bt476.1 : Int).toNat (⟨rd y478 bt481.1, (rd_T63 x3_2 bt476.1).f1, (rd_T63 x3_2 bt476.1).f2, (rd_T63 x3_2 bt476.1).f3⟩ : S63)), bt481.2)) else (none)) else (none)) else (none)) else (none))))) else (if t474 = 1 then (if 0 < (x3_2.length : Int) then (if ((rd_T63 x3_2 0).f3).length < 17592186044416 then (some ((x3_2.set (0 : Int).toNat (⟨(rd_T63 x3_2 0).f0, (rd_T63 x3_2 0).f1, (rd_T63 x3_2 0).f2, (((rd_T63 x3_2 0).f3) ++ [0])⟩ : S63)), t475)) else (none)) else (none)) else (if t474 = 2 then ((spec_l6Rd_pick.f k2 s0_0 t475 x4_3).bind fun bt490 => ((some (([(-1), 4, 5] : List Int) : List Int)).bind fun y492 => ((spec_l6Rd_pick.f k2 s0_0 bt490.2 3).bind fun bt495 => (if 0 ≤ bt495.1 then (if bt495.1 < (y492.length : Int) then (if 0 ≤ bt490.1 then (if bt490.1 < (x3_2.length : Int) then (some ((x3_2.set (bt490.1 : Int).toNat (⟨(rd_T63 x3_2 bt490.1).f0, (rd_T63 x3_2 bt490.1).f1, rd y492 bt495.1, (rd_T63 x3_2 bt490.1).f3⟩ : S63)), bt495.2)) else (none)) else (none)) else (none)) else (none))))) else (some (x3_2, t475))))) = some (r1, r2) := H
     have A42 := Ae_q A420
     clear A420
     by_cases c43 : t474 = 0
     ·rw [if_pos c43] at H
      have c43b0 : (t474 == 0) = true := beq_iff_eq.mpr c43
      have c43b1 : (t474 != 0) = false := nE_q.mpr c43
      clear c43
      replace H := oB_q.mp H
      obtain ⟨⟨t476, t477⟩, A440, H⟩ := H
      replace H : ((some (([0, 99, 100] : List Int) : List Int)).bind fun y478 => ((spec_l6Rd_pick.f k2 s0_0 t477 3).bind fun bt481 => (if 0 ≤ bt481.1 then (if bt481.1 < (y478.length : Int) then (if 0 ≤ t476 then (if t476 < (x3_2.length : Int) then (some ((x3_2.set (t476 : Int).toNat (⟨rd y478 bt481.1, (rd_T63 x3_2 t476).f1, (rd_T63 x3_2 t476).f2, (rd_T63 x3_2 t476).f3⟩ : S63)), bt481.2)) else (none)) else (none)) else (none)) else (none)))) = some (r1, r2) := H
      have A44 := Ae_q A440
      clear A440
      obtain ⟨y478, hy478⟩ : ∃ y_ : List Int, y_ = (([0, 99, 100] : List Int)) := ⟨_, rfl⟩
      replace H : ((spec_l6Rd_pick.f k2 s0_0 t477 3).bind fun bt481 => (if 0 ≤ bt481.1 then (if bt481.1 < (y478.length : Int) then (if 0 ≤ t476 then (if t476 < (x3_2.length : Int) then (some ((x3_2.set (t476 : Int).toNat (⟨rd y478 bt481.1, (rd_T63 x3_2 t476).f1, (rd_T63 x3_2 t476).f2, (rd_T63 x3_2 t476).f3⟩ : S63)), bt481.2)) else (none)) else (none)) else (none)) else (none))) = some (r1, r2) := by first | (rw [hy478]; with_reducible exact H) | (have H2_ := (oS_q _ _).symm.trans H; rw [hy478]; with_reducible exact H2_) | (have H2_ := (oS_q _ _).symm.trans H; with_reducible exact H2_) | with_reducible exact H | (rw [hy478]; exact H) | exact H
      have Ny478 := Ae_q hy478
      clear hy478
      replace H := oB_q.mp H
      obtain ⟨⟨t481, t482⟩, A450, H⟩ := H
      replace H : (if 0 ≤ t481 then (if t481 < (y478.length : Int) then (if 0 ≤ t476 then (if t476 < (x3_2.length : Int) then (some ((x3_2.set (t476 : Int).toNat (⟨rd y478 t481, (rd_T63 x3_2 t476).f1, (rd_T63 x3_2 t476).f2, (rd_T63 x3_2 t476).f3⟩ : S63)), t482)) else (none)) else (none)) else (none)) else (none)) = some (r1, r2) := H
      have A45 := Ae_q A450
      clear A450
      by_cases c46 : 0 ≤ t481
      rotate_left
      ·rw [if_neg c46] at H
       exact absurd H (by simp)
      rw [if_pos c46] at H
      have c46b0 : decide (0 ≤ t481) = true := dT_q c46
      clear c46
      by_cases c47 : t481 < (y478.length : Int)
      rotate_left
      ·rw [if_neg c47] at H
       exact absurd H (by simp)
      rw [if_pos c47] at H
      have c47b0 : decide (t481 < (y478.length : Int)) = true := dT_q c47
      clear c47
      by_cases c48 : 0 ≤ t476
      rotate_left
      ·rw [if_neg c48] at H
       exact absurd H (by simp)
      rw [if_pos c48] at H
      have c48b0 : decide (0 ≤ t476) = true := dT_q c48
      clear c48
      by_cases c49 : t476 < (x3_2.length : Int)
      rotate_left
      ·rw [if_neg c49] at H
       exact absurd H (by simp)
      rw [if_pos c49] at H
      have c49b0 : decide (t476 < (x3_2.length : Int)) = true := dT_q c49
      clear c49
      obtain ⟨y484, hy484⟩ : ∃ y_ : List (S63), y_ = (x3_2.set (t476 : Int).toNat (⟨rd y478 t481, (rd_T63 x3_2 t476).f1, (rd_T63 x3_2 t476).f2, (rd_T63 x3_2 t476).f3⟩ : S63)) := ⟨_, rfl⟩
      replace H : (some (y484, t482)) = some (r1, r2) := by first | (rw [hy484]; with_reducible exact H) | (have H2_ := (oS_q _ _).symm.trans H; rw [hy484]; with_reducible exact H2_) | (have H2_ := (oS_q _ _).symm.trans H; with_reducible exact H2_) | with_reducible exact H | (rw [hy484]; exact H) | exact H
      have Ny484 := Ae_q hy484
      clear hy484
      simp only [oE_q, pE_q] at H
      obtain ⟨rfl, rfl⟩ := H
      go_wp2_with (first | ((with_reducible refine gC_q (f := 70) rfl ?_); refine gL_q (some 52) rfl rfl Try.func70 m8_q rfl #[.pointer (some ⟨g, 0, none⟩), .int .i64 30] rfl m0_q ?_; (with_reducible refine (spec_l6Rd_pick.calls k2 g s0_0 x1001_2 30 t474 t475 w0 _ ?side1 ?side2 A42.out).mono ?_); (case side1 => exact m11_q); (case side2 => exact m9_q); rintro e w' ⟨rfl, hi, hb, hk⟩; refine ⟨_, rfl, ?_⟩; replace HO_3 := Ae_q (Kd.S_mono (Kd.S_keep (IsS83.apartS (show IsS83 w0 _ g s0_0 x1001_2 from by repeat (with_reducible first | exact HI0.out | apply i2_q | apply i1_q | apply i0_q | apply i3_q)) m26_q (by decide)) hk (fun _ h => h.2)) (fun _ h => h.1)); replace HK := Ae_q (kT_q m4_q hk (.inl rfl)); replace HB := Ae_q (hb); replace HI0 := Ae_q (hi); (try clear hb); (try clear hb2); (try clear hk); (try clear hi)) | ((with_reducible refine gC_q (f := 70) rfl ?_); refine gL_q (some 58) rfl rfl Try.func70 m8_q rfl #[.pointer (some ⟨g, 0, none⟩), .int .i64 x4_3] rfl m0_q ?_; (with_reducible refine (spec_l6Rd_pick.calls k2 g s0_0 t475 x4_3 t476 t477 w0 _ ?side1 ?side2 A44.out).mono ?_); (case side1 => exact m11_q); (case side2 => exact m9_q); rintro e w' ⟨rfl, hi, hb, hk⟩; refine ⟨_, rfl, ?_⟩; replace HO_3 := Ae_q (Kd.S_mono (Kd.S_keep (IsS83.apartS (show IsS83 w0 _ g s0_0 t475 from by repeat (with_reducible first | exact HI0.out | apply i2_q | apply i1_q | apply i0_q | apply i3_q)) m26_q (by decide)) hk (fun _ h => h.2)) (fun _ h => h.1)); replace HK := Ae_q (kT_q m4_q hk (.inl rfl)); replace HB := Ae_q (hb); replace HI0 := Ae_q (hi); (try clear hb); (try clear hb2); (try clear hk); (try clear hi)) | ((with_reducible refine gD_q (N := 59) rfl ?_); refine Kd.R_lit kI_q _ 3 ?hg (N := 59) ?hd (xs := ([0, 99, 100] : List Int)) (inner := [.int .i64 0, .int .i64 99, .int .i64 100]) (ok := fun _ => True) (okp := fun _ => True) ?hr ?hp (fun _ hk => hk) trivial (bR_q _ _) (nR_q _) (by simp) ?_; (case hd => rfl); (case hg => rfl); (case hr => exact m5_q); (case hp => exact (Reps.one (show Kd.M kI_q _ _ _ 0 [.int .i64 0] from rfl) (Reps.one (show Kd.M kI_q _ _ _ 99 [.int .i64 99] from rfl) (Reps.one (show Kd.M kI_q _ _ _ 100 [.int .i64 100] from rfl) (Reps.none _ _))))); intro v479 w53 ho54 hb hg_ hnew_; clear hg_ hnew_; (first | rw [← Ny478.out] at ho54 | (simp only [Int.reduceToNat] at ho54; rw [← Ny478.out] at ho54)); replace HO_3 := Ae_q (Kd.S_elder' m26_q (rB_q ho54) hb); have HO480 := Ae_q (rL_q ho54 (keep_size (w := w) (g := g) (row := none) m4_q)); replace HK := Ae_q (kT_q m4_q (kO_q hb g none) (.inl rfl)); replace HB := Ae_q (bT_q m9_q hb); replace HI0 := Ae_q (i7_q m11_q hb); clear hb ho54) | ((with_reducible refine gC_q (f := 70) rfl ?_); refine gL_q (some 61) rfl rfl Try.func70 m8_q rfl #[.pointer (some ⟨g, 0, none⟩), .int .i64 3] rfl m0_q ?_; (with_reducible refine (spec_l6Rd_pick.calls k2 g s0_0 t477 3 t481 t482 w0 _ ?side1 ?side2 A45.out).mono ?_); (case side1 => exact m11_q); (case side2 => exact m9_q); rintro e w55 ⟨rfl, hi, hb, hk⟩; refine ⟨_, rfl, ?_⟩; replace HO_3 := Ae_q (Kd.S_mono (Kd.S_keep (IsS83.apartS (show IsS83 w0 _ g s0_0 t477 from by repeat (with_reducible first | exact HI0.out | apply i2_q | apply i1_q | apply i0_q | apply i3_q)) m26_q (by decide)) hk (fun _ h => h.2)) (fun _ h => h.1)); replace HO480 := Ae_q (rM_q (rK_q (IsS83.apart (show IsS83 w0 _ g s0_0 t477 from by repeat (with_reducible first | exact HI0.out | apply i2_q | apply i1_q | apply i0_q | apply i3_q)) (rup HO480.out) (by decide)) hk (fun _ h => h.2)) (fun _ h => h.1)); replace HK := Ae_q (kT_q m4_q hk (.inl rfl)); replace HB := Ae_q (hb); replace HI0 := Ae_q (hi); (try clear hb); (try clear hb2); (try clear hk); (try clear hi); obtain ⟨Ao56, co56, eo56⟩ := rS_q HO480.out; subst eo56; have p483 : 0 ≤ (t481 : Int) := oD_q (by assumption); have q483 : t481 < (y478.length : Int) := oD_q (by assumption); obtain ⟨ad483, e483, hx483_0⟩ := aI_q (rR_q HO480.out).2.2 t481 p483 q483; cases e483; replace p483 := eq_true p483; replace q483 := eq_true q483; have p50 : 0 ≤ (t476 : Int) := oD_q (by assumption); have q50 : (t476 : Int) < ((x3_2.length : Int) : Int) := oD_q (by assumption); obtain ⟨go50, co50, eo50, gb50, gl50, cl50, HG50⟩ := Kd.S_form HO_3.out (by omega); (first | cases eo50 | (injection eo50 with ea_ en_ ec_; (first | subst ea_ | (injection ea_ with ea_; subst ea_)); subst ec_; clear en_)); have GB50 := Ae_q gb50; have GG50 := Ae_q HG50; clear gb50 gl50 HG50; obtain ⟨_, ce50, hcl50, hM50, hcc50, hfr50, _, _⟩ := Kd.S_elem HO_3.out z63 (t476 : Int) p50 q50; obtain ⟨ve50_3, rfl, ge50_3⟩ := k63_openM hM50; have hx50_0 : w55.cell? ⟨go50, (t476 : Int).toNat * 4, none⟩ = some (.int .i64 ((rd_T63 x3_2 t476).f0)) := hcc50 0 _ rfl; have hx50_1 : w55.cell? ⟨go50, (t476 : Int).toNat * 4 + 1, none⟩ = some (.int .i64 ((rd_T63 x3_2 t476).f1)) := hcc50 1 _ rfl; have hx50_2 : w55.cell? ⟨go50, (t476 : Int).toNat * 4 + 2, none⟩ = some (.int .i64 ((rd_T63 x3_2 t476).f2)) := hcc50 2 _ rfl; have hx50_3 : w55.cell? ⟨go50, (t476 : Int).toNat * 4 + 3, none⟩ = some (ve50_3) := hcc50 3 _ rfl; have hf50_0 : w55.frozen? ⟨go50, (t476 : Int).toNat * 4, none⟩ = false := hfr50 0; have hf50_1 : w55.frozen? ⟨go50, (t476 : Int).toNat * 4 + 1, none⟩ = false := hfr50 1; have hf50_2 : w55.frozen? ⟨go50, (t476 : Int).toNat * 4 + 2, none⟩ = false := hfr50 2; have hf50_3 : w55.frozen? ⟨go50, (t476 : Int).toNat * 4 + 3, none⟩ = false := hfr50 3; clear hcl50 hcc50 hfr50 hM50; replace p50 := eq_true p50; replace q50 := eq_true q50; have n_ := Ae_q (Kd.S_mono (ok' := (fun k_ => some k_ ≠ (.slice (some ad483) y478.length co56 : Value).ownBlock)) HO_3.out (fun k_ hk => hk.2)); clear HO_3; have HO_3 := n_; clear n_; have HX57 := Ae_q (show Kd.S k63 63 w55 w.heap.size (fun k_ => ((fun k_ => some k_ ≠ (.slice (some ad483) y478.length co56 : Value).ownBlock)) k_ ∧ ¬ ((fun _ => False)) k_) (.slice (some ⟨go50, 0, none⟩) x3_2.length co50) x3_2 from m145_q); obtain ⟨oki57, ce57, hcl57, hM57, hcc57, hfr57, hoki57, hH57⟩ := Kd.S_elem HX57.out z63 (t476 : Int) (oD_q (by assumption)) (by have h_ : (t476 : Int) < ((x3_2.length : Int) : Int) := oD_q (by assumption); first | exact h_ | (have e_ := (Kd.S_reads' HO_3.out).1; omega) | simpa using h_); obtain ⟨ve57_3, rfl, ge57_3⟩ := k63_openM hM57; have HP57 := Kd.S_seg hH57 (oD_q (by assumption)) (by have h_ : (t476 : Int) < ((x3_2.length : Int) : Int) := oD_q (by assumption); first | exact h_ | (have e_ := (Kd.S_reads' HO_3.out).1; omega) | simpa using h_) (seg := [.int .i64 (rd y478 t481)]) (j := 0) (show 1 ≤ 4 from by decide) (x' := (⟨rd y478 t481, (rd_T63 x3_2 t476).f1, (rd_T63 x3_2 t476).f2, (rd_T63 x3_2 t476).f3⟩ : S63)) (k63_mkM _ _ _ (⟨rd y478 t481, (rd_T63 x3_2 t476).f1, (rd_T63 x3_2 t476).f2, (rd_T63 x3_2 t476).f3⟩ : S63) (rM_q ge57_3 (fun _ h_ => Or.inl h_))) (fun _ hk => hk) (fun k_ hk_ => hk_.elim); have hx57_0 := hcc57 0 _ rfl; (try simp only [show (k63).sz = 4 from rfl, Nat.mul_one, Nat.add_zero] at hx57_0); have hf57_0 := hfr57 0; (try simp only [show (k63).sz = 4 from rfl, Nat.mul_one, Nat.add_zero] at hf57_0); clear hcl57 hcc57 hfr57 hM57 hoki57 hH57) | ((with_reducible refine gate_store (t := 3) (p := 65) rfl ?_); refine store_event (t := 3) (p := 65) (v := ?vo_w58) (w1 := (w55.setCell ⟨go50, (t476 : Int).toNat * 4, none⟩ (.int .i64 (rd y478 t481)))) ?hg ?ho ?hn ?hr ?_; (case ho => rfl); (case hg => rfl); (case hn => rfl); (case hr => exact m5_q); intro w58 hw; have hg : w55.grownBy w58 (some go50) := (by rw [hw]; exact HP57.2); have hp_ : Kd.S k63 63 w58 w.heap.size (fun k_ => some k_ ≠ (.slice (some ad483) y478.length co56 : Value).ownBlock) (.slice (some ⟨go50, 0, none⟩) x3_2.length co50) y484 := (by rw [hw, Ny484.out]; exact HP57.1); clear HP57; replace HI0 := Ae_q (IsS83.grown m11_q hg (IsS83.own_neS HI0.out HO_3.out (by decide))); replace HO480 := Ae_q (Kd.R_over' (v := (.slice (some ⟨go50, 0, none⟩) x3_2.length co50)) (rup HO480.out) (Kd.S_typed HO_3.out) (by decide) hg); replace HB := Ae_q ((by rw [hw]; exact bS_q (HB.out) (nT_q HL.out GB50.out) : Below w0.heap.size w0 w58)); replace HK := Ae_q (kT_q m4_q (KeepBut.of_grown hg g) (Kd.S_base2 HO_3.out)); replace HO_3 := Ae_q (hp_); clear hg hw hp_))
      go_ret
      exact ⟨_, m6_q, m151_q, m11_q, m9_q, m4_q⟩
     rw [if_neg c43] at H
     have c43b0 : (t474 == 0) = false := fN_q.mpr c43
     have c43b1 : (t474 != 0) = true := nI_q.mpr c43
     by_cases c59 : t474 = 1
     ·rw [if_pos c59] at H
      have c59b0 : (t474 == 1) = true := beq_iff_eq.mpr c59
      have c59b1 : (t474 != 1) = false := nE_q.mpr c59
      clear c59
      by_cases c60 : 0 < (x3_2.length : Int)
      rotate_left
      ·rw [if_neg c60] at H
       exact absurd H (by simp)
      rw [if_pos c60] at H
      have c60b0 : decide (0 < (x3_2.length : Int)) = true := dT_q c60
      have c60b1 : decide (0 < x3_2.length) = true := dT_q (by omega)
      clear c60
      by_cases c61 : ((rd_T63 x3_2 0).f3).length < 17592186044416
      rotate_left
      ·rw [if_neg c61] at H
       exact absurd H (by simp)
      rw [if_pos c61] at H
      have LMc61 := Ae_q c61
      clear c61
      obtain ⟨y486, hy486⟩ : ∃ y_ : List Int, y_ = (((rd_T63 x3_2 0).f3) ++ [0]) := ⟨_, rfl⟩
      replace H : (some ((x3_2.set (0 : Int).toNat (⟨(rd_T63 x3_2 0).f0, (rd_T63 x3_2 0).f1, (rd_T63 x3_2 0).f2, y486⟩ : S63)), t475)) = some (r1, r2) := by first | (rw [hy486]; with_reducible exact H) | (have H2_ := (oS_q _ _).symm.trans H; rw [hy486]; with_reducible exact H2_) | (have H2_ := (oS_q _ _).symm.trans H; with_reducible exact H2_) | with_reducible exact H | (rw [hy486]; exact H) | exact H
      have Ny486 := Ae_q hy486
      clear hy486
      obtain ⟨y489, hy489⟩ : ∃ y_ : List (S63), y_ = (x3_2.set (0 : Int).toNat (⟨(rd_T63 x3_2 0).f0, (rd_T63 x3_2 0).f1, (rd_T63 x3_2 0).f2, y486⟩ : S63)) := ⟨_, rfl⟩
      replace H : (some (y489, t475)) = some (r1, r2) := by first | (rw [hy489]; with_reducible exact H) | (have H2_ := (oS_q _ _).symm.trans H; rw [hy489]; with_reducible exact H2_) | (have H2_ := (oS_q _ _).symm.trans H; with_reducible exact H2_) | with_reducible exact H | (rw [hy489]; exact H) | exact H
      have Ny489 := Ae_q hy489
      clear hy489
      simp only [oE_q, pE_q] at H
      obtain ⟨rfl, rfl⟩ := H
      go_wp2_with (first | ((with_reducible refine gC_q (f := 70) rfl ?_); refine gL_q (some 52) rfl rfl Try.func70 m8_q rfl #[.pointer (some ⟨g, 0, none⟩), .int .i64 30] rfl m0_q ?_; (with_reducible refine (spec_l6Rd_pick.calls k2 g s0_0 x1001_2 30 t474 t475 w0 _ ?side1 ?side2 A42.out).mono ?_); (case side1 => exact m11_q); (case side2 => exact m9_q); rintro e w63 ⟨rfl, hi, hb, hk⟩; refine ⟨_, rfl, ?_⟩; replace HO_3 := Ae_q (Kd.S_mono (Kd.S_keep (IsS83.apartS (show IsS83 w0 _ g s0_0 x1001_2 from by repeat (with_reducible first | exact HI0.out | apply i2_q | apply i1_q | apply i0_q | apply i3_q)) m26_q (by decide)) hk (fun _ h => h.2)) (fun _ h => h.1)); replace HK := Ae_q (kT_q m4_q hk (.inl rfl)); replace HB := Ae_q (hb); replace HI0 := Ae_q (hi); (try clear hb); (try clear hb2); (try clear hk); (try clear hi); obtain ⟨Ao64, co64, eo64⟩ := Kd.S_slice HO_3.out; subst eo64; have p485 : 0 ≤ (0 : Int) := (by omega); have q485 : 0 < (x3_2.length : Int) := oD_q (by assumption); obtain ⟨ad485, A485_3, c485_3, e485, hx485_0, hx485_1, hx485_2, hx485_3, hl485_3, hi485_3⟩ := at_T63 (Kd.S_reads' HO_3.out).2.2 0 p485 q485; cases e485; obtain ⟨ce485, hce485, hMe485, hcc485⟩ := Kd.S_get HO_3.out z63 0 p485 (by first | exact q485 | exact oD_q (by assumption) | (have e_ := (Kd.S_reads' HO_3.out).1; omega)); obtain ⟨ve485_3, rfl, ge485_3⟩ := k63_openM hMe485; have hv485_3 := hcc485 3 _ rfl; rw [add_field _ _ 3 (by omega)] at hv485_3; replace hv485_3 := oI_q (hv485_3.symm.trans hx485_3); rw [hv485_3] at ge485_3; have HL485_3 := Ae_q (show Kd.R kI_q 3 _ _ _ _ ((rd_T63 x3_2 0).f3) from ge485_3); clear hv485_3 ge485_3; have HX485_3 := Ae_q hx485_3; clear hcc485 hce485; have qi485 : (0 < x3_2.length) = True := eq_true (by omega); (try rw [show ((0 : Int)).toNat = 0 from rfl] at hx485_0); (try rw [show 0 * 4 = 0 from rfl] at hx485_0); (try rw [Addr.add_zero'] at hx485_0); (try rw [show ((0 : Int)).toNat = 0 from rfl] at hx485_1); (try rw [show 0 * 4 = 0 from rfl] at hx485_1); (try rw [Addr.add_zero'] at hx485_1); (try rw [show ((0 : Int)).toNat = 0 from rfl] at hx485_2); (try rw [show 0 * 4 = 0 from rfl] at hx485_2); (try rw [Addr.add_zero'] at hx485_2); (try rw [show ((0 : Int)).toNat = 0 from rfl] at hx485_3); (try rw [show 0 * 4 = 0 from rfl] at hx485_3); (try rw [Addr.add_zero'] at hx485_3); have HR485_3 := Ae_q hi485_3; have HC485_3 := Ae_q hl485_3; clear hi485_3 hl485_3; replace p485 := eq_true p485; replace q485 := eq_true q485; obtain ⟨go65, co65, eo65, gb65, gl65, cl65, HG65⟩ := Kd.S_form HO_3.out (by have h_ : (0 : Int) < ((x3_2.length : Int) : Int) := oD_q (by assumption); have h2_ : 0 ≤ (0 : Int) := (by omega); omega); (first | cases eo65 | (injection eo65 with ea_ en_ ec_; (first | subst ea_ | (injection ea_ with ea_; subst ea_)); subst ec_; clear en_)); have GB65 := Ae_q gb65; have GG65 := Ae_q HG65; clear gb65 gl65 HG65; (first | simp only [add_plain] at hx485_0 | skip); (first | simp only [add_plain] at hx485_1 | skip); (first | simp only [add_plain] at hx485_2 | skip); (first | simp only [add_plain] at hx485_3 | skip); obtain ⟨oki65, ce65, hcl65, hM65, hcc65, _, _, hH65⟩ := Kd.S_elem HO_3.out z63 (0 : Int) (by omega) (by have h_ : (0 : Int) < ((x3_2.length : Int) : Int) := oD_q (by assumption); first | exact h_ | (have e_ := (Kd.S_reads' HO_3.out).1; omega) | simpa using h_); obtain ⟨ve65_3, rfl, ge65_3⟩ := k63_openM hM65; have hv65 := hcc65 3 _ rfl; have hX65 := HX485_3.out; (try simp only [add_plain] at hX65); (try simp only [Nat.add_zero] at hv65); replace hv65 := oI_q (hv65.symm.trans hX65); subst hv65; clear hX65 hcc65 hcl65; have UU65 := Ae_q (show Kd.R kI_q 3 _ w.heap.size oki65 (.slice A485_3 ((rd_T63 x3_2 0).f3).length c485_3) ((rd_T63 x3_2 0).f3) from ge65_3); have HH65 := Ae_q hH65; have HN65 := Ae_q (Kd.S_reads' HO_3.out).1; clear hH65 ge65_3) | ((with_reducible refine gate_builtin (b := .append) (xs := #[.tmp 72, .tmp 73]) rfl ?_); at_builtin; refine Kd.R_append kI_q w.heap.size rfl (.tmp 72) (.tmp 73) 23 3 (.int .i64 0) 8 rfl Try.underlying23 info3 rfl (by decide) (by omega) (.slice A485_3 ((rd_T63 x3_2 0).f3).length c485_3) ((rd_T63 x3_2 0).f3) 0 [.int .i64 0] (fun k_ => oki65 k_ ∨ ((fun _ => True)) k_ ∧ w63.heap.size ≤ k_) (fun _ => False) rfl rfl ?aP (fun _ hk => hk.elim) ?aF ?aO (bR_q _ _) ?aS ?aL ?_; (case aP => exact rfl); (case aF => exact (fun k_ hk => .inr ⟨trivial, hk⟩)); (case aO => exact (by (with_reducible repeat (first | apply rA_q | apply rN_q | apply rD_q)); exact rM_q UU65.out (fun _ hk => .inl hk))); (case aS => exact (keep_size (w := w) (g := g) (row := none) m4_q)); (case aL => have := LMc61.out; omega); intro v487 w66 ho hb hg hat; rw [← Ny486.out] at ho; replace HB := Ae_q (below_weaken m9_q HL.out hb); replace HI0 := Ae_q (IsS83.grown m11_q hg (IsS83.own_ne HI0.out HL485_3.out (by decide))); replace HK := Ae_q (kT_q m4_q (KeepBut.of_grown hg g) (Kd.R_base2 HL485_3.out)); replace HH65 := Ae_q (Kd.H_grown (Kd.H_widen (by repeat (first | exact HH65.out | refine Kd.H_alloc ?_ _ | refine Kd.H_drewN ?_ _ | refine Kd.H_drew ?_))) hg (fun k_ e_ => .inl (UU65.out.1 k_ e_))); have HO488 := Ae_q (ho); clear HO_3; clear UU65; clear HL485_3; clear ho hb hg hat; have p62 : 0 ≤ (0 : Int) := (by omega); have q62 : (0 : Int) < ((x3_2.length : Int) : Int) := oD_q (by assumption); replace p62 := eq_true p62; replace q62 := eq_true q62; obtain ⟨Ao69, co69, eo69⟩ := rS_q HO488.out; subst eo69; obtain ⟨_, _, hraw67, _, _, hcc67, _⟩ := Kd.H_raw HH65.out (by omega) (by have h_ : (0 : Int) < ((x3_2.length : Int) : Int) := oD_q (by assumption); first | exact h_ | (have e_ := (HN65.out); omega) | simpa using h_); obtain ⟨_, hfr67⟩ := Kd.H_at HH65.out (by omega) (by have h_ : (0 : Int) < ((x3_2.length : Int) : Int) := oD_q (by assumption); first | exact h_ | (have e_ := (HN65.out); omega) | simpa using h_); have hx67_0 := hcc67 3 _ rfl; have hf67_0 := hfr67 3; (try rw [show (k63).sz = 4 from rfl] at hx67_0); (try rw [show (k63).sz = 4 from rfl] at hf67_0); (try rw [show ((0 : Int)).toNat = 0 from rfl] at hx67_0); (try simp only [Nat.reduceMul, Nat.zero_mul, Nat.zero_add, Nat.reduceAdd] at hx67_0); (try rw [show ((0 : Int)).toNat = 0 from rfl] at hf67_0); (try simp only [Nat.reduceMul, Nat.zero_mul, Nat.zero_add, Nat.reduceAdd] at hf67_0); have HP67 := Kd.S_seg0 HH65.out (by omega) (by have h_ : (0 : Int) < ((x3_2.length : Int) : Int) := oD_q (by assumption); first | exact h_ | (have e_ := (HN65.out); omega) | simpa using h_) (seg := [.slice Ao69 y486.length co69]) (j := 3) (show 4 ≤ 4 from by decide) (x' := (⟨(rd_T63 x3_2 0).f0, (rd_T63 x3_2 0).f1, (rd_T63 x3_2 0).f2, y486⟩ : S63)) (k63_mkM _ _ _ (⟨(rd_T63 x3_2 0).f0, (rd_T63 x3_2 0).f1, (rd_T63 x3_2 0).f2, y486⟩ : S63) HO488.out) (fun _ hk => hk); clear hcc67 hfr67) | ((with_reducible refine gate_store (t := 23) (p := 76) rfl ?_); refine store_event (t := 23) (p := 76) (v := ?vo_w68) (w1 := (w66.setCell ⟨go65, (0 : Int).toNat * 4 + 3, none⟩ (.slice Ao69 y486.length co69))) ?hg ?ho ?hn ?hr ?_; (case ho => rfl); (case hg => rfl); (case hn => rfl); (case hr => exact m5_q); intro w68 hw; have hg : w66.grownBy w68 (some go65) := (by rw [hw]; exact HP67.2); have hp_ : Kd.S k63 63 w68 w.heap.size (fun _ => True) (.slice (some ⟨go65, 0, none⟩) x3_2.length co64) y489 := (by rw [hw, Ny489.out]; exact HP67.1); clear HP67; replace HI0 := Ae_q (IsS83.grown m11_q hg (IsS83.own_ne HI0.out hraw67 (by decide))); replace HB := Ae_q ((by rw [hw]; exact bS_q HB.out (nT_q HL.out GB65.out) : Below w0.heap.size w0 w68)); replace HK := Ae_q (kT_q m4_q (KeepBut.of_grown hg g) (Kd.R_base2 hraw67)); have HO_3 := Ae_q (hp_); clear HO488; clear HH65; clear hg hw hp_ hraw67))
      go_ret
      exact ⟨_, m6_q, m26_q, m11_q, m9_q, m4_q⟩
     rw [if_neg c59] at H
     have c59b0 : (t474 == 1) = false := fN_q.mpr c59
     have c59b1 : (t474 != 1) = true := nI_q.mpr c59
     by_cases c70 : t474 = 2
     rotate_left
     ·rw [if_neg c70] at H
      have c70b0 : (t474 == 2) = false := fN_q.mpr c70
      have c70b1 : (t474 != 2) = true := nI_q.mpr c70
      simp only [oE_q, pE_q] at H
      obtain ⟨rfl, rfl⟩ := H
      go_wp2_with (first | ((with_reducible refine gC_q (f := 70) rfl ?_); refine gL_q (some 52) rfl rfl Try.func70 m8_q rfl #[.pointer (some ⟨g, 0, none⟩), .int .i64 30] rfl m0_q ?_; (with_reducible refine (spec_l6Rd_pick.calls k2 g s0_0 x1001_2 30 t474 t475 w0 _ ?side1 ?side2 A42.out).mono ?_); (case side1 => exact m11_q); (case side2 => exact m9_q); rintro e w' ⟨rfl, hi, hb, hk⟩; refine ⟨_, rfl, ?_⟩; replace HO_3 := Ae_q (Kd.S_mono (Kd.S_keep (IsS83.apartS (show IsS83 w0 _ g s0_0 x1001_2 from by repeat (with_reducible first | exact HI0.out | apply i2_q | apply i1_q | apply i0_q | apply i3_q)) m26_q (by decide)) hk (fun _ h => h.2)) (fun _ h => h.1)); replace HK := Ae_q (kT_q m4_q hk (.inl rfl)); replace HB := Ae_q (hb); replace HI0 := Ae_q (hi); (try clear hb); (try clear hb2); (try clear hk); (try clear hi)))
      go_ret
      exact ⟨_, m6_q, m26_q, m11_q, m9_q, m4_q⟩
     rw [if_pos c70] at H
     have c70b0 : (t474 == 2) = true := beq_iff_eq.mpr c70
     have c70b1 : (t474 != 2) = false := nE_q.mpr c70
     clear c70
     replace H := oB_q.mp H
     obtain ⟨⟨t490, t491⟩, A710, H⟩ := H
     replace H : ((some (([(-1), 4, 5] : List Int) : List Int)).bind fun y492 => ((spec_l6Rd_pick.f k2 s0_0 t491 3).bind fun bt495 => (if 0 ≤ bt495.1 then (if bt495.1 < (y492.length : Int) then (if 0 ≤ t490 then (if t490 < (x3_2.length : Int) then (some ((x3_2.set (t490 : Int).toNat (⟨(rd_T63 x3_2 t490).f0, (rd_T63 x3_2 t490).f1, rd y492 bt495.1, (rd_T63 x3_2 t490).f3⟩ : S63)), bt495.2)) else (none)) else (none)) else (none)) else (none)))) = some (r1, r2) := H
     have A71 := Ae_q A710
     clear A710
     obtain ⟨y492, hy492⟩ : ∃ y_ : List Int, y_ = (([(-1), 4, 5] : List Int)) := ⟨_, rfl⟩
     replace H : ((spec_l6Rd_pick.f k2 s0_0 t491 3).bind fun bt495 => (if 0 ≤ bt495.1 then (if bt495.1 < (y492.length : Int) then (if 0 ≤ t490 then (if t490 < (x3_2.length : Int) then (some ((x3_2.set (t490 : Int).toNat (⟨(rd_T63 x3_2 t490).f0, (rd_T63 x3_2 t490).f1, rd y492 bt495.1, (rd_T63 x3_2 t490).f3⟩ : S63)), bt495.2)) else (none)) else (none)) else (none)) else (none))) = some (r1, r2) := by first | (rw [hy492]; with_reducible exact H) | (have H2_ := (oS_q _ _).symm.trans H; rw [hy492]; with_reducible exact H2_) | (have H2_ := (oS_q _ _).symm.trans H; with_reducible exact H2_) | with_reducible exact H | (rw [hy492]; exact H) | exact H
     have Ny492 := Ae_q hy492
     clear hy492
     replace H := oB_q.mp H
     obtain ⟨⟨t495, t496⟩, A720, H⟩ := H
     replace H : (if 0 ≤ t495 then (if t495 < (y492.length : Int) then (if 0 ≤ t490 then (if t490 < (x3_2.length : Int) then (some ((x3_2.set (t490 : Int).toNat (⟨(rd_T63 x3_2 t490).f0, (rd_T63 x3_2 t490).f1, rd y492 t495, (rd_T63 x3_2 t490).f3⟩ : S63)), t496)) else (none)) else (none)) else (none)) else (none)) = some (r1, r2) := H
     have A72 := Ae_q A720
     clear A720
     by_cases c73 : 0 ≤ t495
     rotate_left
     ·rw [if_neg c73] at H
      exact absurd H (by simp)
     rw [if_pos c73] at H
     have c73b0 : decide (0 ≤ t495) = true := dT_q c73
     clear c73
     by_cases c74 : t495 < (y492.length : Int)
     rotate_left
     ·rw [if_neg c74] at H
      exact absurd H (by simp)
     rw [if_pos c74] at H
     have c74b0 : decide (t495 < (y492.length : Int)) = true := dT_q c74
     clear c74
     by_cases c75 : 0 ≤ t490
     rotate_left
     ·rw [if_neg c75] at H
      exact absurd H (by simp)
     rw [if_pos c75] at H
     have c75b0 : decide (0 ≤ t490) = true := dT_q c75
     clear c75
     by_cases c76 : t490 < (x3_2.length : Int)
     rotate_left
     ·rw [if_neg c76] at H
      exact absurd H (by simp)
     rw [if_pos c76] at H
     have c76b0 : decide (t490 < (x3_2.length : Int)) = true := dT_q c76
     clear c76
     obtain ⟨y498, hy498⟩ : ∃ y_ : List (S63), y_ = (x3_2.set (t490 : Int).toNat (⟨(rd_T63 x3_2 t490).f0, (rd_T63 x3_2 t490).f1, rd y492 t495, (rd_T63 x3_2 t490).f3⟩ : S63)) := ⟨_, rfl⟩
     replace H : (some (y498, t496)) = some (r1, r2) := by first | (rw [hy498]; with_reducible exact H) | (have H2_ := (oS_q _ _).symm.trans H; rw [hy498]; with_reducible exact H2_) | (have H2_ := (oS_q _ _).symm.trans H; with_reducible exact H2_) | with_reducible exact H | (rw [hy498]; exact H) | exact H
     have Ny498 := Ae_q hy498
     clear hy498
     simp only [oE_q, pE_q] at H
     obtain ⟨rfl, rfl⟩ := H
     go_wp2_with (first | ((with_reducible refine gC_q (f := 70) rfl ?_); refine gL_q (some 52) rfl rfl Try.func70 m8_q rfl #[.pointer (some ⟨g, 0, none⟩), .int .i64 30] rfl m0_q ?_; (with_reducible refine (spec_l6Rd_pick.calls k2 g s0_0 x1001_2 30 t474 t475 w0 _ ?side1 ?side2 A42.out).mono ?_); (case side1 => exact m11_q); (case side2 => exact m9_q); rintro e w' ⟨rfl, hi, hb, hk⟩; refine ⟨_, rfl, ?_⟩; replace HO_3 := Ae_q (Kd.S_mono (Kd.S_keep (IsS83.apartS (show IsS83 w0 _ g s0_0 x1001_2 from by repeat (with_reducible first | exact HI0.out | apply i2_q | apply i1_q | apply i0_q | apply i3_q)) m26_q (by decide)) hk (fun _ h => h.2)) (fun _ h => h.1)); replace HK := Ae_q (kT_q m4_q hk (.inl rfl)); replace HB := Ae_q (hb); replace HI0 := Ae_q (hi); (try clear hb); (try clear hb2); (try clear hk); (try clear hi)) | ((with_reducible refine gC_q (f := 70) rfl ?_); refine gL_q (some 82) rfl rfl Try.func70 m8_q rfl #[.pointer (some ⟨g, 0, none⟩), .int .i64 x4_3] rfl m0_q ?_; (with_reducible refine (spec_l6Rd_pick.calls k2 g s0_0 t475 x4_3 t490 t491 w0 _ ?side1 ?side2 A71.out).mono ?_); (case side1 => exact m11_q); (case side2 => exact m9_q); rintro e w' ⟨rfl, hi, hb, hk⟩; refine ⟨_, rfl, ?_⟩; replace HO_3 := Ae_q (Kd.S_mono (Kd.S_keep (IsS83.apartS (show IsS83 w0 _ g s0_0 t475 from by repeat (with_reducible first | exact HI0.out | apply i2_q | apply i1_q | apply i0_q | apply i3_q)) m26_q (by decide)) hk (fun _ h => h.2)) (fun _ h => h.1)); replace HK := Ae_q (kT_q m4_q hk (.inl rfl)); replace HB := Ae_q (hb); replace HI0 := Ae_q (hi); (try clear hb); (try clear hb2); (try clear hk); (try clear hi)) | ((with_reducible refine gD_q (N := 83) rfl ?_); refine Kd.R_lit kI_q _ 3 ?hg (N := 83) ?hd (xs := ([(-1), 4, 5] : List Int)) (inner := [.int .i64 (-1), .int .i64 4, .int .i64 5]) (ok := fun _ => True) (okp := fun _ => True) ?hr ?hp (fun _ hk => hk) trivial (bR_q _ _) (nR_q _) (by simp) ?_; (case hd => rfl); (case hg => rfl); (case hr => exact m5_q); (case hp => exact (Reps.one (show Kd.M kI_q _ _ _ (-1) [.int .i64 (-1)] from rfl) (Reps.one (show Kd.M kI_q _ _ _ 4 [.int .i64 4] from rfl) (Reps.one (show Kd.M kI_q _ _ _ 5 [.int .i64 5] from rfl) (Reps.none _ _))))); intro v493 w80 ho81 hb hg_ hnew_; clear hg_ hnew_; (first | rw [← Ny492.out] at ho81 | (simp only [Int.reduceToNat] at ho81; rw [← Ny492.out] at ho81)); replace HO_3 := Ae_q (Kd.S_elder' m26_q (rB_q ho81) hb); have HO494 := Ae_q (rL_q ho81 (keep_size (w := w) (g := g) (row := none) m4_q)); replace HK := Ae_q (kT_q m4_q (kO_q hb g none) (.inl rfl)); replace HB := Ae_q (bT_q m9_q hb); replace HI0 := Ae_q (i7_q m11_q hb); clear hb ho81) | ((with_reducible refine gC_q (f := 70) rfl ?_); refine gL_q (some 85) rfl rfl Try.func70 m8_q rfl #[.pointer (some ⟨g, 0, none⟩), .int .i64 3] rfl m0_q ?_; (with_reducible refine (spec_l6Rd_pick.calls k2 g s0_0 t491 3 t495 t496 w0 _ ?side1 ?side2 A72.out).mono ?_); (case side1 => exact m11_q); (case side2 => exact m9_q); rintro e w82 ⟨rfl, hi, hb, hk⟩; refine ⟨_, rfl, ?_⟩; replace HO_3 := Ae_q (Kd.S_mono (Kd.S_keep (IsS83.apartS (show IsS83 w0 _ g s0_0 t491 from by repeat (with_reducible first | exact HI0.out | apply i2_q | apply i1_q | apply i0_q | apply i3_q)) m26_q (by decide)) hk (fun _ h => h.2)) (fun _ h => h.1)); replace HO494 := Ae_q (rM_q (rK_q (IsS83.apart (show IsS83 w0 _ g s0_0 t491 from by repeat (with_reducible first | exact HI0.out | apply i2_q | apply i1_q | apply i0_q | apply i3_q)) (rup HO494.out) (by decide)) hk (fun _ h => h.2)) (fun _ h => h.1)); replace HK := Ae_q (kT_q m4_q hk (.inl rfl)); replace HB := Ae_q (hb); replace HI0 := Ae_q (hi); (try clear hb); (try clear hb2); (try clear hk); (try clear hi); obtain ⟨Ao83, co83, eo83⟩ := rS_q HO494.out; subst eo83; have p497 : 0 ≤ (t495 : Int) := oD_q (by assumption); have q497 : t495 < (y492.length : Int) := oD_q (by assumption); obtain ⟨ad497, e497, hx497_0⟩ := aI_q (rR_q HO494.out).2.2 t495 p497 q497; cases e497; replace p497 := eq_true p497; replace q497 := eq_true q497; have p77 : 0 ≤ (t490 : Int) := oD_q (by assumption); have q77 : (t490 : Int) < ((x3_2.length : Int) : Int) := oD_q (by assumption); obtain ⟨go77, co77, eo77, gb77, gl77, cl77, HG77⟩ := Kd.S_form HO_3.out (by omega); (first | cases eo77 | (injection eo77 with ea_ en_ ec_; (first | subst ea_ | (injection ea_ with ea_; subst ea_)); subst ec_; clear en_)); have GB77 := Ae_q gb77; have GG77 := Ae_q HG77; clear gb77 gl77 HG77; obtain ⟨_, ce77, hcl77, hM77, hcc77, hfr77, _, _⟩ := Kd.S_elem HO_3.out z63 (t490 : Int) p77 q77; obtain ⟨ve77_3, rfl, ge77_3⟩ := k63_openM hM77; have hx77_0 : w82.cell? ⟨go77, (t490 : Int).toNat * 4, none⟩ = some (.int .i64 ((rd_T63 x3_2 t490).f0)) := hcc77 0 _ rfl; have hx77_1 : w82.cell? ⟨go77, (t490 : Int).toNat * 4 + 1, none⟩ = some (.int .i64 ((rd_T63 x3_2 t490).f1)) := hcc77 1 _ rfl; have hx77_2 : w82.cell? ⟨go77, (t490 : Int).toNat * 4 + 2, none⟩ = some (.int .i64 ((rd_T63 x3_2 t490).f2)) := hcc77 2 _ rfl; have hx77_3 : w82.cell? ⟨go77, (t490 : Int).toNat * 4 + 3, none⟩ = some (ve77_3) := hcc77 3 _ rfl; have hf77_0 : w82.frozen? ⟨go77, (t490 : Int).toNat * 4, none⟩ = false := hfr77 0; have hf77_1 : w82.frozen? ⟨go77, (t490 : Int).toNat * 4 + 1, none⟩ = false := hfr77 1; have hf77_2 : w82.frozen? ⟨go77, (t490 : Int).toNat * 4 + 2, none⟩ = false := hfr77 2; have hf77_3 : w82.frozen? ⟨go77, (t490 : Int).toNat * 4 + 3, none⟩ = false := hfr77 3; clear hcl77 hcc77 hfr77 hM77; replace p77 := eq_true p77; replace q77 := eq_true q77; have n_ := Ae_q (Kd.S_mono (ok' := (fun k_ => some k_ ≠ (.slice (some ad497) y492.length co83 : Value).ownBlock)) HO_3.out (fun k_ hk => hk.2)); clear HO_3; have HO_3 := n_; clear n_; have HX84 := Ae_q (show Kd.S k63 63 w82 w.heap.size (fun k_ => ((fun k_ => some k_ ≠ (.slice (some ad497) y492.length co83 : Value).ownBlock)) k_ ∧ ¬ ((fun _ => False)) k_) (.slice (some ⟨go77, 0, none⟩) x3_2.length co77) x3_2 from m145_q); obtain ⟨oki84, ce84, hcl84, hM84, hcc84, hfr84, hoki84, hH84⟩ := Kd.S_elem HX84.out z63 (t490 : Int) (oD_q (by assumption)) (by have h_ : (t490 : Int) < ((x3_2.length : Int) : Int) := oD_q (by assumption); first | exact h_ | (have e_ := (Kd.S_reads' HO_3.out).1; omega) | simpa using h_); obtain ⟨ve84_3, rfl, ge84_3⟩ := k63_openM hM84; have HP84 := Kd.S_seg hH84 (oD_q (by assumption)) (by have h_ : (t490 : Int) < ((x3_2.length : Int) : Int) := oD_q (by assumption); first | exact h_ | (have e_ := (Kd.S_reads' HO_3.out).1; omega) | simpa using h_) (seg := [.int .i64 (rd y492 t495)]) (j := 2) (show 3 ≤ 4 from by decide) (x' := (⟨(rd_T63 x3_2 t490).f0, (rd_T63 x3_2 t490).f1, rd y492 t495, (rd_T63 x3_2 t490).f3⟩ : S63)) (k63_mkM _ _ _ (⟨(rd_T63 x3_2 t490).f0, (rd_T63 x3_2 t490).f1, rd y492 t495, (rd_T63 x3_2 t490).f3⟩ : S63) (rM_q ge84_3 (fun _ h_ => Or.inl h_))) (fun _ hk => hk) (fun k_ hk_ => hk_.elim); have hx84_2 := hcc84 2 _ rfl; (try simp only [show (k63).sz = 4 from rfl, Nat.mul_one, Nat.add_zero] at hx84_2); have hf84_2 := hfr84 2; (try simp only [show (k63).sz = 4 from rfl, Nat.mul_one, Nat.add_zero] at hf84_2); clear hcl84 hcc84 hfr84 hM84 hoki84 hH84) | ((with_reducible refine gate_store (t := 3) (p := 89) rfl ?_); refine store_event (t := 3) (p := 89) (v := ?vo_w85) (w1 := (w82.setCell ⟨go77, (t490 : Int).toNat * 4 + 2, none⟩ (.int .i64 (rd y492 t495)))) ?hg ?ho ?hn ?hr ?_; (case ho => rfl); (case hg => rfl); (case hn => rfl); (case hr => exact m5_q); intro w85 hw; have hg : w82.grownBy w85 (some go77) := (by rw [hw]; exact HP84.2); have hp_ : Kd.S k63 63 w85 w.heap.size (fun k_ => some k_ ≠ (.slice (some ad497) y492.length co83 : Value).ownBlock) (.slice (some ⟨go77, 0, none⟩) x3_2.length co77) y498 := (by rw [hw, Ny498.out]; exact HP84.1); clear HP84; replace HI0 := Ae_q (IsS83.grown m11_q hg (IsS83.own_neS HI0.out HO_3.out (by decide))); replace HO494 := Ae_q (Kd.R_over' (v := (.slice (some ⟨go77, 0, none⟩) x3_2.length co77)) (rup HO494.out) (Kd.S_typed HO_3.out) (by decide) hg); replace HB := Ae_q ((by rw [hw]; exact bS_q (HB.out) (nT_q HL.out GB77.out) : Below w0.heap.size w0 w85)); replace HK := Ae_q (kT_q m4_q (KeepBut.of_grown hg g) (Kd.S_base2 HO_3.out)); replace HO_3 := Ae_q (hp_); clear hg hw hp_))
     go_ret
     exact ⟨_, m6_q, m151_q, m11_q, m9_q, m4_q⟩

end Go.Proofs.Ytfnpiacmlahegaa.PRp
