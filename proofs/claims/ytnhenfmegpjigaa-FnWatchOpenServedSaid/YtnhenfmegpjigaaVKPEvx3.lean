import Derived.Test.YtnhenfmegpjigaaVKPEvx0
import Derived.Test.YtnhenfmegpjigaaVKPEvx1
import Derived.Test.YtnhenfmegpjigaaVKPEvx2
namespace Go.Proofs.Ytnhenfmegpjigaa.PEv
open Go.RowKit Go.Proofs.YtnhenfmegpjigaaW.PrintWords Go.Proofs.YtnhenfmegpjigaaW.PrintLast Go.Proofs.YtnhenfmegpjigaaW.PrintMore
attribute [local go_sem] max2_int min2_int max_two min_two max_three min_three max_four min_four
set_option linter.unusedVariables false
set_option linter.unusedSimpArgs false

mutual
def spec_l92Events.j0 : Nat → List (S27) → Int → List Int → Int → Option ((List (S27)) × Int)
 | 0, _, _, _, _ => none
 | k + 1, x3, x4, x1000, x1001 => (spec_l6Rd_pick.f k x1000 x1001 200).bind fun bt132 => (spec_l92Events.l0 k x3 x4 bt132.1 0 x1000 bt132.2)
def spec_l92Events.l0 : Nat → List (S27) → Int → Int → Int → List Int → Int → Option ((List (S27)) × Int)
 | 0, _, _, _, _, _, _ => none
 | k + 1, x3, x4, x5, x6, x1000, x1001 => if x6 < x4 then ((spec_l92Event.f k x1000 x1001 x5).bind fun bt134 => (if x3.length < 2932031007402 then ((spec_l6Rd_pick.f k x1000 bt134.2.2.2.2.2.2 40).bind fun bt144 => (spec_l92Events.l0 k (x3 ++ [(⟨bt134.1, bt134.2.1, bt134.2.2.1, bt134.2.2.2.1, bt134.2.2.2.2.1, bt134.2.2.2.2.2.1⟩ : S27)]) x4 (wrap64 (x5 + bt144.1)) (wrap64 (x6 + 1)) x1000 bt144.2)) else (none))) else (if x4 > 0 then ((spec_l6Rd_pick.f k x1000 x1001 x4).bind fun bt146 => ((spec_l6Rd_pick.f k x1000 bt146.2 30).bind fun bt148 => (if bt148.1 = 0 then ((spec_l6Rd_pick.f k x1000 bt148.2 2).bind fun bt150 => (if 0 ≤ bt146.1 then (if bt146.1 < (x3.length : Int) then (some ((x3.set (bt146.1 : Int).toNat (⟨wrap64 (bt150.1 * 4), (rd_T27 x3 bt146.1).f1, (rd_T27 x3 bt146.1).f2, (rd_T27 x3 bt146.1).f3, (rd_T27 x3 bt146.1).f4, (rd_T27 x3 bt146.1).f5⟩ : S27)), bt150.2)) else (none)) else (none))) else (if bt148.1 = 1 then (if 0 ≤ bt146.1 then (if bt146.1 < (x3.length : Int) then ((spec_l6Rd_pick.f k x1000 bt148.2 2).bind fun bt154 => (some ((x3.set (bt146.1 : Int).toNat (⟨(rd_T27 x3 bt146.1).f0, (rd_T27 x3 bt146.1).f1, (rd_T27 x3 bt146.1).f2, wrap64 ((wrap64 (((rd_T27 x3 bt146.1).f3) + 1)) - (wrap64 (2 * bt154.1))), (rd_T27 x3 bt146.1).f4, (rd_T27 x3 bt146.1).f5⟩ : S27)), bt154.2))) else (none)) else (none)) else (if bt148.1 = 2 then ((some (([(-1), 1440] : List Int) : List Int)).bind fun y157 => ((spec_l6Rd_pick.f k x1000 bt148.2 2).bind fun bt160 => (if 0 ≤ bt160.1 then (if bt160.1 < (y157.length : Int) then (if 0 ≤ bt146.1 then (if bt146.1 < (x3.length : Int) then (some ((x3.set (bt146.1 : Int).toNat (⟨(rd_T27 x3 bt146.1).f0, rd y157 bt160.1, (rd_T27 x3 bt146.1).f2, (rd_T27 x3 bt146.1).f3, (rd_T27 x3 bt146.1).f4, (rd_T27 x3 bt146.1).f5⟩ : S27)), bt160.2)) else (none)) else (none)) else (none)) else (none)))) else (some (x3, bt148.2))))))) else (some (x3, x1001)))
end
def spec_l92Events.f (k : Nat) (s0_0 : List Int) (s0_1 : Int) : Option ((List (S27)) × Int) := (some (([] : List (S27)) : List (S27))).bind fun y123 => ((spec_l6Rd_pick.f k s0_0 s0_1 14).bind fun bt126 => ((spec_l6Rd_pick.f k s0_0 bt126.2 20).bind fun bt128 => (if bt128.1 = 0 then ((spec_l6Rd_pick.f k s0_0 bt128.2 2).bind fun bt130 => (spec_l92Events.j0 k y123 (wrap64 (24 + bt130.1)) s0_0 bt130.2)) else (spec_l92Events.j0 k y123 bt126.1 s0_0 bt128.2))))
def spec_l92Events.T17 : Bool × List (List Nat × List Nat) := (true, [([], []), ([], []), ([], []), ([], []), ([2, 3], [2, 3]), ([4], [4]), ([5], [5]), ([6], [6]), ([], []), ([8], [8]), ([9], [9]), ([7, 10], [7, 10]), ([0, 1, 0, 1, 2, 3, 4, 5, 6, 7, 8, 9, 10, 11], [0, 1]), ([12, 0, 1, 2, 3, 4, 5, 6, 7, 8, 9, 10, 11], [12]), ([13, 11, 9, 0, 1, 2, 3, 4, 5, 6, 7, 8, 9, 10, 11], [11, 13])])
def spec_l92Events.B17 : List Nat := [0, 0, 0, 0, 12, 28, 60, 124, 0, 256, 768, 2044, 4095, 8191, 16383]
theorem spec_l92Events.tab17 : rtab .any (opsOf Try.f42 17) = spec_l92Events.T17 := by kernel_rfl
theorem spec_l92Events.bits17 : waitsOk spec_l92Events.T17.2 spec_l92Events.B17 = true := by kernel_rfl
set_option maxHeartbeats 8000000 in
set_option maxRecDepth 100000 in
theorem spec_l92Events.calls (k : Nat) (g : Nat) (s0_0 : List Int) (s0_1 : Int) (r1 : List (S27)) (r2 : Int) (w0 w : World) (hI : IsS81 w0 w g s0_0 s0_1) (hB : Below w0.heap.size w0 w) (h : spec_l92Events.f k s0_0 s0_1 = some (r1, r2)) :
    Calls Try.prog 42 #[.pointer (some ⟨g, 0, none⟩)] w fun e w' => ∃ v0_ : Value, e = .returned (v0_) ∧ Kd.R k27 27 w' w.heap.size (fun _ => True) v0_ r1 ∧ IsS81 w0 w' g s0_0 r2 ∧ Below w0.heap.size w0 w' ∧ KeepBut w w' g none := by
 have HI0 := Ae_q hI
 have HK := Ae_q (KeepBut.refl w g none)
 have HL := Ae_q hB.size
 clear hI
 have HW0 := Ae_q hB.size
 have HB := Ae_q hB
 clear hB
 have H : ((some (([] : List (S27)) : List (S27))).bind fun y123 => ((spec_l6Rd_pick.f k s0_0 s0_1 14).bind fun bt126 => ((spec_l6Rd_pick.f k s0_0 bt126.2 20).bind fun bt128 => (if bt128.1 = 0 then ((spec_l6Rd_pick.f k s0_0 bt128.2 2).bind fun bt130 => (spec_l92Events.j0 k y123 (wrap64 (24 + bt130.1)) s0_0 bt130.2)) else (spec_l92Events.j0 k y123 bt126.1 s0_0 bt128.2))))) = some (r1, r2) := h
 clear h
 obtain ⟨y123, hy123⟩ : ∃ y_ : List (S27), y_ = (([] : List (S27))) := ⟨_, rfl⟩
 replace H : ((spec_l6Rd_pick.f k s0_0 s0_1 14).bind fun bt126 => ((spec_l6Rd_pick.f k s0_0 bt126.2 20).bind fun bt128 => (if bt128.1 = 0 then ((spec_l6Rd_pick.f k s0_0 bt128.2 2).bind fun bt130 => (spec_l92Events.j0 k y123 (wrap64 (24 + bt130.1)) s0_0 bt130.2)) else (spec_l92Events.j0 k y123 bt126.1 s0_0 bt128.2)))) = some (r1, r2) := by first | (rw [hy123]; with_reducible exact H) | (have H2_ := (oS_q _ _).symm.trans H; rw [hy123]; with_reducible exact H2_) | (have H2_ := (oS_q _ _).symm.trans H; with_reducible exact H2_) | with_reducible exact H | (rw [hy123]; exact H) | exact H
 have Ny123 := Ae_q hy123
 clear hy123
 replace H := oB_q.mp H
 obtain ⟨⟨t126, t127⟩, A20, H⟩ := H
 replace H : ((spec_l6Rd_pick.f k s0_0 t127 20).bind fun bt128 => (if bt128.1 = 0 then ((spec_l6Rd_pick.f k s0_0 bt128.2 2).bind fun bt130 => (spec_l92Events.j0 k y123 (wrap64 (24 + bt130.1)) s0_0 bt130.2)) else (spec_l92Events.j0 k y123 t126 s0_0 bt128.2))) = some (r1, r2) := H
 have A2 := Ae_q A20
 clear A20
 replace H := oB_q.mp H
 obtain ⟨⟨t128, t129⟩, A30, H⟩ := H
 replace H : (if t128 = 0 then ((spec_l6Rd_pick.f k s0_0 t129 2).bind fun bt130 => (spec_l92Events.j0 k y123 (wrap64 (24 + bt130.1)) s0_0 bt130.2)) else (spec_l92Events.j0 k y123 t126 s0_0 t129)) = some (r1, r2) := H
 have A3 := Ae_q A30
 clear A30
 have HC4 := Ae_q H
 clear H
 go_enter Try.func42, Try.ntmps42
 go_upto_if 13 with (first | ((with_reducible refine gD_q (N := 8) rfl ?_); refine Kd.R_lit k27 _ 27 ?hg (N := 8) ?hd (xs := ([] : List (S27))) (inner := []) (ok := fun _ => True) (okp := fun _ => True) ?hr ?hp (fun _ hk => hk) trivial (bR_q _ _) (nR_q _) (by simp) ?_; (case hd => rfl); (case hg => rfl); (case hr => first | (go_simp; done) | (go_simp; rfl)); (case hp => exact (Reps.none _ _)); intro v124 w5 ho6 hb hg_ hnew_; clear hg_ hnew_; (first | rw [← Ny123.out] at ho6 | (simp only [Int.reduceToNat] at ho6; rw [← Ny123.out] at ho6)); have n0_ := Ae_q (rL_q ho6 (keep_size (w := w) (g := g) (row := none) (by repeat (with_reducible first | exact HK.out | apply kS_q | apply kN_q | apply kD_q | apply kA_q)))); have n1_ := Ae_q (IsS81.below (by repeat (with_reducible first | exact HI0.out | apply i2_q | apply i1_q | apply i0_q | apply i3_q)) hb); have n2_ := Ae_q (kT_q (by repeat (with_reducible first | exact HK.out | apply kS_q | apply kN_q | apply kD_q | apply kA_q)) (kO_q hb g none) (.inl rfl)); have n3_ := Ae_q (bT_q (by repeat (with_reducible first | exact HB.out | apply bA_q | apply pB_q | apply bD_q | refine bS_q ?_ (i5_q HI0.out))) hb); clear HI0; clear HK; clear HB; have HO125 := n0_; have HI0 := n1_; have HK := n2_; have HB := n3_; clear n0_ n1_ n2_ n3_; clear hb ho6) | ((with_reducible refine gC_q (f := 49) rfl ?_); refine gL_q (some 10) rfl rfl Try.func49 (by kernel_rfl) rfl #[.pointer (some ⟨g, 0, none⟩), .int .i64 14] rfl (by (try simp only [lM_q, lC_q, lN_q]); first | done | rfl | (simp only [lD_q, lT_q]; rfl)) ?_; (with_reducible refine (spec_l6Rd_pick.calls k g s0_0 s0_1 14 t126 t127 w0 _ ?side1 ?side2 A2.out).mono ?_); (case side1 => repeat (with_reducible first | exact HI0.out | apply i2_q | apply i1_q | apply i0_q | apply i3_q)); (case side2 => repeat (with_reducible first | exact HB.out | apply bA_q | apply pB_q | apply bD_q | refine bS_q ?_ (i5_q HI0.out))); rintro e w7 ⟨rfl, hi, hb, hk⟩; refine ⟨_, rfl, ?_⟩; have n0_ := Ae_q (rM_q (rK_q (i6_q (show IsS81 w0 _ g s0_0 s0_1 from by repeat (with_reducible first | exact HI0.out | apply i2_q | apply i1_q | apply i0_q | apply i3_q)) (rup HO125.out) (by decide)) hk (fun _ h => h.2)) (fun _ h => h.1)); have n1_ := Ae_q (kT_q (by repeat (with_reducible first | exact HK.out | apply kS_q | apply kN_q | apply kD_q | apply kA_q)) hk (.inl rfl)); have n2_ := Ae_q (hb); have n3_ := Ae_q (hi); clear HO125; clear HK; clear HB; clear HI0; have HO125 := n0_; have HK := n1_; have HB := n2_; have HI0 := n3_; clear n0_ n1_ n2_ n3_; (try clear hb); (try clear hb2); (try clear hk); (try clear hi)) | ((with_reducible refine gC_q (f := 49) rfl ?_); refine gL_q (some 12) rfl rfl Try.func49 (by kernel_rfl) rfl #[.pointer (some ⟨g, 0, none⟩), .int .i64 20] rfl (by (try simp only [lM_q, lC_q, lN_q]); first | done | rfl | (simp only [lD_q, lT_q]; rfl)) ?_; (with_reducible refine (spec_l6Rd_pick.calls k g s0_0 t127 20 t128 t129 w0 _ ?side1 ?side2 A3.out).mono ?_); (case side1 => repeat (with_reducible first | exact HI0.out | apply i2_q | apply i1_q | apply i0_q | apply i3_q)); (case side2 => repeat (with_reducible first | exact HB.out | apply bA_q | apply pB_q | apply bD_q | refine bS_q ?_ (i5_q HI0.out))); rintro e w8 ⟨rfl, hi, hb, hk⟩; refine ⟨_, rfl, ?_⟩; have n0_ := Ae_q (rM_q (rK_q (i6_q (show IsS81 w0 _ g s0_0 t127 from by repeat (with_reducible first | exact HI0.out | apply i2_q | apply i1_q | apply i0_q | apply i3_q)) (rup HO125.out) (by decide)) hk (fun _ h => h.2)) (fun _ h => h.1)); have n1_ := Ae_q (kT_q (by repeat (with_reducible first | exact HK.out | apply kS_q | apply kN_q | apply kD_q | apply kA_q)) hk (.inl rfl)); have n2_ := Ae_q (hb); have n3_ := Ae_q (hi); clear HO125; clear HK; clear HB; clear HI0; have HO125 := n0_; have HK := n1_; have HB := n2_; have HI0 := n3_; clear n0_ n1_ n2_ n3_; (try clear hb); (try clear hb2); (try clear hk); (try clear hi)))
 (try simp only [Act.put, sA_q, sZ_q, sS_q])
 go_cut [4] (fun v4 wc => ∃ (kq : Nat) (x4_3 : Int) (x1001_3 : Int), v4 = .int .i64 x4_3 ∧ Aside0 (spec_l92Events.j0 kq y123 x4_3 s0_0 x1001_3 = some (r1, r2)) ∧ Aside0 (kq ≤ k) ∧ Aside0 (Kd.R k27 27 wc w.heap.size (fun _ => True) v124 y123) ∧ Aside0 (IsS81 w0 wc g s0_0 x1001_3) ∧ Aside0 (KeepBut w wc g none) ∧ Aside0 (Below w0.heap.size w0 wc))
 case first =>
  have H := HC4.out
  clear HC4
  by_cases c9 : t128 = 0
  rotate_left
  ·rw [if_neg c9] at H
   have c9b0 : (t128 == 0) = false := fN_q.mpr c9
   have c9b1 : (t128 != 0) = true := nI_q.mpr c9
   (first | rw [c9b0] | (simp only [i64_w, i32_w]; rw [c9b0]) | skip)
   have H' := Ae_q H
   clear H
   go_wp2
   go_meet
   case rel => exact ⟨_, (t126), (t129), (by first | rfl | (simp; done) | (simp [*]; done)), H', ⟨by first | omega | exact nR_q _⟩, ⟨rup HO125.out⟩, ⟨by repeat (with_reducible first | exact HI0.out | apply i2_q | apply i1_q | apply i0_q | apply i3_q)⟩, ⟨by repeat (with_reducible first | exact HK.out | apply kS_q | apply kN_q | apply kD_q | apply kA_q)⟩, ⟨by repeat (with_reducible first | exact HB.out | apply bA_q | apply pB_q | apply bD_q | refine bS_q ?_ (i5_q HI0.out))⟩⟩
  rw [if_pos c9] at H
  have c9b0 : (t128 == 0) = true := beq_iff_eq.mpr c9
  have c9b1 : (t128 != 0) = false := nE_q.mpr c9
  clear c9
  (first | rw [c9b0] | (simp only [i64_w, i32_w]; rw [c9b0]) | skip)
  replace H := oB_q.mp H
  obtain ⟨⟨t130, t131⟩, A100, H⟩ := H
  replace H : (spec_l92Events.j0 k y123 (wrap64 (24 + t130)) s0_0 t131) = some (r1, r2) := H
  have A10 := Ae_q A100
  clear A100
  have H' := Ae_q H
  clear H
  go_wp2_with (first | ((with_reducible refine gC_q (f := 49) rfl ?_); refine gL_q (some 15) rfl rfl Try.func49 (by kernel_rfl) rfl #[.pointer (some ⟨g, 0, none⟩), .int .i64 2] rfl (by (try simp only [lM_q, lC_q, lN_q]); first | done | rfl | (simp only [lD_q, lT_q]; rfl)) ?_; (with_reducible refine (spec_l6Rd_pick.calls k g s0_0 t129 2 t130 t131 w0 _ ?side1 ?side2 A10.out).mono ?_); (case side1 => repeat (with_reducible first | exact HI0.out | apply i2_q | apply i1_q | apply i0_q | apply i3_q)); (case side2 => repeat (with_reducible first | exact HB.out | apply bA_q | apply pB_q | apply bD_q | refine bS_q ?_ (i5_q HI0.out))); rintro e w11 ⟨rfl, hi, hb, hk⟩; refine ⟨_, rfl, ?_⟩; have n0_ := Ae_q (rM_q (rK_q (i6_q (show IsS81 w0 _ g s0_0 t129 from by repeat (with_reducible first | exact HI0.out | apply i2_q | apply i1_q | apply i0_q | apply i3_q)) (rup HO125.out) (by decide)) hk (fun _ h => h.2)) (fun _ h => h.1)); have n1_ := Ae_q (kT_q (by repeat (with_reducible first | exact HK.out | apply kS_q | apply kN_q | apply kD_q | apply kA_q)) hk (.inl rfl)); have n2_ := Ae_q (hb); have n3_ := Ae_q (hi); clear HO125; clear HK; clear HB; clear HI0; have HO125 := n0_; have HK := n1_; have HB := n2_; have HI0 := n3_; clear n0_ n1_ n2_ n3_; (try clear hb); (try clear hb2); (try clear hk); (try clear hi)))
  go_meet
  case rel => exact ⟨_, (wrap64 (24 + t130)), (t131), (by first | rfl | (simp; done) | (simp [*]; done)), H', ⟨by first | omega | exact nR_q _⟩, ⟨rup HO125.out⟩, ⟨by repeat (with_reducible first | exact HI0.out | apply i2_q | apply i1_q | apply i0_q | apply i3_q)⟩, ⟨by repeat (with_reducible first | exact HK.out | apply kS_q | apply kN_q | apply kD_q | apply kA_q)⟩, ⟨by repeat (with_reducible first | exact HB.out | apply bA_q | apply pB_q | apply bD_q | refine bS_q ?_ (i5_q HI0.out))⟩⟩
 case rest =>
  clear HC4
  try clear p2
  try clear c4
  try clear p6
  try clear c9
  try clear c9b0
  try clear c9b1
  obtain ⟨kq, x4_3, x1001_3, rfl, HA, HJ3, HO_3, HI0, HK, HB⟩ := hcut
  cases kq with
  | zero => exact absurd HA.out (by simp [spec_l92Events.j0])
  | succ kj3 =>
   have H := HA.out
   clear HA
   simp only [spec_l92Events.j0] at H
   replace H := oB_q.mp H
   obtain ⟨⟨t132, t133⟩, A120, H⟩ := H
   replace H : (spec_l92Events.l0 kj3 y123 x4_3 t132 0 s0_0 t133) = some (r1, r2) := H
   have A12 := Ae_q A120
   clear A120
   have H' := Ae_q H
   clear H
   go_wp2_with (first | ((with_reducible refine gC_q (f := 49) rfl ?_); refine gL_q (some 18) rfl rfl Try.func49 (by kernel_rfl) rfl #[.pointer (some ⟨g, 0, none⟩), .int .i64 200] rfl (by (try simp only [lM_q, lC_q, lN_q]); first | done | rfl | (simp only [lD_q, lT_q]; rfl)) ?_; (with_reducible refine (spec_l6Rd_pick.calls kj3 g s0_0 x1001_3 200 t132 t133 w0 _ ?side1 ?side2 A12.out).mono ?_); (case side1 => repeat (with_reducible first | exact HI0.out | apply i2_q | apply i1_q | apply i0_q | apply i3_q)); (case side2 => repeat (with_reducible first | exact HB.out | apply bA_q | apply pB_q | apply bD_q | refine bS_q ?_ (i5_q HI0.out))); rintro e w13 ⟨rfl, hi, hb, hk⟩; refine ⟨_, rfl, ?_⟩; have n0_ := Ae_q (rM_q (rK_q (i6_q (show IsS81 w0 _ g s0_0 x1001_3 from by repeat (with_reducible first | exact HI0.out | apply i2_q | apply i1_q | apply i0_q | apply i3_q)) (rup HO_3.out) (by decide)) hk (fun _ h => h.2)) (fun _ h => h.1)); have n1_ := Ae_q (kT_q (by repeat (with_reducible first | exact HK.out | apply kS_q | apply kN_q | apply kD_q | apply kA_q)) hk (.inl rfl)); have n2_ := Ae_q (hb); have n3_ := Ae_q (hi); clear HO_3; clear HK; clear HB; clear HI0; have HO_3 := n0_; have HK := n1_; have HB := n2_; have HI0 := n3_; clear n0_ n1_ n2_ n3_; (try clear hb); (try clear hb2); (try clear hk); (try clear hi)))
   go_loopg [3, 5, 6] kj3 (fun kq v3 v5 v6 w' => ∃ (x3_2 : List (S27)) (x5_2 : Int) (x6_2 : Int) (x1001_2 : Int), v5 = .int .i64 x5_2 ∧ v6 = .int .i64 x6_2 ∧ Aside0 (spec_l92Events.l0 kq x3_2 x4_3 x5_2 x6_2 s0_0 x1001_2 = some (r1, r2)) ∧ Aside0 (kq ≤ kj3) ∧ Aside0 (Kd.R k27 27 w' w.heap.size (fun _ => True) v3 x3_2) ∧ Aside0 (IsS81 w0 w' g s0_0 x1001_2) ∧ Aside0 (KeepBut w w' g none) ∧ Aside0 (Below w0.heap.size w0 w'))
   case atStart => exact ⟨(y123), (t132), (0), (t133), (by first | rfl | (simp; done) | (simp [*]; done)), (by first | rfl | (simp; done) | (simp [*]; done)), H', ⟨nR_q _⟩, ⟨rup HO_3.out⟩, ⟨by repeat (with_reducible first | exact HI0.out | apply i2_q | apply i1_q | apply i0_q | apply i3_q)⟩, ⟨by repeat (with_reducible first | exact HK.out | apply kS_q | apply kN_q | apply kD_q | apply kA_q)⟩, ⟨by repeat (with_reducible first | exact HB.out | apply bA_q | apply pB_q | apply bD_q | refine bS_q ?_ (i5_q HI0.out))⟩⟩
   case round =>
    clear H'
    try clear p2
    try clear c4
    try clear p6
    try clear c9
    try clear c9b0
    try clear c9b1
    try clear p2
    try clear p6
    obtain ⟨x3_2, x5_2, x6_2, x1001_2, rfl, rfl, HA, HK2, HO_3, HI0, HK, HB⟩ := hrel
    cases gk with
    | zero => exact absurd HA.out (by simp [spec_l92Events.l0])
    | succ k2 =>
     have H := HA.out
     clear HA
     simp only [spec_l92Events.l0] at H
     by_cases c14 : x6_2 < x4_3
     ·rw [if_pos c14] at H
      have c14b0 : decide (x6_2 < x4_3) = true := dT_q c14
      clear c14
      replace H := oB_q.mp H
      obtain ⟨⟨t134, t135, t136, t137, t138, t139, t140⟩, A150, H⟩ := H
      replace H : (if x3_2.length < 2932031007402 then ((spec_l6Rd_pick.f k2 s0_0 t140 40).bind fun bt144 => (spec_l92Events.l0 k2 (x3_2 ++ [(⟨t134, t135, t136, t137, t138, t139⟩ : S27)]) x4_3 (wrap64 (x5_2 + bt144.1)) (wrap64 (x6_2 + 1)) s0_0 bt144.2)) else (none)) = some (r1, r2) := H
      have A15 := Ae_q A150
      clear A150
      by_cases c16 : x3_2.length < 2932031007402
      rotate_left
      ·rw [if_neg c16] at H
       exact absurd H (by simp)
      rw [if_pos c16] at H
      have LMc16 := Ae_q c16
      clear c16
      obtain ⟨y141, hy141⟩ : ∃ y_ : List (S27), y_ = (x3_2 ++ [(⟨t134, t135, t136, t137, t138, t139⟩ : S27)]) := ⟨_, rfl⟩
      replace H : ((spec_l6Rd_pick.f k2 s0_0 t140 40).bind fun bt144 => (spec_l92Events.l0 k2 y141 x4_3 (wrap64 (x5_2 + bt144.1)) (wrap64 (x6_2 + 1)) s0_0 bt144.2)) = some (r1, r2) := by first | (rw [hy141]; with_reducible exact H) | (have H2_ := (oS_q _ _).symm.trans H; rw [hy141]; with_reducible exact H2_) | (have H2_ := (oS_q _ _).symm.trans H; with_reducible exact H2_) | with_reducible exact H | (rw [hy141]; exact H) | exact H
      have Ny141 := Ae_q hy141
      clear hy141
      replace H := oB_q.mp H
      obtain ⟨⟨t144, t145⟩, A170, H⟩ := H
      replace H : (spec_l92Events.l0 k2 y141 x4_3 (wrap64 (x5_2 + t144)) (wrap64 (x6_2 + 1)) s0_0 t145) = some (r1, r2) := H
      have A17 := Ae_q A170
      clear A170
      have H' := Ae_q H
      clear H
      go_wp2_with (first | ((with_reducible refine gC_q (f := 63) rfl ?_); refine gL_q (some 27) rfl rfl Try.func63 (by kernel_rfl) rfl #[.pointer (some ⟨g, 0, none⟩), .int .i64 x5_2] rfl (by (try simp only [lM_q, lC_q, lN_q]); first | done | rfl | (simp only [lD_q, lT_q]; rfl)) ?_; (with_reducible refine (spec_l92Event.calls k2 g s0_0 x1001_2 x5_2 t134 t135 t136 t137 t138 t139 t140 w0 _ ?side1 ?side2 A15.out).mono ?_); (case side1 => repeat (with_reducible first | exact HI0.out | apply i2_q | apply i1_q | apply i0_q | apply i3_q)); (case side2 => repeat (with_reducible first | exact HB.out | apply bA_q | apply pB_q | apply bD_q | refine bS_q ?_ (i5_q HI0.out))); rintro e w18 ⟨rfl, hi, hb, hk⟩; refine ⟨_, rfl, ?_⟩; have n0_ := Ae_q (rM_q (rK_q (i6_q (show IsS81 w0 _ g s0_0 x1001_2 from by repeat (with_reducible first | exact HI0.out | apply i2_q | apply i1_q | apply i0_q | apply i3_q)) (rup HO_3.out) (by decide)) hk (fun _ h => h.2)) (fun _ h => h.1)); have n1_ := Ae_q (kT_q (by repeat (with_reducible first | exact HK.out | apply kS_q | apply kN_q | apply kD_q | apply kA_q)) hk (.inl rfl)); have n2_ := Ae_q (hb); have n3_ := Ae_q (hi); clear HO_3; clear HK; clear HB; clear HI0; have HO_3 := n0_; have HK := n1_; have HB := n2_; have HI0 := n3_; clear n0_ n1_ n2_ n3_; (try clear hb); (try clear hb2); (try clear hk); (try clear hi)) | ((with_reducible refine gate_builtin (b := .append) (xs := #[.tmp 24, .tmp 28]) rfl ?_); at_builtin; refine Kd.R_append k27 w.heap.size rfl (.tmp 24) (.tmp 28) 23 27 (.agg #[(.int .i64 0), (.int .i64 0), (.int .i64 0), (.int .i64 0), (.int .i64 0), (.int .i64 0)]) 48 rfl Try.underlying23 info27 rfl (by decide) (by omega) u3 x3_2 (⟨t134, t135, t136, t137, t138, t139⟩ : S27) [.int .i64 t134, .int .i64 t135, .int .i64 t136, .int .i64 t137, .int .i64 t138, .int .i64 t139] (fun _ => True) (fun _ => False) rfl rfl ?aP (fun _ hk => hk.elim) ?aF ?aO (bR_q _ _) ?aS ?aL ?_; (case aP => exact k27_mkM _ _ _ (⟨t134, t135, t136, t137, t138, t139⟩ : S27)); (case aF => exact (fun _ _ => trivial)); (case aO => exact (rup HO_3.out)); (case aS => exact (keep_size (w := w) (g := g) (row := none) (by repeat (with_reducible first | exact HK.out | apply kS_q | apply kN_q | apply kD_q | apply kA_q)))); (case aL => have := LMc16.out; omega); intro v142 w19 ho hb hg hat; rw [← Ny141.out] at ho; have n0_ := Ae_q (IsS81.grown (by repeat (with_reducible first | exact HI0.out | apply i2_q | apply i1_q | apply i0_q | apply i3_q)) hg (IsS81.own_ne HI0.out HO_3.out (by decide))); have n1_ := Ae_q (below_weaken (by repeat (with_reducible first | exact HB.out | apply bA_q | apply pB_q | apply bD_q | refine bS_q ?_ (i5_q HI0.out))) HL.out hb); have n2_ := Ae_q (kT_q (by repeat (with_reducible first | exact HK.out | apply kS_q | apply kN_q | apply kD_q | apply kA_q)) (KeepBut.of_grown hg g) (Kd.R_base2 HO_3.out)); have n3_ := Ae_q (ho); clear HI0; clear HB; clear HK; clear HO_3; have HI0 := n0_; have HB := n1_; have HK := n2_; have HO143 := n3_; clear n0_ n1_ n2_ n3_; clear ho hb hg hat) | ((with_reducible refine gC_q (f := 49) rfl ?_); refine gL_q (some 32) rfl rfl Try.func49 (by kernel_rfl) rfl #[.pointer (some ⟨g, 0, none⟩), .int .i64 40] rfl (by (try simp only [lM_q, lC_q, lN_q]); first | done | rfl | (simp only [lD_q, lT_q]; rfl)) ?_; (with_reducible refine (spec_l6Rd_pick.calls k2 g s0_0 t140 40 t144 t145 w0 _ ?side1 ?side2 A17.out).mono ?_); (case side1 => repeat (with_reducible first | exact HI0.out | apply i2_q | apply i1_q | apply i0_q | apply i3_q)); (case side2 => repeat (with_reducible first | exact HB.out | apply bA_q | apply pB_q | apply bD_q | refine bS_q ?_ (i5_q HI0.out))); rintro e w20 ⟨rfl, hi, hb, hk⟩; refine ⟨_, rfl, ?_⟩; have n0_ := Ae_q (rM_q (rK_q (i6_q (show IsS81 w0 _ g s0_0 t140 from by repeat (with_reducible first | exact HI0.out | apply i2_q | apply i1_q | apply i0_q | apply i3_q)) (rup HO143.out) (by decide)) hk (fun _ h => h.2)) (fun _ h => h.1)); have n1_ := Ae_q (kT_q (by repeat (with_reducible first | exact HK.out | apply kS_q | apply kN_q | apply kD_q | apply kA_q)) hk (.inl rfl)); have n2_ := Ae_q (hb); have n3_ := Ae_q (hi); clear HO143; clear HK; clear HB; clear HI0; have HO143 := n0_; have HK := n1_; have HB := n2_; have HI0 := n3_; clear n0_ n1_ n2_ n3_; (try clear hb); (try clear hb2); (try clear hk); (try clear hi)))
      go_roundg k2
      case measure => have := HJ3.out; have := HK2.out; omega
      case rel => exact ⟨(y141), (wrap64 (x5_2 + t144)), (wrap64 (x6_2 + 1)), (t145), (by first | rfl | (simp; done) | (simp [*]; done)), (by first | rfl | (simp; done) | (simp [*]; done)), H', ⟨by have := HJ3.out; have := HK2.out; omega⟩, ⟨rup HO143.out⟩, ⟨by repeat (with_reducible first | exact HI0.out | apply i2_q | apply i1_q | apply i0_q | apply i3_q)⟩, ⟨by repeat (with_reducible first | exact HK.out | apply kS_q | apply kN_q | apply kD_q | apply kA_q)⟩, ⟨by repeat (with_reducible first | exact HB.out | apply bA_q | apply pB_q | apply bD_q | refine bS_q ?_ (i5_q HI0.out))⟩⟩
     rw [if_neg c14] at H
     have c14b0 : decide (x6_2 < x4_3) = false := dF_q c14
     clear c14
     by_cases c21 : x4_3 > 0
     rotate_left
     ·rw [if_neg c21] at H
      have c21b0 : decide (0 < x4_3) = false := dF_q c21
      clear c21
      simp only [oE_q, pE_q] at H
      obtain ⟨rfl, rfl⟩ := H
      go_wp2
      go_ret
      exact ⟨_, by first | rfl | (simp [eN_q, eS_q] <;> rfl) | (simp [*, eN_q, eS_q] <;> rfl), rup HO_3.out, by repeat (with_reducible first | exact HI0.out | apply i2_q | apply i1_q | apply i0_q | apply i3_q), by repeat (with_reducible first | exact HB.out | apply bA_q | apply pB_q | apply bD_q | refine bS_q ?_ (i5_q HI0.out)), by repeat (with_reducible first | exact HK.out | apply kS_q | apply kN_q | apply kD_q | apply kA_q)⟩
     rw [if_pos c21] at H
     have c21b0 : decide (0 < x4_3) = true := dT_q c21
     clear c21
     replace H := oB_q.mp H
     obtain ⟨⟨t146, t147⟩, A220, H⟩ := H
     replace H : ((spec_l6Rd_pick.f k2 s0_0 t147 30).bind fun bt148 => (if bt148.1 = 0 then ((spec_l6Rd_pick.f k2 s0_0 bt148.2 2).bind fun bt150 => (if 0 ≤ t146 then (if t146 < (x3_2.length : Int) then (some ((x3_2.set (t146 : Int).toNat (⟨wrap64 (bt150.1 * 4), (rd_T27 x3_2 t146).f1, (rd_T27 x3_2 t146).f2, (rd_T27 x3_2 t146).f3, (rd_T27 x3_2 t146).f4, (rd_T27 x3_2 t146).f5⟩ : S27)), bt150.2)) else (none)) else (none))) else (if bt148.1 = 1 then (if 0 ≤ t146 then (if t146 < (x3_2.length : Int) then ((spec_l6Rd_pick.f k2 s0_0 bt148.2 2).bind fun bt154 => (some ((x3_2.set (t146 : Int).toNat (⟨(rd_T27 x3_2 t146).f0, (rd_T27 x3_2 t146).f1, (rd_T27 x3_2 t146).f2, wrap64 ((wrap64 (((rd_T27 x3_2 t146).f3) + 1)) - (wrap64 (2 * bt154.1))), (rd_T27 x3_2 t146).f4, (rd_T27 x3_2 t146).f5⟩ : S27)), bt154.2))) else (none)) else (none)) else (if bt148.1 = 2 then ((some (([(-1), 1440] : List Int) : List Int)).bind fun y157 => ((spec_l6Rd_pick.f k2 s0_0 bt148.2 2).bind fun bt160 => (if 0 ≤ bt160.1 then (if bt160.1 < (y157.length : Int) then (if 0 ≤ t146 then (if t146 < (x3_2.length : Int) then (some ((x3_2.set (t146 : Int).toNat (⟨(rd_T27 x3_2 t146).f0, rd y157 bt160.1, (rd_T27 x3_2 t146).f2, (rd_T27 x3_2 t146).f3, (rd_T27 x3_2 t146).f4, (rd_T27 x3_2 t146).f5⟩ : S27)), bt160.2)) else (none)) else (none)) else (none)) else (none)))) else (some (x3_2, bt148.2)))))) = some (r1, r2) := H
     have A22 := Ae_q A220
     clear A220
     replace H := oB_q.mp H
     obtain ⟨⟨t148, t149⟩, A230, H⟩ := H
     replace H : (if t148 = 0 then ((spec_l6Rd_pick.f k2 s0_0 t149 2).bind fun bt150 => (if 0 ≤ t146 then (if t146 < (x3_2.length : Int) then (some ((x3_2.set (t146 : Int).toNat (⟨wrap64 (bt150.1 * 4), (rd_T27 x3_2 t146).f1, (rd_T27 x3_2 t146).f2, (rd_T27 x3_2 t146).f3, (rd_T27 x3_2 t146).f4, (rd_T27 x3_2 t146).f5⟩ : S27)), bt150.2)) else (none)) else (none))) else (if t148 = 1 then (if 0 ≤ t146 then (if t146 < (x3_2.length : Int) then ((spec_l6Rd_pick.f k2 s0_0 t149 2).bind fun bt154 => (some ((x3_2.set (t146 : Int).toNat (⟨(rd_T27 x3_2 t146).f0, (rd_T27 x3_2 t146).f1, (rd_T27 x3_2 t146).f2, wrap64 ((wrap64 (((rd_T27 x3_2 t146).f3) + 1)) - (wrap64 (2 * bt154.1))), (rd_T27 x3_2 t146).f4, (rd_T27 x3_2 t146).f5⟩ : S27)), bt154.2))) else (none)) else (none)) else (if t148 = 2 then ((some (([(-1), 1440] : List Int) : List Int)).bind fun y157 => ((spec_l6Rd_pick.f k2 s0_0 t149 2).bind fun bt160 => (if 0 ≤ bt160.1 then (if bt160.1 < (y157.length : Int) then (if 0 ≤ t146 then (if t146 < (x3_2.length : Int) then (some ((x3_2.set (t146 : Int).toNat (⟨(rd_T27 x3_2 t146).f0, rd y157 bt160.1, (rd_T27 x3_2 t146).f2, (rd_T27 x3_2 t146).f3, (rd_T27 x3_2 t146).f4, (rd_T27 x3_2 t146).f5⟩ : S27)), bt160.2)) else (none)) else (none)) else (none)) else (none)))) else (some (x3_2, t149))))) = some (r1, r2) := H
     have A23 := Ae_q A230
     clear A230
     by_cases c24 : t148 = 0
     ·rw [if_pos c24] at H
      have c24b0 : (t148 == 0) = true := beq_iff_eq.mpr c24
      have c24b1 : (t148 != 0) = false := nE_q.mpr c24
      clear c24
      replace H := oB_q.mp H
      obtain ⟨⟨t150, t151⟩, A250, H⟩ := H
      replace H : (if 0 ≤ t146 then (if t146 < (x3_2.length : Int) then (some ((x3_2.set (t146 : Int).toNat (⟨wrap64 (t150 * 4), (rd_T27 x3_2 t146).f1, (rd_T27 x3_2 t146).f2, (rd_T27 x3_2 t146).f3, (rd_T27 x3_2 t146).f4, (rd_T27 x3_2 t146).f5⟩ : S27)), t151)) else (none)) else (none)) = some (r1, r2) := H
      have A25 := Ae_q A250
      clear A250
      by_cases c26 : 0 ≤ t146
      rotate_left
      ·rw [if_neg c26] at H
       exact absurd H (by simp)
      rw [if_pos c26] at H
      have c26b0 : decide (0 ≤ t146) = true := dT_q c26
      clear c26
      by_cases c27 : t146 < (x3_2.length : Int)
      rotate_left
      ·rw [if_neg c27] at H
       exact absurd H (by simp)
      rw [if_pos c27] at H
      have c27b0 : decide (t146 < (x3_2.length : Int)) = true := dT_q c27
      clear c27
      obtain ⟨y152, hy152⟩ : ∃ y_ : List (S27), y_ = (x3_2.set (t146 : Int).toNat (⟨wrap64 (t150 * 4), (rd_T27 x3_2 t146).f1, (rd_T27 x3_2 t146).f2, (rd_T27 x3_2 t146).f3, (rd_T27 x3_2 t146).f4, (rd_T27 x3_2 t146).f5⟩ : S27)) := ⟨_, rfl⟩
      replace H : (some (y152, t151)) = some (r1, r2) := by first | (rw [hy152]; with_reducible exact H) | (have H2_ := (oS_q _ _).symm.trans H; rw [hy152]; with_reducible exact H2_) | (have H2_ := (oS_q _ _).symm.trans H; with_reducible exact H2_) | with_reducible exact H | (rw [hy152]; exact H) | exact H
      have Ny152 := Ae_q hy152
      clear hy152
      simp only [oE_q, pE_q] at H
      obtain ⟨rfl, rfl⟩ := H
      go_wp2_with (first | ((with_reducible refine gC_q (f := 49) rfl ?_); refine gL_q (some 38) rfl rfl Try.func49 (by kernel_rfl) rfl #[.pointer (some ⟨g, 0, none⟩), .int .i64 x4_3] rfl (by (try simp only [lM_q, lC_q, lN_q]); first | done | rfl | (simp only [lD_q, lT_q]; rfl)) ?_; (with_reducible refine (spec_l6Rd_pick.calls k2 g s0_0 x1001_2 x4_3 t146 t147 w0 _ ?side1 ?side2 A22.out).mono ?_); (case side1 => repeat (with_reducible first | exact HI0.out | apply i2_q | apply i1_q | apply i0_q | apply i3_q)); (case side2 => repeat (with_reducible first | exact HB.out | apply bA_q | apply pB_q | apply bD_q | refine bS_q ?_ (i5_q HI0.out))); rintro e w29 ⟨rfl, hi, hb, hk⟩; refine ⟨_, rfl, ?_⟩; have n0_ := Ae_q (rM_q (rK_q (i6_q (show IsS81 w0 _ g s0_0 x1001_2 from by repeat (with_reducible first | exact HI0.out | apply i2_q | apply i1_q | apply i0_q | apply i3_q)) (rup HO_3.out) (by decide)) hk (fun _ h => h.2)) (fun _ h => h.1)); have n1_ := Ae_q (kT_q (by repeat (with_reducible first | exact HK.out | apply kS_q | apply kN_q | apply kD_q | apply kA_q)) hk (.inl rfl)); have n2_ := Ae_q (hb); have n3_ := Ae_q (hi); clear HO_3; clear HK; clear HB; clear HI0; have HO_3 := n0_; have HK := n1_; have HB := n2_; have HI0 := n3_; clear n0_ n1_ n2_ n3_; (try clear hb); (try clear hb2); (try clear hk); (try clear hi)) | ((with_reducible refine gC_q (f := 49) rfl ?_); refine gL_q (some 40) rfl rfl Try.func49 (by kernel_rfl) rfl #[.pointer (some ⟨g, 0, none⟩), .int .i64 30] rfl (by (try simp only [lM_q, lC_q, lN_q]); first | done | rfl | (simp only [lD_q, lT_q]; rfl)) ?_; (with_reducible refine (spec_l6Rd_pick.calls k2 g s0_0 t147 30 t148 t149 w0 _ ?side1 ?side2 A23.out).mono ?_); (case side1 => repeat (with_reducible first | exact HI0.out | apply i2_q | apply i1_q | apply i0_q | apply i3_q)); (case side2 => repeat (with_reducible first | exact HB.out | apply bA_q | apply pB_q | apply bD_q | refine bS_q ?_ (i5_q HI0.out))); rintro e w30 ⟨rfl, hi, hb, hk⟩; refine ⟨_, rfl, ?_⟩; have n0_ := Ae_q (rM_q (rK_q (i6_q (show IsS81 w0 _ g s0_0 t147 from by repeat (with_reducible first | exact HI0.out | apply i2_q | apply i1_q | apply i0_q | apply i3_q)) (rup HO_3.out) (by decide)) hk (fun _ h => h.2)) (fun _ h => h.1)); have n1_ := Ae_q (kT_q (by repeat (with_reducible first | exact HK.out | apply kS_q | apply kN_q | apply kD_q | apply kA_q)) hk (.inl rfl)); have n2_ := Ae_q (hb); have n3_ := Ae_q (hi); clear HO_3; clear HK; clear HB; clear HI0; have HO_3 := n0_; have HK := n1_; have HB := n2_; have HI0 := n3_; clear n0_ n1_ n2_ n3_; (try clear hb); (try clear hb2); (try clear hk); (try clear hi)) | ((with_reducible refine gC_q (f := 49) rfl ?_); refine gL_q (some 46) rfl rfl Try.func49 (by kernel_rfl) rfl #[.pointer (some ⟨g, 0, none⟩), .int .i64 2] rfl (by (try simp only [lM_q, lC_q, lN_q]); first | done | rfl | (simp only [lD_q, lT_q]; rfl)) ?_; (with_reducible refine (spec_l6Rd_pick.calls k2 g s0_0 t149 2 t150 t151 w0 _ ?side1 ?side2 A25.out).mono ?_); (case side1 => repeat (with_reducible first | exact HI0.out | apply i2_q | apply i1_q | apply i0_q | apply i3_q)); (case side2 => repeat (with_reducible first | exact HB.out | apply bA_q | apply pB_q | apply bD_q | refine bS_q ?_ (i5_q HI0.out))); rintro e w31 ⟨rfl, hi, hb, hk⟩; refine ⟨_, rfl, ?_⟩; have n0_ := Ae_q (rM_q (rK_q (i6_q (show IsS81 w0 _ g s0_0 t149 from by repeat (with_reducible first | exact HI0.out | apply i2_q | apply i1_q | apply i0_q | apply i3_q)) (rup HO_3.out) (by decide)) hk (fun _ h => h.2)) (fun _ h => h.1)); have n1_ := Ae_q (kT_q (by repeat (with_reducible first | exact HK.out | apply kS_q | apply kN_q | apply kD_q | apply kA_q)) hk (.inl rfl)); have n2_ := Ae_q (hb); have n3_ := Ae_q (hi); clear HO_3; clear HK; clear HB; clear HI0; have HO_3 := n0_; have HK := n1_; have HB := n2_; have HI0 := n3_; clear n0_ n1_ n2_ n3_; (try clear hb); (try clear hb2); (try clear hk); (try clear hi); have p28 : 0 ≤ (t146 : Int) := oD_q (by assumption); have q28 : (t146 : Int) < ((x3_2.length : Int) : Int) := oD_q (by assumption); obtain ⟨go28, co28, eo28, gb28, gl28, cl28, HG28⟩ := Kd.R_form HO_3.out (by omega); (first | cases eo28 | (injection eo28 with ea_ en_ ec_; (first | subst ea_ | (injection ea_ with ea_; subst ea_)); subst ec_; clear en_)); have GB28 := Ae_q gb28; have GG28 := Ae_q HG28; clear gb28 gl28 HG28; obtain ⟨ce28, hcl28, hM28, hcc28, hfr28⟩ := Kd.R_elem HO_3.out z27 (t146 : Int) p28 q28; obtain rfl := k27_openM hM28; have hx28_0 : w31.cell? ⟨go28, (t146 : Int).toNat * 6, none⟩ = some (.int .i64 ((rd_T27 x3_2 t146).f0)) := hcc28 0 _ rfl; have hx28_1 : w31.cell? ⟨go28, (t146 : Int).toNat * 6 + 1, none⟩ = some (.int .i64 ((rd_T27 x3_2 t146).f1)) := hcc28 1 _ rfl; have hx28_2 : w31.cell? ⟨go28, (t146 : Int).toNat * 6 + 2, none⟩ = some (.int .i64 ((rd_T27 x3_2 t146).f2)) := hcc28 2 _ rfl; have hx28_3 : w31.cell? ⟨go28, (t146 : Int).toNat * 6 + 3, none⟩ = some (.int .i64 ((rd_T27 x3_2 t146).f3)) := hcc28 3 _ rfl; have hx28_4 : w31.cell? ⟨go28, (t146 : Int).toNat * 6 + 4, none⟩ = some (.int .i64 ((rd_T27 x3_2 t146).f4)) := hcc28 4 _ rfl; have hx28_5 : w31.cell? ⟨go28, (t146 : Int).toNat * 6 + 5, none⟩ = some (.int .i64 ((rd_T27 x3_2 t146).f5)) := hcc28 5 _ rfl; have hf28_0 : w31.frozen? ⟨go28, (t146 : Int).toNat * 6, none⟩ = false := hfr28 0; have hf28_1 : w31.frozen? ⟨go28, (t146 : Int).toNat * 6 + 1, none⟩ = false := hfr28 1; have hf28_2 : w31.frozen? ⟨go28, (t146 : Int).toNat * 6 + 2, none⟩ = false := hfr28 2; have hf28_3 : w31.frozen? ⟨go28, (t146 : Int).toNat * 6 + 3, none⟩ = false := hfr28 3; have hf28_4 : w31.frozen? ⟨go28, (t146 : Int).toNat * 6 + 4, none⟩ = false := hfr28 4; have hf28_5 : w31.frozen? ⟨go28, (t146 : Int).toNat * 6 + 5, none⟩ = false := hfr28 5; clear hcl28 hcc28 hfr28 hM28; replace p28 := eq_true p28; replace q28 := eq_true q28; have HX32 := Ae_q (show Kd.R k27 27 w31 w.heap.size (fun _ => True) (.slice (some ⟨go28, 0, none⟩) x3_2.length co28) x3_2 from (rup HO_3.out)); obtain ⟨ce32, hcl32, hM32, hcc32, hfr32⟩ := Kd.R_elem HX32.out z27 (t146 : Int) (oD_q (by assumption)) (by have h_ : (t146 : Int) < ((x3_2.length : Int) : Int) := oD_q (by assumption); first | exact h_ | (have e_ := (rR_q HO_3.out).1; omega) | simpa using h_); obtain rfl := k27_openM hM32; have HP32 := Kd.R_seg HX32.out (t146 : Int) (oD_q (by assumption)) (by have h_ : (t146 : Int) < ((x3_2.length : Int) : Int) := oD_q (by assumption); first | exact h_ | (have e_ := (rR_q HO_3.out).1; omega) | simpa using h_) (seg := [.int .i64 (wrap64 (t150 * 4))]) (j := 0) hcl32 hcc32 (show 1 ≤ 6 from by decide) (x' := (⟨wrap64 (t150 * 4), (rd_T27 x3_2 t146).f1, (rd_T27 x3_2 t146).f2, (rd_T27 x3_2 t146).f3, (rd_T27 x3_2 t146).f4, (rd_T27 x3_2 t146).f5⟩ : S27)) (k27_mkM _ _ _ (⟨wrap64 (t150 * 4), (rd_T27 x3_2 t146).f1, (rd_T27 x3_2 t146).f2, (rd_T27 x3_2 t146).f3, (rd_T27 x3_2 t146).f4, (rd_T27 x3_2 t146).f5⟩ : S27) ) (fun _ hk => hk); have hx32_0 := hcc32 0 _ rfl; (try simp only [show (k27).sz = 6 from rfl, Nat.mul_one, Nat.add_zero] at hx32_0); have hf32_0 := hfr32 0; (try simp only [show (k27).sz = 6 from rfl, Nat.mul_one, Nat.add_zero] at hf32_0); clear hcl32 hcc32 hfr32 hM32) | ((with_reducible refine gate_store (t := 3) (p := 49) rfl ?_); refine store_event (t := 3) (p := 49) (v := ?vo_w33) (w1 := (w31.setCell ⟨go28, (t146 : Int).toNat * 6, none⟩ (.int .i64 (wrap64 (t150 * 4))))) ?hg ?ho ?hn ?hr ?_; (case ho => rfl); (case hg => rfl); (case hn => rfl); (case hr => first | (go_simp; done) | (go_simp; rfl)); intro w33 hw; have hg : w31.grownBy w33 (some go28) := (by rw [hw]; exact HP32.2); have hp_ : Kd.R k27 27 w33 w.heap.size (fun _ => True) (.slice (some ⟨go28, 0, none⟩) x3_2.length co28) y152 := (by rw [hw, Ny152.out]; exact HP32.1); clear HP32; have n0_ := Ae_q (hp_); have n1_ := Ae_q (IsS81.grown (by repeat (with_reducible first | exact HI0.out | apply i2_q | apply i1_q | apply i0_q | apply i3_q)) hg (IsS81.own_ne HI0.out HO_3.out (by decide))); have n2_ := Ae_q ((by rw [hw]; exact bS_q (HB.out) (nT_q HL.out GB28.out) : Below w0.heap.size w0 w33)); have n3_ := Ae_q (kT_q (by repeat (with_reducible first | exact HK.out | apply kS_q | apply kN_q | apply kD_q | apply kA_q)) (KeepBut.of_grown hg g) (Kd.R_base2 HO_3.out)); clear HO_3; clear HI0; clear HB; clear HK; have HO_3 := n0_; have HI0 := n1_; have HB := n2_; have HK := n3_; clear n0_ n1_ n2_ n3_; clear hg hw hp_))
      go_ret
      exact ⟨_, by first | rfl | (simp [eN_q, eS_q] <;> rfl) | (simp [*, eN_q, eS_q] <;> rfl), rup HO_3.out, by repeat (with_reducible first | exact HI0.out | apply i2_q | apply i1_q | apply i0_q | apply i3_q), by repeat (with_reducible first | exact HB.out | apply bA_q | apply pB_q | apply bD_q | refine bS_q ?_ (i5_q HI0.out)), by repeat (with_reducible first | exact HK.out | apply kS_q | apply kN_q | apply kD_q | apply kA_q)⟩
     rw [if_neg c24] at H
     have c24b0 : (t148 == 0) = false := fN_q.mpr c24
     have c24b1 : (t148 != 0) = true := nI_q.mpr c24
     by_cases c34 : t148 = 1
     rotate_left
     ·rw [if_neg c34] at H
      have c34b0 : (t148 == 1) = false := fN_q.mpr c34
      have c34b1 : (t148 != 1) = true := nI_q.mpr c34
      by_cases c45 : t148 = 2
      rotate_left
      ·rw [if_neg c45] at H
       have c45b0 : (t148 == 2) = false := fN_q.mpr c45
       have c45b1 : (t148 != 2) = true := nI_q.mpr c45
       simp only [oE_q, pE_q] at H
       obtain ⟨rfl, rfl⟩ := H
       go_wp2_with (first | ((with_reducible refine gC_q (f := 49) rfl ?_); refine gL_q (some 38) rfl rfl Try.func49 (by kernel_rfl) rfl #[.pointer (some ⟨g, 0, none⟩), .int .i64 x4_3] rfl (by (try simp only [lM_q, lC_q, lN_q]); first | done | rfl | (simp only [lD_q, lT_q]; rfl)) ?_; (with_reducible refine (spec_l6Rd_pick.calls k2 g s0_0 x1001_2 x4_3 t146 t147 w0 _ ?side1 ?side2 A22.out).mono ?_); (case side1 => repeat (with_reducible first | exact HI0.out | apply i2_q | apply i1_q | apply i0_q | apply i3_q)); (case side2 => repeat (with_reducible first | exact HB.out | apply bA_q | apply pB_q | apply bD_q | refine bS_q ?_ (i5_q HI0.out))); rintro e w60 ⟨rfl, hi, hb, hk⟩; refine ⟨_, rfl, ?_⟩; have n0_ := Ae_q (rM_q (rK_q (i6_q (show IsS81 w0 _ g s0_0 x1001_2 from by repeat (with_reducible first | exact HI0.out | apply i2_q | apply i1_q | apply i0_q | apply i3_q)) (rup HO_3.out) (by decide)) hk (fun _ h => h.2)) (fun _ h => h.1)); have n1_ := Ae_q (kT_q (by repeat (with_reducible first | exact HK.out | apply kS_q | apply kN_q | apply kD_q | apply kA_q)) hk (.inl rfl)); have n2_ := Ae_q (hb); have n3_ := Ae_q (hi); clear HO_3; clear HK; clear HB; clear HI0; have HO_3 := n0_; have HK := n1_; have HB := n2_; have HI0 := n3_; clear n0_ n1_ n2_ n3_; (try clear hb); (try clear hb2); (try clear hk); (try clear hi)) | ((with_reducible refine gC_q (f := 49) rfl ?_); refine gL_q (some 40) rfl rfl Try.func49 (by kernel_rfl) rfl #[.pointer (some ⟨g, 0, none⟩), .int .i64 30] rfl (by (try simp only [lM_q, lC_q, lN_q]); first | done | rfl | (simp only [lD_q, lT_q]; rfl)) ?_; (with_reducible refine (spec_l6Rd_pick.calls k2 g s0_0 t147 30 t148 t149 w0 _ ?side1 ?side2 A23.out).mono ?_); (case side1 => repeat (with_reducible first | exact HI0.out | apply i2_q | apply i1_q | apply i0_q | apply i3_q)); (case side2 => repeat (with_reducible first | exact HB.out | apply bA_q | apply pB_q | apply bD_q | refine bS_q ?_ (i5_q HI0.out))); rintro e w61 ⟨rfl, hi, hb, hk⟩; refine ⟨_, rfl, ?_⟩; have n0_ := Ae_q (rM_q (rK_q (i6_q (show IsS81 w0 _ g s0_0 t147 from by repeat (with_reducible first | exact HI0.out | apply i2_q | apply i1_q | apply i0_q | apply i3_q)) (rup HO_3.out) (by decide)) hk (fun _ h => h.2)) (fun _ h => h.1)); have n1_ := Ae_q (kT_q (by repeat (with_reducible first | exact HK.out | apply kS_q | apply kN_q | apply kD_q | apply kA_q)) hk (.inl rfl)); have n2_ := Ae_q (hb); have n3_ := Ae_q (hi); clear HO_3; clear HK; clear HB; clear HI0; have HO_3 := n0_; have HK := n1_; have HB := n2_; have HI0 := n3_; clear n0_ n1_ n2_ n3_; (try clear hb); (try clear hb2); (try clear hk); (try clear hi)))
       go_ret
       exact ⟨_, by first | rfl | (simp [eN_q, eS_q] <;> rfl) | (simp [*, eN_q, eS_q] <;> rfl), rup HO_3.out, by repeat (with_reducible first | exact HI0.out | apply i2_q | apply i1_q | apply i0_q | apply i3_q), by repeat (with_reducible first | exact HB.out | apply bA_q | apply pB_q | apply bD_q | refine bS_q ?_ (i5_q HI0.out)), by repeat (with_reducible first | exact HK.out | apply kS_q | apply kN_q | apply kD_q | apply kA_q)⟩
      rw [if_pos c45] at H
      have c45b0 : (t148 == 2) = true := beq_iff_eq.mpr c45
      have c45b1 : (t148 != 2) = false := nE_q.mpr c45
      clear c45
      obtain ⟨y157, hy157⟩ : ∃ y_ : List Int, y_ = (([(-1), 1440] : List Int)) := ⟨_, rfl⟩
      replace H : ((spec_l6Rd_pick.f k2 s0_0 t149 2).bind fun bt160 => (if 0 ≤ bt160.1 then (if bt160.1 < (y157.length : Int) then (if 0 ≤ t146 then (if t146 < (x3_2.length : Int) then (some ((x3_2.set (t146 : Int).toNat (⟨(rd_T27 x3_2 t146).f0, rd y157 bt160.1, (rd_T27 x3_2 t146).f2, (rd_T27 x3_2 t146).f3, (rd_T27 x3_2 t146).f4, (rd_T27 x3_2 t146).f5⟩ : S27)), bt160.2)) else (none)) else (none)) else (none)) else (none))) = some (r1, r2) := by first | (rw [hy157]; with_reducible exact H) | (have H2_ := (oS_q _ _).symm.trans H; rw [hy157]; with_reducible exact H2_) | (have H2_ := (oS_q _ _).symm.trans H; with_reducible exact H2_) | with_reducible exact H | (rw [hy157]; exact H) | exact H
      have Ny157 := Ae_q hy157
      clear hy157
      replace H := oB_q.mp H
      obtain ⟨⟨t160, t161⟩, A460, H⟩ := H
      replace H : (if 0 ≤ t160 then (if t160 < (y157.length : Int) then (if 0 ≤ t146 then (if t146 < (x3_2.length : Int) then (some ((x3_2.set (t146 : Int).toNat (⟨(rd_T27 x3_2 t146).f0, rd y157 t160, (rd_T27 x3_2 t146).f2, (rd_T27 x3_2 t146).f3, (rd_T27 x3_2 t146).f4, (rd_T27 x3_2 t146).f5⟩ : S27)), t161)) else (none)) else (none)) else (none)) else (none)) = some (r1, r2) := H
      have A46 := Ae_q A460
      clear A460
      by_cases c47 : 0 ≤ t160
      rotate_left
      ·rw [if_neg c47] at H
       exact absurd H (by simp)
      rw [if_pos c47] at H
      have c47b0 : decide (0 ≤ t160) = true := dT_q c47
      clear c47
      by_cases c48 : t160 < (y157.length : Int)
      rotate_left
      ·rw [if_neg c48] at H
       exact absurd H (by simp)
      rw [if_pos c48] at H
      have c48b0 : decide (t160 < (y157.length : Int)) = true := dT_q c48
      clear c48
      by_cases c49 : 0 ≤ t146
      rotate_left
      ·rw [if_neg c49] at H
       exact absurd H (by simp)
      rw [if_pos c49] at H
      have c49b0 : decide (0 ≤ t146) = true := dT_q c49
      clear c49
      by_cases c50 : t146 < (x3_2.length : Int)
      rotate_left
      ·rw [if_neg c50] at H
       exact absurd H (by simp)
      rw [if_pos c50] at H
      have c50b0 : decide (t146 < (x3_2.length : Int)) = true := dT_q c50
      clear c50
      obtain ⟨y163, hy163⟩ : ∃ y_ : List (S27), y_ = (x3_2.set (t146 : Int).toNat (⟨(rd_T27 x3_2 t146).f0, rd y157 t160, (rd_T27 x3_2 t146).f2, (rd_T27 x3_2 t146).f3, (rd_T27 x3_2 t146).f4, (rd_T27 x3_2 t146).f5⟩ : S27)) := ⟨_, rfl⟩
      replace H : (some (y163, t161)) = some (r1, r2) := by first | (rw [hy163]; with_reducible exact H) | (have H2_ := (oS_q _ _).symm.trans H; rw [hy163]; with_reducible exact H2_) | (have H2_ := (oS_q _ _).symm.trans H; with_reducible exact H2_) | with_reducible exact H | (rw [hy163]; exact H) | exact H
      have Ny163 := Ae_q hy163
      clear hy163
      simp only [oE_q, pE_q] at H
      obtain ⟨rfl, rfl⟩ := H
      go_wp2_with (first | ((with_reducible refine gC_q (f := 49) rfl ?_); refine gL_q (some 38) rfl rfl Try.func49 (by kernel_rfl) rfl #[.pointer (some ⟨g, 0, none⟩), .int .i64 x4_3] rfl (by (try simp only [lM_q, lC_q, lN_q]); first | done | rfl | (simp only [lD_q, lT_q]; rfl)) ?_; (with_reducible refine (spec_l6Rd_pick.calls k2 g s0_0 x1001_2 x4_3 t146 t147 w0 _ ?side1 ?side2 A22.out).mono ?_); (case side1 => repeat (with_reducible first | exact HI0.out | apply i2_q | apply i1_q | apply i0_q | apply i3_q)); (case side2 => repeat (with_reducible first | exact HB.out | apply bA_q | apply pB_q | apply bD_q | refine bS_q ?_ (i5_q HI0.out))); rintro e w52 ⟨rfl, hi, hb, hk⟩; refine ⟨_, rfl, ?_⟩; have n0_ := Ae_q (rM_q (rK_q (i6_q (show IsS81 w0 _ g s0_0 x1001_2 from by repeat (with_reducible first | exact HI0.out | apply i2_q | apply i1_q | apply i0_q | apply i3_q)) (rup HO_3.out) (by decide)) hk (fun _ h => h.2)) (fun _ h => h.1)); have n1_ := Ae_q (kT_q (by repeat (with_reducible first | exact HK.out | apply kS_q | apply kN_q | apply kD_q | apply kA_q)) hk (.inl rfl)); have n2_ := Ae_q (hb); have n3_ := Ae_q (hi); clear HO_3; clear HK; clear HB; clear HI0; have HO_3 := n0_; have HK := n1_; have HB := n2_; have HI0 := n3_; clear n0_ n1_ n2_ n3_; (try clear hb); (try clear hb2); (try clear hk); (try clear hi)) | ((with_reducible refine gC_q (f := 49) rfl ?_); refine gL_q (some 40) rfl rfl Try.func49 (by kernel_rfl) rfl #[.pointer (some ⟨g, 0, none⟩), .int .i64 30] rfl (by (try simp only [lM_q, lC_q, lN_q]); first | done | rfl | (simp only [lD_q, lT_q]; rfl)) ?_; (with_reducible refine (spec_l6Rd_pick.calls k2 g s0_0 t147 30 t148 t149 w0 _ ?side1 ?side2 A23.out).mono ?_); (case side1 => repeat (with_reducible first | exact HI0.out | apply i2_q | apply i1_q | apply i0_q | apply i3_q)); (case side2 => repeat (with_reducible first | exact HB.out | apply bA_q | apply pB_q | apply bD_q | refine bS_q ?_ (i5_q HI0.out))); rintro e w53 ⟨rfl, hi, hb, hk⟩; refine ⟨_, rfl, ?_⟩; have n0_ := Ae_q (rM_q (rK_q (i6_q (show IsS81 w0 _ g s0_0 t147 from by repeat (with_reducible first | exact HI0.out | apply i2_q | apply i1_q | apply i0_q | apply i3_q)) (rup HO_3.out) (by decide)) hk (fun _ h => h.2)) (fun _ h => h.1)); have n1_ := Ae_q (kT_q (by repeat (with_reducible first | exact HK.out | apply kS_q | apply kN_q | apply kD_q | apply kA_q)) hk (.inl rfl)); have n2_ := Ae_q (hb); have n3_ := Ae_q (hi); clear HO_3; clear HK; clear HB; clear HI0; have HO_3 := n0_; have HK := n1_; have HB := n2_; have HI0 := n3_; clear n0_ n1_ n2_ n3_; (try clear hb); (try clear hb2); (try clear hk); (try clear hi)) | ((with_reducible refine gD_q (N := 70) rfl ?_); refine Kd.R_lit kI_q _ 3 ?hg (N := 70) ?hd (xs := ([(-1), 1440] : List Int)) (inner := [.int .i64 (-1), .int .i64 1440]) (ok := fun _ => True) (okp := fun _ => True) ?hr ?hp (fun _ hk => hk) trivial (bR_q _ _) (nR_q _) (by simp) ?_; (case hd => rfl); (case hg => rfl); (case hr => first | (go_simp; done) | (go_simp; rfl)); (case hp => exact (Reps.one (show Kd.M kI_q _ _ _ (-1) [.int .i64 (-1)] from rfl) (Reps.one (show Kd.M kI_q _ _ _ 1440 [.int .i64 1440] from rfl) (Reps.none _ _)))); intro v158 w54 ho55 hb hg_ hnew_; clear hg_ hnew_; (first | rw [← Ny157.out] at ho55 | (simp only [Int.reduceToNat] at ho55; rw [← Ny157.out] at ho55)); have n0_ := Ae_q (rO_q (rup HO_3.out) hb); have n1_ := Ae_q (rL_q ho55 (keep_size (w := w) (g := g) (row := none) (by repeat (with_reducible first | exact HK.out | apply kS_q | apply kN_q | apply kD_q | apply kA_q)))); have n2_ := Ae_q (IsS81.below (by repeat (with_reducible first | exact HI0.out | apply i2_q | apply i1_q | apply i0_q | apply i3_q)) hb); have n3_ := Ae_q (kT_q (by repeat (with_reducible first | exact HK.out | apply kS_q | apply kN_q | apply kD_q | apply kA_q)) (kO_q hb g none) (.inl rfl)); have n4_ := Ae_q (bT_q (by repeat (with_reducible first | exact HB.out | apply bA_q | apply pB_q | apply bD_q | refine bS_q ?_ (i5_q HI0.out))) hb); clear HO_3; clear HI0; clear HK; clear HB; have HO_3 := n0_; have HO159 := n1_; have HI0 := n2_; have HK := n3_; have HB := n4_; clear n0_ n1_ n2_ n3_ n4_; clear hb ho55) | ((with_reducible refine gC_q (f := 49) rfl ?_); refine gL_q (some 72) rfl rfl Try.func49 (by kernel_rfl) rfl #[.pointer (some ⟨g, 0, none⟩), .int .i64 2] rfl (by (try simp only [lM_q, lC_q, lN_q]); first | done | rfl | (simp only [lD_q, lT_q]; rfl)) ?_; (with_reducible refine (spec_l6Rd_pick.calls k2 g s0_0 t149 2 t160 t161 w0 _ ?side1 ?side2 A46.out).mono ?_); (case side1 => repeat (with_reducible first | exact HI0.out | apply i2_q | apply i1_q | apply i0_q | apply i3_q)); (case side2 => repeat (with_reducible first | exact HB.out | apply bA_q | apply pB_q | apply bD_q | refine bS_q ?_ (i5_q HI0.out))); rintro e w56 ⟨rfl, hi, hb, hk⟩; refine ⟨_, rfl, ?_⟩; have n0_ := Ae_q (rM_q (rK_q (i6_q (show IsS81 w0 _ g s0_0 t149 from by repeat (with_reducible first | exact HI0.out | apply i2_q | apply i1_q | apply i0_q | apply i3_q)) (rup HO_3.out) (by decide)) hk (fun _ h => h.2)) (fun _ h => h.1)); have n1_ := Ae_q (rM_q (rK_q (i6_q (show IsS81 w0 _ g s0_0 t149 from by repeat (with_reducible first | exact HI0.out | apply i2_q | apply i1_q | apply i0_q | apply i3_q)) (rup HO159.out) (by decide)) hk (fun _ h => h.2)) (fun _ h => h.1)); have n2_ := Ae_q (kT_q (by repeat (with_reducible first | exact HK.out | apply kS_q | apply kN_q | apply kD_q | apply kA_q)) hk (.inl rfl)); have n3_ := Ae_q (hb); have n4_ := Ae_q (hi); clear HO_3; clear HO159; clear HK; clear HB; clear HI0; have HO_3 := n0_; have HO159 := n1_; have HK := n2_; have HB := n3_; have HI0 := n4_; clear n0_ n1_ n2_ n3_ n4_; (try clear hb); (try clear hb2); (try clear hk); (try clear hi); obtain ⟨Ao57, co57, eo57⟩ := rS_q HO159.out; subst eo57; have p162 : 0 ≤ (t160 : Int) := oD_q (by assumption); have q162 : t160 < (y157.length : Int) := oD_q (by assumption); obtain ⟨ad162, e162, hx162_0⟩ := aI_q (rR_q HO159.out).2.2 t160 p162 q162; cases e162; replace p162 := eq_true p162; replace q162 := eq_true q162; have p51 : 0 ≤ (t146 : Int) := oD_q (by assumption); have q51 : (t146 : Int) < ((x3_2.length : Int) : Int) := oD_q (by assumption); obtain ⟨go51, co51, eo51, gb51, gl51, cl51, HG51⟩ := Kd.R_form HO_3.out (by omega); (first | cases eo51 | (injection eo51 with ea_ en_ ec_; (first | subst ea_ | (injection ea_ with ea_; subst ea_)); subst ec_; clear en_)); have GB51 := Ae_q gb51; have GG51 := Ae_q HG51; clear gb51 gl51 HG51; obtain ⟨ce51, hcl51, hM51, hcc51, hfr51⟩ := Kd.R_elem HO_3.out z27 (t146 : Int) p51 q51; obtain rfl := k27_openM hM51; have hx51_0 : w56.cell? ⟨go51, (t146 : Int).toNat * 6, none⟩ = some (.int .i64 ((rd_T27 x3_2 t146).f0)) := hcc51 0 _ rfl; have hx51_1 : w56.cell? ⟨go51, (t146 : Int).toNat * 6 + 1, none⟩ = some (.int .i64 ((rd_T27 x3_2 t146).f1)) := hcc51 1 _ rfl; have hx51_2 : w56.cell? ⟨go51, (t146 : Int).toNat * 6 + 2, none⟩ = some (.int .i64 ((rd_T27 x3_2 t146).f2)) := hcc51 2 _ rfl; have hx51_3 : w56.cell? ⟨go51, (t146 : Int).toNat * 6 + 3, none⟩ = some (.int .i64 ((rd_T27 x3_2 t146).f3)) := hcc51 3 _ rfl; have hx51_4 : w56.cell? ⟨go51, (t146 : Int).toNat * 6 + 4, none⟩ = some (.int .i64 ((rd_T27 x3_2 t146).f4)) := hcc51 4 _ rfl; have hx51_5 : w56.cell? ⟨go51, (t146 : Int).toNat * 6 + 5, none⟩ = some (.int .i64 ((rd_T27 x3_2 t146).f5)) := hcc51 5 _ rfl; have hf51_0 : w56.frozen? ⟨go51, (t146 : Int).toNat * 6, none⟩ = false := hfr51 0; have hf51_1 : w56.frozen? ⟨go51, (t146 : Int).toNat * 6 + 1, none⟩ = false := hfr51 1; have hf51_2 : w56.frozen? ⟨go51, (t146 : Int).toNat * 6 + 2, none⟩ = false := hfr51 2; have hf51_3 : w56.frozen? ⟨go51, (t146 : Int).toNat * 6 + 3, none⟩ = false := hfr51 3; have hf51_4 : w56.frozen? ⟨go51, (t146 : Int).toNat * 6 + 4, none⟩ = false := hfr51 4; have hf51_5 : w56.frozen? ⟨go51, (t146 : Int).toNat * 6 + 5, none⟩ = false := hfr51 5; clear hcl51 hcc51 hfr51 hM51; replace p51 := eq_true p51; replace q51 := eq_true q51; have HX58 := Ae_q (show Kd.R k27 27 w56 w.heap.size (fun _ => True) (.slice (some ⟨go51, 0, none⟩) x3_2.length co51) x3_2 from (rup HO_3.out)); obtain ⟨ce58, hcl58, hM58, hcc58, hfr58⟩ := Kd.R_elem HX58.out z27 (t146 : Int) (oD_q (by assumption)) (by have h_ : (t146 : Int) < ((x3_2.length : Int) : Int) := oD_q (by assumption); first | exact h_ | (have e_ := (rR_q HO_3.out).1; omega) | simpa using h_); obtain rfl := k27_openM hM58; have HP58 := Kd.R_seg HX58.out (t146 : Int) (oD_q (by assumption)) (by have h_ : (t146 : Int) < ((x3_2.length : Int) : Int) := oD_q (by assumption); first | exact h_ | (have e_ := (rR_q HO_3.out).1; omega) | simpa using h_) (seg := [.int .i64 (rd y157 t160)]) (j := 1) hcl58 hcc58 (show 2 ≤ 6 from by decide) (x' := (⟨(rd_T27 x3_2 t146).f0, rd y157 t160, (rd_T27 x3_2 t146).f2, (rd_T27 x3_2 t146).f3, (rd_T27 x3_2 t146).f4, (rd_T27 x3_2 t146).f5⟩ : S27)) (k27_mkM _ _ _ (⟨(rd_T27 x3_2 t146).f0, rd y157 t160, (rd_T27 x3_2 t146).f2, (rd_T27 x3_2 t146).f3, (rd_T27 x3_2 t146).f4, (rd_T27 x3_2 t146).f5⟩ : S27) ) (fun _ hk => hk); have hx58_1 := hcc58 1 _ rfl; (try simp only [show (k27).sz = 6 from rfl, Nat.mul_one, Nat.add_zero] at hx58_1); have hf58_1 := hfr58 1; (try simp only [show (k27).sz = 6 from rfl, Nat.mul_one, Nat.add_zero] at hf58_1); clear hcl58 hcc58 hfr58 hM58) | ((with_reducible refine gate_store (t := 3) (p := 76) rfl ?_); refine store_event (t := 3) (p := 76) (v := ?vo_w59) (w1 := (w56.setCell ⟨go51, (t146 : Int).toNat * 6 + 1, none⟩ (.int .i64 (rd y157 t160)))) ?hg ?ho ?hn ?hr ?_; (case ho => rfl); (case hg => rfl); (case hn => rfl); (case hr => first | (go_simp; done) | (go_simp; rfl)); intro w59 hw; have hg : w56.grownBy w59 (some go51) := (by rw [hw]; exact HP58.2); have hp_ : Kd.R k27 27 w59 w.heap.size (fun _ => True) (.slice (some ⟨go51, 0, none⟩) x3_2.length co51) y163 := (by rw [hw, Ny163.out]; exact HP58.1); clear HP58; have n0_ := Ae_q (hp_); have n1_ := Ae_q (IsS81.grown (by repeat (with_reducible first | exact HI0.out | apply i2_q | apply i1_q | apply i0_q | apply i3_q)) hg (IsS81.own_ne HI0.out HO_3.out (by decide))); have n2_ := Ae_q (Kd.R_over' (v := (.slice (some ⟨go51, 0, none⟩) x3_2.length co51)) (rup HO159.out) (Kd.R_typed HO_3.out) (by decide) hg); have n3_ := Ae_q ((by rw [hw]; exact bS_q (HB.out) (nT_q HL.out GB51.out) : Below w0.heap.size w0 w59)); have n4_ := Ae_q (kT_q (by repeat (with_reducible first | exact HK.out | apply kS_q | apply kN_q | apply kD_q | apply kA_q)) (KeepBut.of_grown hg g) (Kd.R_base2 HO_3.out)); clear HO_3; clear HI0; clear HO159; clear HB; clear HK; have HO_3 := n0_; have HI0 := n1_; have HO159 := n2_; have HB := n3_; have HK := n4_; clear n0_ n1_ n2_ n3_ n4_; clear hg hw hp_))
      go_ret
      exact ⟨_, by first | rfl | (simp [eN_q, eS_q] <;> rfl) | (simp [*, eN_q, eS_q] <;> rfl), rup HO_3.out, by repeat (with_reducible first | exact HI0.out | apply i2_q | apply i1_q | apply i0_q | apply i3_q), by repeat (with_reducible first | exact HB.out | apply bA_q | apply pB_q | apply bD_q | refine bS_q ?_ (i5_q HI0.out)), by repeat (with_reducible first | exact HK.out | apply kS_q | apply kN_q | apply kD_q | apply kA_q)⟩
     rw [if_pos c34] at H
     have c34b0 : (t148 == 1) = true := beq_iff_eq.mpr c34
     have c34b1 : (t148 != 1) = false := nE_q.mpr c34
     clear c34
     by_cases c35 : 0 ≤ t146
     rotate_left
     ·rw [if_neg c35] at H
      exact absurd H (by simp)
     rw [if_pos c35] at H
     have c35b0 : decide (0 ≤ t146) = true := dT_q c35
     clear c35
     by_cases c36 : t146 < (x3_2.length : Int)
     rotate_left
     ·rw [if_neg c36] at H
      exact absurd H (by simp)
     rw [if_pos c36] at H
     have c36b0 : decide (t146 < (x3_2.length : Int)) = true := dT_q c36
     clear c36
     replace H := oB_q.mp H
     obtain ⟨⟨t154, t155⟩, A370, H⟩ := H
     replace H : (some ((x3_2.set (t146 : Int).toNat (⟨(rd_T27 x3_2 t146).f0, (rd_T27 x3_2 t146).f1, (rd_T27 x3_2 t146).f2, wrap64 ((wrap64 (((rd_T27 x3_2 t146).f3) + 1)) - (wrap64 (2 * t154))), (rd_T27 x3_2 t146).f4, (rd_T27 x3_2 t146).f5⟩ : S27)), t155)) = some (r1, r2) := H
     have A37 := Ae_q A370
     clear A370
     obtain ⟨y156, hy156⟩ : ∃ y_ : List (S27), y_ = (x3_2.set (t146 : Int).toNat (⟨(rd_T27 x3_2 t146).f0, (rd_T27 x3_2 t146).f1, (rd_T27 x3_2 t146).f2, wrap64 ((wrap64 (((rd_T27 x3_2 t146).f3) + 1)) - (wrap64 (2 * t154))), (rd_T27 x3_2 t146).f4, (rd_T27 x3_2 t146).f5⟩ : S27)) := ⟨_, rfl⟩
     replace H : (some (y156, t155)) = some (r1, r2) := by first | (rw [hy156]; with_reducible exact H) | (have H2_ := (oS_q _ _).symm.trans H; rw [hy156]; with_reducible exact H2_) | (have H2_ := (oS_q _ _).symm.trans H; with_reducible exact H2_) | with_reducible exact H | (rw [hy156]; exact H) | exact H
     have Ny156 := Ae_q hy156
     clear hy156
     simp only [oE_q, pE_q] at H
     obtain ⟨rfl, rfl⟩ := H
     try go_wp2_with (first | ((with_reducible refine gC_q (f := 49) rfl ?_); refine gL_q (some 38) rfl rfl Try.func49 (by kernel_rfl) rfl #[.pointer (some ⟨g, 0, none⟩), .int .i64 x4_3] rfl (by (try simp only [lM_q, lC_q, lN_q]); first | done | rfl | (simp only [lD_q, lT_q]; rfl)) ?_; (with_reducible refine (spec_l6Rd_pick.calls k2 g s0_0 x1001_2 x4_3 t146 t147 w0 _ ?side1 ?side2 A22.out).mono ?_); (case side1 => repeat (with_reducible first | exact HI0.out | apply i2_q | apply i1_q | apply i0_q | apply i3_q)); (case side2 => repeat (with_reducible first | exact HB.out | apply bA_q | apply pB_q | apply bD_q | refine bS_q ?_ (i5_q HI0.out))); rintro e w39 ⟨rfl, hi, hb, hk⟩; refine ⟨_, rfl, ?_⟩; have n0_ := Ae_q (rM_q (rK_q (i6_q (show IsS81 w0 _ g s0_0 x1001_2 from by repeat (with_reducible first | exact HI0.out | apply i2_q | apply i1_q | apply i0_q | apply i3_q)) (rup HO_3.out) (by decide)) hk (fun _ h => h.2)) (fun _ h => h.1)); have n1_ := Ae_q (kT_q (by repeat (with_reducible first | exact HK.out | apply kS_q | apply kN_q | apply kD_q | apply kA_q)) hk (.inl rfl)); have n2_ := Ae_q (hb); have n3_ := Ae_q (hi); clear HO_3; clear HK; clear HB; clear HI0; have HO_3 := n0_; have HK := n1_; have HB := n2_; have HI0 := n3_; clear n0_ n1_ n2_ n3_; (try clear hb); (try clear hb2); (try clear hk); (try clear hi)) | ((with_reducible refine gC_q (f := 49) rfl ?_); refine gL_q (some 40) rfl rfl Try.func49 (by kernel_rfl) rfl #[.pointer (some ⟨g, 0, none⟩), .int .i64 30] rfl (by (try simp only [lM_q, lC_q, lN_q]); first | done | rfl | (simp only [lD_q, lT_q]; rfl)) ?_; (with_reducible refine (spec_l6Rd_pick.calls k2 g s0_0 t147 30 t148 t149 w0 _ ?side1 ?side2 A23.out).mono ?_); (case side1 => repeat (with_reducible first | exact HI0.out | apply i2_q | apply i1_q | apply i0_q | apply i3_q)); (case side2 => repeat (with_reducible first | exact HB.out | apply bA_q | apply pB_q | apply bD_q | refine bS_q ?_ (i5_q HI0.out))); rintro e w40 ⟨rfl, hi, hb, hk⟩; refine ⟨_, rfl, ?_⟩; have n0_ := Ae_q (rM_q (rK_q (i6_q (show IsS81 w0 _ g s0_0 t147 from by repeat (with_reducible first | exact HI0.out | apply i2_q | apply i1_q | apply i0_q | apply i3_q)) (rup HO_3.out) (by decide)) hk (fun _ h => h.2)) (fun _ h => h.1)); have n1_ := Ae_q (kT_q (by repeat (with_reducible first | exact HK.out | apply kS_q | apply kN_q | apply kD_q | apply kA_q)) hk (.inl rfl)); have n2_ := Ae_q (hb); have n3_ := Ae_q (hi); clear HO_3; clear HK; clear HB; clear HI0; have HO_3 := n0_; have HK := n1_; have HB := n2_; have HI0 := n3_; clear n0_ n1_ n2_ n3_; (try clear hb); (try clear hb2); (try clear hk); (try clear hi)))
     have n0_ := Ae_q (rD_q HO_3.out)
     have n1_ := Ae_q (i0_q HI0.out)
     have n2_ := Ae_q (kD_q HK.out)
     have n3_ := Ae_q (bD_q HB.out)
     clear HO_3
     clear HI0
     clear HK
     clear HB
     have HO_3 := n0_
     have HI0 := n1_
     have HK := n2_
     have HB := n3_
     clear n0_ n1_ n2_ n3_
     obtain ⟨Ao42, co42, eo42⟩ := rS_q HO_3.out
     (first | subst eo42 | (injection eo42 with f1_ f2_ f3_; have f4_ := f1_.symm; have f5_ := f3_.symm; clear f1_ f2_ f3_; subst f4_; subst f5_))
     have p153 : 0 ≤ (t146 : Int) := oD_q (by assumption)
     have q153 : t146 < (x3_2.length : Int) := oD_q (by assumption)
     obtain ⟨ad153, e153, hx153_0, hx153_1, hx153_2, hx153_3, hx153_4, hx153_5⟩ := at_T27 (rR_q HO_3.out).2.2 t146 p153 q153
     cases e153
     replace p153 := eq_true p153
     replace q153 := eq_true q153
     refine start_ (n := 15) (S := fun w' => w'.cell? (ad153.add ((t146).toNat * 6)) = some (.int .i64 ((rd_T27 x3_2 t146).f0)) ∧ w'.cell? ⟨(ad153.add ((t146).toNat * 6)).block, (ad153.add ((t146).toNat * 6)).off + 1, none⟩ = some (.int .i64 ((rd_T27 x3_2 t146).f1)) ∧ w'.cell? ⟨(ad153.add ((t146).toNat * 6)).block, (ad153.add ((t146).toNat * 6)).off + 2, none⟩ = some (.int .i64 ((rd_T27 x3_2 t146).f2)) ∧ w'.cell? ⟨(ad153.add ((t146).toNat * 6)).block, (ad153.add ((t146).toNat * 6)).off + 3, none⟩ = some (.int .i64 ((rd_T27 x3_2 t146).f3)) ∧ w'.cell? ⟨(ad153.add ((t146).toNat * 6)).block, (ad153.add ((t146).toNat * 6)).off + 4, none⟩ = some (.int .i64 ((rd_T27 x3_2 t146).f4)) ∧ w'.cell? ⟨(ad153.add ((t146).toNat * 6)).block, (ad153.add ((t146).toNat * 6)).off + 5, none⟩ = some (.int .i64 ((rd_T27 x3_2 t146).f5))) (ds := [14]) #[false, false, false, false, false, false, false, false, false, false, false, false, false, false, false] (by kernel_rfl) rfl rfl ⟨hx153_0, hx153_1, hx153_2, hx153_3, hx153_4, hx153_5⟩ (fun hHeld => ?_); refine with_tabW spec_l92Events.tab17 spec_l92Events.bits17 (fun HT_ HW_ => ?_)
     generalize w40.drew = w41 at HO_3 HI0 HK HB hx153_0 hx153_1 hx153_2 hx153_3 hx153_4 hx153_5 hHeld ⊢
     refine pI (v := ?_) (a' := ?_) HT_ 0 52 rfl rfl (by kernel_rfl) (fun _ _ _ h => h) (by rfl) ?_ ?_ ?_
     rotate_left
     ·intro w'
      go_simp
      with_reducible rfl
     rotate_left
     ·simp only [pS_q]
      rfl
     refine pI (v := ?_) (a' := ?_) HT_ 1 53 rfl rfl (by kernel_rfl) (fun _ _ _ h => h) (by rfl) ?_ ?_ ?_
     rotate_left
     ·intro w'
      go_simp
      with_reducible rfl
     rotate_left
     ·simp only [pS_q]
      rfl
     refine pI (v := ?_) (a' := ?_) HT_ 2 54 rfl rfl (by kernel_rfl) (fun _ _ _ h => h) (by rfl) ?_ ?_ ?_
     rotate_left
     ·intro w'
      go_simp
      with_reducible rfl
     rotate_left
     ·simp only [pS_q]
      rfl
     refine pI (v := ?_) (a' := ?_) HT_ 3 55 rfl rfl (by kernel_rfl) (fun _ _ _ h => h) (by rfl) ?_ ?_ ?_
     rotate_left
     ·intro w'
      go_simp
      with_reducible rfl
     rotate_left
     ·simp only [pS_q]
      rfl
     refine pI (v := ?_) (a' := ?_) HT_ 4 56 rfl rfl (by kernel_rfl) (fun _ _ _ h => h) (by rfl) ?_ ?_ ?_
     rotate_left
     ·intro w'
      go_simp
      with_reducible rfl
     rotate_left
     ·simp only [pS_q]
      rfl
     refine pI (v := ?_) (a' := ?_) HT_ 5 57 rfl rfl (by kernel_rfl) (fun _ _ _ h => h) (by rfl) ?_ ?_ ?_
     rotate_left
     ·intro w'
      go_simp
      with_reducible rfl
     rotate_left
     ·simp only [pS_q]
      rfl
     refine pI (v := ?_) (a' := ?_) HT_ 8 60 rfl rfl (by kernel_rfl) (fun _ _ _ h => h) (by rfl) ?_ ?_ ?_
     rotate_left
     ·intro w'
      go_simp
      with_reducible rfl
     rotate_left
     ·simp only [pS_q]
      rfl
     refine take_ (i := 6) (N := some 58) (v := ?_) (a' := ?_) #[true, true, true, true, true, true, true, false, true, false, false, false, false, false, false] rfl rfl (take_ofW HT_.out HW_.out (by kernel_rfl)) (fun _ _ _ h => h) (Or.inl ⟨by rfl, ?_⟩) hHeld ?_ ?_
     rotate_left
     ·rintro w' ⟨s0, s1, s2, s3, s4, s5⟩
      go_simp
      with_reducible rfl
     rotate_left
     ·simp only [pS_q]
      rfl
     refine pI (v := ?_) (a' := ?_) HT_ 7 59 rfl rfl (by kernel_rfl) (fun _ _ _ h => h) (by rfl) ?_ ?_ ?_
     rotate_left
     ·intro w'
      go_simp
      with_reducible rfl
     rotate_left
     ·simp only [pS_q]
      rfl
     refine one_ (i := 9) (N := some 61) #[true, true, true, true, true, true, true, true, true, true, false, false, false, false, false] rfl rfl (one_of HT_.out (by kernel_rfl)) (by decide) (fun K hK => ?_)
     refine goes_ Try.func49 (by kernel_rfl) rfl #[.pointer (some ⟨g, 0, none⟩), .int .i64 2] (by rfl) rfl rfl (by (try simp only [lM_q, lC_q, lN_q]); first | done | rfl | (simp only [lD_q, lT_q]; rfl)) ?_
     with_reducible refine (spec_l6Rd_pick.calls k2 g s0_0 t149 2 t154 t155 w0 _ ?side1 ?side2 A37.out).mono ?_
     (case side1 => repeat (with_reducible first | exact HI0.out | apply i2_q | apply i1_q | apply i0_q | apply i3_q))
     (case side2 => repeat (with_reducible first | exact HB.out | apply bA_q | apply pB_q | apply bD_q | refine bS_q ?_ (i5_q HI0.out)))
     rintro e w43 ⟨rfl, hi, hb, hk⟩
     have HS0_ := keep_cell hk (hHeld.1) (by first | (rw [add_block]; exact Kd.own_blk (IsS81.own_ne HI0.out HO_3.out (by decide))) | (show (Addr.add _ _).block ≠ _; rw [add_block]; exact Kd.own_blk (IsS81.own_ne HI0.out HO_3.out (by decide))) | exact Kd.own_blk (IsS81.own_ne HI0.out HO_3.out (by decide)))
     have HS1_ := keep_cell hk (hHeld.2.1) (by first | (rw [add_block]; exact Kd.own_blk (IsS81.own_ne HI0.out HO_3.out (by decide))) | (show (Addr.add _ _).block ≠ _; rw [add_block]; exact Kd.own_blk (IsS81.own_ne HI0.out HO_3.out (by decide))) | exact Kd.own_blk (IsS81.own_ne HI0.out HO_3.out (by decide)))
     have HS2_ := keep_cell hk (hHeld.2.2.1) (by first | (rw [add_block]; exact Kd.own_blk (IsS81.own_ne HI0.out HO_3.out (by decide))) | (show (Addr.add _ _).block ≠ _; rw [add_block]; exact Kd.own_blk (IsS81.own_ne HI0.out HO_3.out (by decide))) | exact Kd.own_blk (IsS81.own_ne HI0.out HO_3.out (by decide)))
     have HS3_ := keep_cell hk (hHeld.2.2.2.1) (by first | (rw [add_block]; exact Kd.own_blk (IsS81.own_ne HI0.out HO_3.out (by decide))) | (show (Addr.add _ _).block ≠ _; rw [add_block]; exact Kd.own_blk (IsS81.own_ne HI0.out HO_3.out (by decide))) | exact Kd.own_blk (IsS81.own_ne HI0.out HO_3.out (by decide)))
     have HS4_ := keep_cell hk (hHeld.2.2.2.2.1) (by first | (rw [add_block]; exact Kd.own_blk (IsS81.own_ne HI0.out HO_3.out (by decide))) | (show (Addr.add _ _).block ≠ _; rw [add_block]; exact Kd.own_blk (IsS81.own_ne HI0.out HO_3.out (by decide))) | exact Kd.own_blk (IsS81.own_ne HI0.out HO_3.out (by decide)))
     have HS5_ := keep_cell hk (hHeld.2.2.2.2.2) (by first | (rw [add_block]; exact Kd.own_blk (IsS81.own_ne HI0.out HO_3.out (by decide))) | (show (Addr.add _ _).block ≠ _; rw [add_block]; exact Kd.own_blk (IsS81.own_ne HI0.out HO_3.out (by decide))) | exact Kd.own_blk (IsS81.own_ne HI0.out HO_3.out (by decide)))
     refine ⟨_, rfl, ?_⟩
     have n0_ := Ae_q (rM_q (rK_q (i6_q (show IsS81 w0 _ g s0_0 t149 from by repeat (with_reducible first | exact HI0.out | apply i2_q | apply i1_q | apply i0_q | apply i3_q)) (rup HO_3.out) (by decide)) hk (fun _ h => h.2)) (fun _ h => h.1))
     have n1_ := Ae_q (kT_q (by repeat (with_reducible first | exact HK.out | apply kS_q | apply kN_q | apply kD_q | apply kA_q)) hk (.inl rfl))
     have n2_ := Ae_q (hb)
     have n3_ := Ae_q (hi)
     clear HO_3
     clear HK
     clear HB
     clear HI0
     have HO_3 := n0_
     have HK := n1_
     have HB := n2_
     have HI0 := n3_
     clear n0_ n1_ n2_ n3_
     (try clear hb)
     (try clear hb2)
     (try clear hk)
     (try clear hi)
     have p38 : 0 ≤ (t146 : Int) := oD_q (by assumption)
     have q38 : (t146 : Int) < ((x3_2.length : Int) : Int) := oD_q (by assumption)
     obtain ⟨go38, co38, eo38, gb38, gl38, cl38, HG38⟩ := Kd.R_form HO_3.out (by omega)
     (first | cases eo38 | (injection eo38 with ea_ en_ ec_; (first | subst ea_ | (injection ea_ with ea_; subst ea_)); subst ec_; clear en_))
     have GB38 := Ae_q gb38
     have GG38 := Ae_q HG38
     clear gb38 gl38 HG38
     (first | simp only [add_plain] at hx153_0 | skip)
     (first | simp only [add_plain] at hx153_1 | skip)
     (first | simp only [add_plain] at hx153_2 | skip)
     (first | simp only [add_plain] at hx153_3 | skip)
     (first | simp only [add_plain] at hx153_4 | skip)
     (first | simp only [add_plain] at hx153_5 | skip)
     obtain ⟨ce38, hcl38, hM38, hcc38, hfr38⟩ := Kd.R_elem HO_3.out z27 (t146 : Int) p38 q38
     obtain rfl := k27_openM hM38
     have hx38_0 : World.cell? _ ⟨go38, (t146 : Int).toNat * 6, none⟩ = some (.int .i64 ((rd_T27 x3_2 t146).f0)) := hcc38 0 _ rfl
     have hx38_1 : World.cell? _ ⟨go38, (t146 : Int).toNat * 6 + 1, none⟩ = some (.int .i64 ((rd_T27 x3_2 t146).f1)) := hcc38 1 _ rfl
     have hx38_2 : World.cell? _ ⟨go38, (t146 : Int).toNat * 6 + 2, none⟩ = some (.int .i64 ((rd_T27 x3_2 t146).f2)) := hcc38 2 _ rfl
     have hx38_3 : World.cell? _ ⟨go38, (t146 : Int).toNat * 6 + 3, none⟩ = some (.int .i64 ((rd_T27 x3_2 t146).f3)) := hcc38 3 _ rfl
     have hx38_4 : World.cell? _ ⟨go38, (t146 : Int).toNat * 6 + 4, none⟩ = some (.int .i64 ((rd_T27 x3_2 t146).f4)) := hcc38 4 _ rfl
     have hx38_5 : World.cell? _ ⟨go38, (t146 : Int).toNat * 6 + 5, none⟩ = some (.int .i64 ((rd_T27 x3_2 t146).f5)) := hcc38 5 _ rfl
     have hf38_0 : World.frozen? _ ⟨go38, (t146 : Int).toNat * 6, none⟩ = false := hfr38 0
     have hf38_1 : World.frozen? _ ⟨go38, (t146 : Int).toNat * 6 + 1, none⟩ = false := hfr38 1
     have hf38_2 : World.frozen? _ ⟨go38, (t146 : Int).toNat * 6 + 2, none⟩ = false := hfr38 2
     have hf38_3 : World.frozen? _ ⟨go38, (t146 : Int).toNat * 6 + 3, none⟩ = false := hfr38 3
     have hf38_4 : World.frozen? _ ⟨go38, (t146 : Int).toNat * 6 + 4, none⟩ = false := hfr38 4
     have hf38_5 : World.frozen? _ ⟨go38, (t146 : Int).toNat * 6 + 5, none⟩ = false := hfr38 5
     clear hcl38 hcc38 hfr38 hM38
     replace p38 := eq_true p38
     replace q38 := eq_true q38
     have HN0_go38 := Ae_q (show g ≠ go38 from by have h_ := IsS81.own_ne HI0.out HO_3.out (by decide); intro e_; exact h_ (by rw [e_]; rfl))
     obtain ⟨ce44, hcl44, hM44, hcc44, hfr44⟩ := Kd.R_elem HO_3.out z27 (t146 : Int) (oD_q (by assumption)) (by have h_ : (t146 : Int) < ((x3_2.length : Int) : Int) := oD_q (by assumption); first | exact h_ | (have e_ := (rR_q HO_3.out).1; omega) | simpa using h_)
     obtain rfl := k27_openM hM44
     have HP44 := (Kd.R_seg HO_3.out (t146 : Int) (oD_q (by assumption)) (by have h_ : (t146 : Int) < ((x3_2.length : Int) : Int) := oD_q (by assumption); first | exact h_ | (have e_ := (rR_q HO_3.out).1; omega) | simpa using h_) (seg := [.int .i64 (wrap64 ((wrap64 (((rd_T27 x3_2 t146).f3) + 1)) - (wrap64 (2 * t154))))]) (j := 3) hcl44 hcc44 (show 4 ≤ 6 from by decide) (x' := (⟨(rd_T27 x3_2 t146).f0, (rd_T27 x3_2 t146).f1, (rd_T27 x3_2 t146).f2, wrap64 ((wrap64 (((rd_T27 x3_2 t146).f3) + 1)) - (wrap64 (2 * t154))), (rd_T27 x3_2 t146).f4, (rd_T27 x3_2 t146).f5⟩ : S27)) (k27_mkM _ _ _ (⟨(rd_T27 x3_2 t146).f0, (rd_T27 x3_2 t146).f1, (rd_T27 x3_2 t146).f2, wrap64 ((wrap64 (((rd_T27 x3_2 t146).f3) + 1)) - (wrap64 (2 * t154))), (rd_T27 x3_2 t146).f4, (rd_T27 x3_2 t146).f5⟩ : S27) ) (fun _ hk => hk)).1
     rw [← Ny156.out] at HP44
     have HQ44 := Ae_q HP44
     clear hcl44 hcc44 hfr44 hM44 HP44
     refine hK.out _ _ ⟨HS0_, HS1_, HS2_, HS3_, HS4_, HS5_⟩ (fun hHeld => ?_)
     clear hK K
     refine norm_ (a' := ?_) ?_ ?_
     rotate_left
     ·show Act.put _ (some 61) _ = _
      simp only [pS_q]
      rfl
     refine pI (v := ?_) (a' := ?_) HT_ 10 62 rfl rfl (by kernel_rfl) (fun _ _ _ h => h) (by rfl) ?_ ?_ ?_
     rotate_left
     ·intro w'
      go_simp
      with_reducible rfl
     rotate_left
     ·simp only [pS_q]
      rfl
     refine pI (v := ?_) (a' := ?_) HT_ 11 63 rfl rfl (by kernel_rfl) (fun _ _ _ h => h) (by rfl) ?_ ?_ ?_
     rotate_left
     ·intro w'
      go_simp
      with_reducible rfl
     rotate_left
     ·simp only [pS_q]
      rfl
     refine pI (v := ?_) (a' := ?_) HT_ 12 64 rfl rfl (by kernel_rfl) (fun _ _ _ h => h) (by rfl) ?_ ?_ ?_
     rotate_left
     ·intro w'
      go_simp
      with_reducible rfl
     rotate_left
     ·simp only [pS_q]
      rfl
     refine pI (v := ?_) (a' := ?_) HT_ 13 65 rfl rfl (by kernel_rfl) (fun _ _ _ h => h) (by rfl) ?_ ?_ ?_
     rotate_left
     ·intro w'
      go_simp
      with_reducible rfl
     rotate_left
     ·simp only [pS_q]
      rfl
     refine last_ (i := 14) (N := none) #[true, true, true, true, true, true, true, true, true, true, true, true, true, true, true] rfl rfl (one_of HT_.out (by kernel_rfl)) (by decide) (fun K hK => ?_)
     refine skip_ (w1 := ?_) (by rfl) rfl ?_ ?_
     rotate_left
     ·go_simp
      rfl
     refine hK.out _ _ ?_
     clear hK K
     refine done_ (done_of HT_.out (by kernel_rfl)) ?_
     try go_wp2
     go_ret
     exact ⟨_, by first | rfl | (simp [eN_q, eS_q] <;> rfl) | (simp [*, eN_q, eS_q] <;> rfl), by (with_reducible repeat (first | apply rA_q | apply rN_q | apply rD_q)); exact HQ44.out, by repeat (with_reducible first | exact HI0.out | apply i2_q | apply i1_q | apply i0_q | apply i3_q | refine i4_q ?_ HN0_go38.out _), by repeat (with_reducible first | exact HB.out | apply bA_q | apply pB_q | apply bD_q | refine bS_q ?_ (nT_q HL.out GB38.out) | refine bS_q ?_ (i5_q HI0.out)), by repeat (with_reducible first | exact HK.out | apply kS_q | apply kN_q | apply kD_q | apply kA_q | refine kF_q ?_ GB38.out _)⟩

def spec_l6Open.f (l0 : List Int) : Option (List Int × Int) := if (l0.length : Int) > 2000 then (if 2000 ≤ (l0.length : Int) then (some (l0.take 2000, 0)) else (none)) else (some (l0, 0))
set_option maxHeartbeats 8000000 in
set_option maxRecDepth 100000 in
theorem spec_l6Open.calls (A0 : Option Addr) (c0 : Nat) (l0 : List Int) (r1 : List Int) (r2 : Int) (w0 w : World) (hB : Below w0.heap.size w0 w) (hr0 : Kd.C (Kd.int .u8) w0 A0 l0.length l0) (hc0 : l0.length ≤ c0) (h : spec_l6Open.f l0 = some (r1, r2)) :
    Calls Try.prog 43 #[.slice A0 l0.length c0] w fun e w' => ∃ g_ : Nat, e = .returned (.pointer (some ⟨g_, 0, none⟩)) ∧ IsS81 w0 w' g_ r1 r2 ∧ Below w0.heap.size w0 w' ∧ Below w.heap.size w w' := by
 have hu81 := Try.underlying81
 have HR0 := Ae_q hr0
 have HC0 := Ae_q hc0
 clear hr0 hc0
 have HBW := Ae_q (bR_q w.heap.size w)
 have HW0 := Ae_q hB.size
 have HB := Ae_q hB
 clear hB
 have H : (if (l0.length : Int) > 2000 then (if 2000 ≤ (l0.length : Int) then (some (l0.take 2000, 0)) else (none)) else (some (l0, 0))) = some (r1, r2) := h
 clear h
 by_cases c2 : (l0.length : Int) > 2000
 rotate_left
 ·rw [if_neg c2] at H
  have c2b0 : decide (2000 < (l0.length : Int)) = false := dF_q c2
  have c2b1 : decide (2000 < l0.length) = false := dF_q (by omega)
  clear c2
  simp only [oE_q, pE_q] at H
  obtain ⟨rfl, rfl⟩ := H
  go_enter Try.func43, Try.ntmps43
  go_wp2_with (first | ((with_reducible refine gD_q (N := 10) rfl ?_); refine bE_q ?hg (N := 10) ?hd (cs := #[.slice A0 l0.length c0, .int .i64 0]) (t := 81) ?hr ?_; (case hd => rfl); (case hg => rfl); (case hr => first | (go_simp; done) | (go_simp; rfl)); intro gb166 hg w6 hbox hb; have n0_ := Ae_q (bT_q HBW.out hb); have n1_ := Ae_q (bT_q (bel HB.out) hb); have n2_ := Ae_q (hbox); have n3_ := Ae_q ((by rw [hg]; exact (bZ_q (by repeat (with_reducible first | exact HBW.out | apply bA_q | apply pB_q | apply bD_q))) : w.heap.size ≤ gb166)); have n4_ := Ae_q ((nT_q HW0.out (by rw [hg]; exact (bZ_q (by repeat (with_reducible first | exact HBW.out | apply bA_q | apply pB_q | apply bD_q))) : w.heap.size ≤ gb166) : w0.heap.size ≤ gb166)); clear HBW; clear HB; have HBW := n0_; have HB := n1_; have BK166 := n2_; have GW166 := n3_; have GE166 := n4_; clear n0_ n1_ n2_ n3_ n4_; clear hb hbox hg))
  go_ret
  exact ⟨_, rfl, (show IsS81 w0 _ gb166 l0 0 from ⟨_, _, bup BK166.out, GE166.out, HR0.out⟩), by repeat (with_reducible first | exact HB.out | apply bA_q | apply pB_q | apply bD_q | refine bS_q ?_ GE166.out), by repeat (with_reducible first | exact HBW.out | apply bA_q | apply pB_q | apply bD_q | refine bS_q ?_ GW166.out)⟩
 rw [if_pos c2] at H
 have c2b0 : decide (2000 < (l0.length : Int)) = true := dT_q c2
 have c2b1 : decide (2000 < l0.length) = true := dT_q (by omega)
 clear c2
 by_cases c3 : 2000 ≤ (l0.length : Int)
 rotate_left
 ·rw [if_neg c3] at H
  exact absurd H (by simp)
 rw [if_pos c3] at H
 have c3b0 := eq_true c3
 have c3b1 : decide (2000 ≤ (l0.length : Int)) = true := dT_q c3
 clear c3
 simp only [oE_q, pE_q] at H
 obtain ⟨rfl, rfl⟩ := H
 obtain ⟨i04, hi04, _, hsz4, _⟩ := info_parts info5
 obtain ⟨hcut4, hA4, hC4⟩ := print_take_of (P := Try.prog) (Value.int .u8) 0 22 5 .i64 Try.underlying22 hi04 hsz4 A0 c0 l0 2000 (by omega) (oD_q (by assumption)) HC0.out
 have HR164 := Ae_q (Kd.C_of_reads (h1 := fun _ => rfl) (hA4 _ (Kd.reads_of_C HR0.out)))
 have HC164 := Ae_q hC4
 clear hA4 hC4 hi04 hsz4
 go_enter Try.func43, Try.ntmps43
 go_wp2_with (first | ((with_reducible refine gD_q (N := 10) rfl ?_); refine bE_q ?hg (N := 10) ?hd (cs := #[.slice A0 (l0.take 2000).length c0, .int .i64 0]) (t := 81) ?hr ?_; (case hd => rfl); (case hg => rfl); (case hr => first | (go_simp; done) | (go_simp; rfl)); intro gb165 hg w5 hbox hb; have n0_ := Ae_q (bT_q HBW.out hb); have n1_ := Ae_q (bT_q (bel HB.out) hb); have n2_ := Ae_q (hbox); have n3_ := Ae_q ((by rw [hg]; exact (bZ_q (by repeat (with_reducible first | exact HBW.out | apply bA_q | apply pB_q | apply bD_q))) : w.heap.size ≤ gb165)); have n4_ := Ae_q ((nT_q HW0.out (by rw [hg]; exact (bZ_q (by repeat (with_reducible first | exact HBW.out | apply bA_q | apply pB_q | apply bD_q))) : w.heap.size ≤ gb165) : w0.heap.size ≤ gb165)); clear HBW; clear HB; have HBW := n0_; have HB := n1_; have BK165 := n2_; have GW165 := n3_; have GE165 := n4_; clear n0_ n1_ n2_ n3_ n4_; clear hb hbox hg))
 go_ret
 exact ⟨_, rfl, (show IsS81 w0 _ gb165 (l0.take 2000) 0 from ⟨_, _, bup BK165.out, GE165.out, HR164.out⟩), by repeat (with_reducible first | exact HB.out | apply bA_q | apply pB_q | apply bD_q | refine bS_q ?_ GE165.out), by repeat (with_reducible first | exact HBW.out | apply bA_q | apply pB_q | apply bD_q | refine bS_q ?_ GW165.out)⟩

def impl_within.f (a0 : Int) (a1 : Int) (a2 : Int) : Option (Bool) := if a0 ≥ a1 then (some (decide (a0 ≤ a2))) else (some false)
set_option maxHeartbeats 8000000 in
set_option maxRecDepth 100000 in
theorem impl_within.calls (a0 : Int) (a1 : Int) (a2 : Int) (r : Bool) (w : World) (h : impl_within.f a0 a1 a2 = some r) :
    Calls Try.prog 66 #[.int .i64 a0, .int .i64 a1, .int .i64 a2] w fun e w' => e = .returned (.bool r) ∧ Drawn0 w w' := by
 have H : (if a0 ≥ a1 then (some (decide (a0 ≤ a2))) else (some false)) = some r := h
 clear h
 by_cases c4 : a0 ≥ a1
 ·rw [if_pos c4] at H
  have c4b0 : decide (a1 ≤ a0) = true := dT_q c4
  clear c4
  obtain rfl := oI_q H
  go_enter Try.func66, Try.ntmps66
  go_wp2
  go_ret
  exact ⟨by first | rfl | (simp; done) | (simp [*]; done), by repeat (first | exact Drawn0.refl _ | apply Drawn0.step)⟩
 rw [if_neg c4] at H
 have c4b0 : decide (a1 ≤ a0) = false := dF_q c4
 clear c4
 obtain rfl := oI_q H
 go_enter Try.func66, Try.ntmps66
 go_wp2
 go_ret
 exact ⟨by first | rfl | (simp; done) | (simp [*]; done), by repeat (first | exact Drawn0.refl _ | apply Drawn0.step)⟩

def impl_isMinute.f (a0 : Int) : Option (Bool) := (impl_within.f a0 0 1439).bind fun t174 => (some t174)
set_option maxHeartbeats 8000000 in
set_option maxRecDepth 100000 in
theorem impl_isMinute.calls (a0 : Int) (r : Bool) (w : World) (h : impl_isMinute.f a0 = some r) :
    Calls Try.prog 50 #[.int .i64 a0] w fun e w' => e = .returned (.bool r) ∧ Drawn0 w w' := by
 have H : ((impl_within.f a0 0 1439).bind fun t174 => (some t174)) = some r := h
 clear h
 replace H := oB_q.mp H
 obtain ⟨t174, A20, H⟩ := H
 replace H : (some t174) = some r := H
 have A2 := Ae_q A20
 clear A20
 obtain rfl := oI_q H
 go_enter Try.func50, Try.ntmps50
 go_wp2_with (first | ((with_reducible refine gC_q (f := 66) rfl ?_); refine gL_q (some 4) rfl rfl Try.func66 (by kernel_rfl) rfl #[.int .i64 a0, .int .i64 0, .int .i64 1439] rfl (by (try simp only [lM_q, lC_q, lN_q]); first | done | rfl | (simp only [lD_q, lT_q]; rfl)) ?_; (with_reducible refine (impl_within.calls a0 0 1439 t174 _ A2.out).mono ?_); rintro e w' ⟨rfl, ⟨nd, rfl⟩⟩; refine ⟨_, rfl, ?_⟩))
 go_ret
 exact ⟨by first | rfl | (simp; done) | (simp [*]; done), by repeat (first | exact Drawn0.refl _ | apply Drawn0.step)⟩

def impl_isSet.f (a0 : Int) : Option (Bool) := (impl_within.f a0 0 255).bind fun t175 => (some t175)
set_option maxHeartbeats 8000000 in
set_option maxRecDepth 100000 in
theorem impl_isSet.calls (a0 : Int) (r : Bool) (w : World) (h : impl_isSet.f a0 = some r) :
    Calls Try.prog 59 #[.int .i64 a0] w fun e w' => e = .returned (.bool r) ∧ Drawn0 w w' := by
 have H : ((impl_within.f a0 0 255).bind fun t175 => (some t175)) = some r := h
 clear h
 replace H := oB_q.mp H
 obtain ⟨t175, A20, H⟩ := H
 replace H : (some t175) = some r := H
 have A2 := Ae_q A20
 clear A20
 obtain rfl := oI_q H
 go_enter Try.func59, Try.ntmps59
 go_wp2_with (first | ((with_reducible refine gC_q (f := 66) rfl ?_); refine gL_q (some 4) rfl rfl Try.func66 (by kernel_rfl) rfl #[.int .i64 a0, .int .i64 0, .int .i64 255] rfl (by (try simp only [lM_q, lC_q, lN_q]); first | done | rfl | (simp only [lD_q, lT_q]; rfl)) ?_; (with_reducible refine (impl_within.calls a0 0 255 t175 _ A2.out).mono ?_); rintro e w' ⟨rfl, ⟨nd, rfl⟩⟩; refine ⟨_, rfl, ?_⟩))
 go_ret
 exact ⟨by first | rfl | (simp; done) | (simp [*]; done), by repeat (first | exact Drawn0.refl _ | apply Drawn0.step)⟩

def impl_isId.f (a0 : Int) : Option (Bool) := (impl_within.f a0 1 20).bind fun t176 => (some t176)
set_option maxHeartbeats 8000000 in
set_option maxRecDepth 100000 in
theorem impl_isId.calls (a0 : Int) (r : Bool) (w : World) (h : impl_isId.f a0 = some r) :
    Calls Try.prog 64 #[.int .i64 a0] w fun e w' => e = .returned (.bool r) ∧ Drawn0 w w' := by
 have H : ((impl_within.f a0 1 20).bind fun t176 => (some t176)) = some r := h
 clear h
 replace H := oB_q.mp H
 obtain ⟨t176, A20, H⟩ := H
 replace H : (some t176) = some r := H
 have A2 := Ae_q A20
 clear A20
 obtain rfl := oI_q H
 go_enter Try.func64, Try.ntmps64
 go_wp2_with (first | ((with_reducible refine gC_q (f := 66) rfl ?_); refine gL_q (some 4) rfl rfl Try.func66 (by kernel_rfl) rfl #[.int .i64 a0, .int .i64 1, .int .i64 20] rfl (by (try simp only [lM_q, lC_q, lN_q]); first | done | rfl | (simp only [lD_q, lT_q]; rfl)) ?_; (with_reducible refine (impl_within.calls a0 1 20 t176 _ A2.out).mono ?_); rintro e w' ⟨rfl, ⟨nd, rfl⟩⟩; refine ⟨_, rfl, ?_⟩))
 go_ret
 exact ⟨by first | rfl | (simp; done) | (simp [*]; done), by repeat (first | exact Drawn0.refl _ | apply Drawn0.step)⟩

def impl_isKind.f (a0 : Int) : Option (Bool) := (impl_within.f a0 1 5).bind fun t177 => (some t177)
set_option maxHeartbeats 8000000 in
set_option maxRecDepth 100000 in
theorem impl_isKind.calls (a0 : Int) (r : Bool) (w : World) (h : impl_isKind.f a0 = some r) :
    Calls Try.prog 65 #[.int .i64 a0] w fun e w' => e = .returned (.bool r) ∧ Drawn0 w w' := by
 have H : ((impl_within.f a0 1 5).bind fun t177 => (some t177)) = some r := h
 clear h
 replace H := oB_q.mp H
 obtain ⟨t177, A20, H⟩ := H
 replace H : (some t177) = some r := H
 have A2 := Ae_q A20
 clear A20
 obtain rfl := oI_q H
 go_enter Try.func65, Try.ntmps65
 go_wp2_with (first | ((with_reducible refine gC_q (f := 66) rfl ?_); refine gL_q (some 4) rfl rfl Try.func66 (by kernel_rfl) rfl #[.int .i64 a0, .int .i64 1, .int .i64 5] rfl (by (try simp only [lM_q, lC_q, lN_q]); first | done | rfl | (simp only [lD_q, lT_q]; rfl)) ?_; (with_reducible refine (impl_within.calls a0 1 5 t177 _ A2.out).mono ?_); rintro e w' ⟨rfl, ⟨nd, rfl⟩⟩; refine ⟨_, rfl, ?_⟩))
 go_ret
 exact ⟨by first | rfl | (simp; done) | (simp [*]; done), by repeat (first | exact Drawn0.refl _ | apply Drawn0.step)⟩

end Go.Proofs.Ytnhenfmegpjigaa.PEv
