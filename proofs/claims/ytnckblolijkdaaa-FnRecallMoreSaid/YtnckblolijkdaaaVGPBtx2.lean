import Derived.Test.YtnckblolijkdaaaVGPBtx0
import Derived.Test.YtnckblolijkdaaaVGPBtx1
namespace Go.Proofs.Ytnckblolijkdaaa.PBt
open Go.RowKit Go.Proofs.YtnckblolijkdaaaW.PrintWords Go.Proofs.YtnckblolijkdaaaW.PrintLast Go.Proofs.YtnckblolijkdaaaW.PrintMore
attribute [local go_sem] max2_int min2_int max_two min_two max_three min_three max_four min_four
set_option linter.unusedVariables false
set_option linter.unusedSimpArgs false

-- HAND rounds=1 making=1 rsh=0:N
theorem toN_ {α : Type} {d : Kd α} {e base : Nat} {w : World} {v : Value} {xs : List α} (h : Kd.S d e w base (fun _ => True) v xs) : Kd.N d e w base (fun k_ => (base ≤ k_)) v xs := Kd.N_mono (Kd.R_N (Kd.R_bound (Kd.S_R h))) (fun k hk => hk.2.1)
theorem toN_g {α : Type} {d : Kd α} {e base g : Nat} {w : World} {v : Value} {xs : List α} (h : Kd.S d e w base (fun _ => True) v xs) (hg : g < base) : Kd.N d e w base (fun k_ => ((base ≤ k_) ∧ k_ ≠ g)) v xs := Kd.N_mono (toN_ h) (fun k hk => ⟨hk, by omega⟩)
mutual
def spec_l92Batches.l0 : Nat → List (S39) → Int → List Int → Int → Option ((List (S39)) × Int)
 | 0, _, _, _, _ => none
 | k + 1, x3, x4, x1000, x1001 => if x4 ≤ 7 then ((spec_l6Rd_pick.f k x1000 x1001 2).bind fun bt107 => (if bt107.1 = 0 then (spec_l92Batches.j1 k x3 x4 (decide ((x3.length : Int) < 6)) x1000 bt107.2) else (spec_l92Batches.j1 k x3 x4 false x1000 bt107.2))) else (if (x3.length : Int) > 0 then ((spec_l6Rd_pick.f k x1000 x1001 (x3.length : Int)).bind fun bt125 => ((spec_l6Rd_pick.f k x1000 bt125.2 30).bind fun bt127 => (if bt127.1 = 0 then (if 0 ≤ bt125.1 then (if bt125.1 < (x3.length : Int) then (some ((x3.set (bt125.1 : Int).toNat (⟨(rd_T39 x3 bt125.1).f0, (rd_T39 x3 bt125.1).f1, (rd_T39 x3 bt125.1).f2, wrap64 (((rd_T39 x3 bt125.1).f2) - 1)⟩ : S39)), bt127.2)) else (none)) else (none)) else (if bt127.1 = 1 then (if 0 ≤ bt125.1 then (if bt125.1 < (x3.length : Int) then (if x3.length < 2932031007402 then (some ((x3 ++ [(⟨(rd_T39 x3 bt125.1).f0, (rd_T39 x3 bt125.1).f1, (rd_T39 x3 bt125.1).f2, (rd_T39 x3 bt125.1).f3⟩ : S39)]), bt127.2)) else (none)) else (none)) else (none)) else (if bt127.1 = 2 then (if 0 ≤ bt125.1 then (if bt125.1 < (x3.length : Int) then (if ((rd_T39 x3 bt125.1).f1).length < 17592186044416 then (some ((x3.set (bt125.1 : Int).toNat (⟨(rd_T39 x3 bt125.1).f0, (((rd_T39 x3 bt125.1).f1) ++ [1]), (rd_T39 x3 bt125.1).f2, (rd_T39 x3 bt125.1).f3⟩ : S39)), bt127.2)) else (none)) else (none)) else (none)) else (some (x3, bt127.2))))))) else (some (x3, x1001)))
def spec_l92Batches.j1 : Nat → List (S39) → Int → Bool → List Int → Int → Option ((List (S39)) × Int)
 | 0, _, _, _, _, _ => none
 | k + 1, x3, x4, x21, x1000, x1001 => if x21 = true then ((spec_l6Rd_pick.f k x1000 x1001 20).bind fun bt109 => ((spec_l6Rd_pick.f k x1000 bt109.2 100).bind fun bt111 => (spec_l92Batches.l1 k x3 x4 1 x1000 bt111.2 x4 (([] : List Int)) (wrap64 (bt109.1 * 10)) (wrap64 ((wrap64 (bt109.1 * 10)) + bt111.1))))) else (spec_l92Batches.l0 k x3 (wrap64 (x4 + 1)) x1000 x1001)
def spec_l92Batches.l1 : Nat → List (S39) → Int → Int → List Int → Int → Int → List Int → Int → Int → Option ((List (S39)) × Int)
 | 0, _, _, _, _, _, _, _, _, _ => none
 | k + 1, x3, x4, x7, x1000, x1001, x117000, x117001, x117002, x117003 => if x7 ≤ 5 then ((spec_l6Rd_pick.f k x1000 x1001 3).bind fun bt117 => (if bt117.1 = 0 then (if x117001.length < 17592186044416 then (spec_l92Batches.l1 k x3 x4 (wrap64 (x7 + 1)) x1000 bt117.2 x117000 (x117001 ++ [x7]) x117002 x117003) else (none)) else (spec_l92Batches.l1 k x3 x4 (wrap64 (x7 + 1)) x1000 bt117.2 x117000 x117001 x117002 x117003))) else (if x3.length < 2932031007402 then (spec_l92Batches.l0 k (x3 ++ [(⟨x117000, x117001, x117002, x117003⟩ : S39)]) (wrap64 (x4 + 1)) x1000 x1001) else (none))
end
def spec_l92Batches.f (k : Nat) (s0_0 : List Int) (s0_1 : Int) : Option ((List (S39)) × Int) := spec_l92Batches.l0 k (([] : List (S39))) 1 s0_0 s0_1
set_option maxHeartbeats 8000000 in
set_option maxRecDepth 100000 in
theorem spec_l92Batches.calls (k : Nat) (g : Nat) (s0_0 : List Int) (s0_1 : Int) (r1 : List (S39)) (r2 : Int) (w0 w : World) (hI : IsS82 w0 w g s0_0 s0_1) (hB : Below w0.heap.size w0 w) (h : spec_l92Batches.f k s0_0 s0_1 = some (r1, r2)) :
    Calls Try.prog 42 #[.pointer (some ⟨g, 0, none⟩)] w fun e w' => ∃ v0_ : Value, e = .returned (v0_) ∧ Kd.N k39 39 w' w.heap.size (fun k_ => (w.heap.size ≤ k_)) v0_ r1 ∧ IsS82 w0 w' g s0_0 r2 ∧ Below w0.heap.size w0 w' ∧ KeepBut w w' g none := by
 have HGL : Aside0 (g < w.heap.size) := Ae_q (by obtain ⟨_, _, hb_, _⟩ := hI; exact blk_lt hb_)
 have hu39 := Try.underlying39
 have HI0 := Ae_q hI
 have HK := Ae_q (KeepBut.refl w g none)
 have HL := Ae_q hB.size
 clear hI
 have HW0 := Ae_q hB.size
 have HB := Ae_q hB
 clear hB
 have H : (spec_l92Batches.l0 k (([] : List (S39))) 1 s0_0 s0_1) = some (r1, r2) := h
 clear h
 obtain ⟨y104, hy104⟩ : ∃ y_ : List (S39), y_ = (([] : List (S39))) := ⟨_, rfl⟩
 replace H : (spec_l92Batches.l0 k y104 1 s0_0 s0_1) = some (r1, r2) := by first | (rw [hy104]; with_reducible exact H) | (have H2_ := (oS_q _ _).symm.trans H; rw [hy104]; with_reducible exact H2_) | (have H2_ := (oS_q _ _).symm.trans H; with_reducible exact H2_) | with_reducible exact H | (rw [hy104]; exact H) | exact H
 have Ny104 := Ae_q hy104
 clear hy104
 have H' := Ae_q H
 clear H
 go_enter Try.func42, Try.ntmps42
 go_wp2_with (first | ((with_reducible refine gD_q (N := 9) rfl ?_); (try (refine gate_guard (by rfl) ?_; dsimp only)); refine Kd.S_lit k39 _ 39 ?hg (N := 9) ?hd (xs := ([] : List (S39))) (inner := []) (ok := fun _ => True) (okp := fun _ => True) ?hr ?hp (fun _ hk => hk) trivial (bR_q _ _) (nR_q _) (by simp) ?_; (case hd => rfl); (case hg => rfl); (case hr => exact m11_q); (case hp => exact m42_q); intro v105 w2 ho3 hb hg_ hnew_; clear hg_ hnew_; (first | rw [← Ny104.out] at ho3 | (simp only [Int.reduceToNat] at ho3; rw [← Ny104.out] at ho3)); have HO106 := Ae_q (Kd.S_lower ho3 (keep_size (w := w) (g := g) (row := none) m2_q)); replace HK := Ae_q (kT_q m2_q (kO_q hb g none) (.inl rfl)); replace HB := Ae_q (bT_q m3_q hb); replace HI0 := Ae_q (IsS82.below m4_q hb); clear hb ho3))
 go_loopg [3, 4] k (fun kq v3 v4 w' => ∃ (x3_1 : List (S39)) (x4_1 : Int) (x1001_1 : Int), v4 = .int .i64 x4_1 ∧ Aside0 (spec_l92Batches.l0 kq x3_1 x4_1 s0_0 x1001_1 = some (r1, r2)) ∧ Aside0 (kq ≤ k) ∧ Aside0 (Kd.S k39 39 w' w.heap.size (fun _ => True) v3 x3_1) ∧ Aside0 (IsS82 w0 w' g s0_0 x1001_1) ∧ Aside0 (KeepBut w w' g none) ∧ Aside0 (Below w0.heap.size w0 w'))
 case atStart => exact ⟨(y104), (1), (s0_1), m5_q, H', ⟨nR_q _⟩, ⟨by (with_reducible repeat (first | apply tA_q | apply tN_q | apply tD_q)); exact HO106.out⟩, ⟨m4_q⟩, ⟨m2_q⟩, ⟨m3_q⟩⟩
 case round =>
  clear H'
  try clear p2
  obtain ⟨x3_1, x4_1, x1001_1, rfl, HA, HK1, HO_3, HI0, HK, HB⟩ := hrel
  cases gk with
  | zero => exact absurd HA.out (by simp [spec_l92Batches.l0])
  | succ k1 =>
   have H := HA.out
   clear HA
   simp only [spec_l92Batches.l0] at H
   by_cases c4 : x4_1 ≤ 7
   ·rw [if_pos c4] at H
    have c4b0 : decide (x4_1 ≤ 7) = true := dT_q c4
    clear c4
    have HC5 := Ae_q H
    clear H
    go_upto_region 5 with (fail)
    go_cut [21] (fun v21 wc => ∃ (kq : Nat) (x21_4 : Bool) (x1001_4 : Int), v21 = .bool x21_4 ∧ Aside0 (spec_l92Batches.j1 kq x3_1 x4_1 x21_4 s0_0 x1001_4 = some (r1, r2)) ∧ Aside0 (kq ≤ k1) ∧ Aside0 (Kd.S k39 39 wc w.heap.size (fun _ => True) u3 x3_1) ∧ Aside0 (IsS82 w0 wc g s0_0 x1001_4) ∧ Aside0 (KeepBut w wc g none) ∧ Aside0 (Below w0.heap.size w0 wc))
    case first =>
     have H := HC5.out
     clear HC5
     replace H := oB_q.mp H
     obtain ⟨⟨t107, t108⟩, A60, H⟩ := H
     replace H : (if t107 = 0 then (spec_l92Batches.j1 k1 x3_1 x4_1 (decide ((x3_1.length : Int) < 6)) s0_0 t108) else (spec_l92Batches.j1 k1 x3_1 x4_1 false s0_0 t108)) = some (r1, r2) := H
     have A6 := Ae_q A60
     clear A60
     by_cases c7 : t107 = 0
     rotate_left
     ·rw [if_neg c7] at H
      have c7b0 : (t107 == 0) = false := fN_q.mpr c7
      have c7b1 : (t107 != 0) = true := nI_q.mpr c7
      (first | rw [c7b0] | (simp only [i64_w, i32_w]; rw [c7b0]) | skip)
      have H' := Ae_q H
      clear H
      go_wp2_with (first | ((with_reducible refine gC_q (f := 52) rfl ?_); refine gL_q (some 15) rfl rfl Try.func52 m9_q rfl #[.pointer (some ⟨g, 0, none⟩), .int .i64 2] rfl m0_q ?_; (with_reducible refine (spec_l6Rd_pick.calls k1 g s0_0 x1001_1 2 t107 t108 w0 _ ?side1 ?side2 A6.out).mono ?_); (case side1 => exact m4_q); (case side2 => exact m3_q); rintro e w' ⟨rfl, hi, hb, hk⟩; refine ⟨_, rfl, ?_⟩; replace HO_3 := Ae_q (Kd.S_mono (Kd.S_keep (IsS82.apartS (show IsS82 w0 _ g s0_0 x1001_1 from by repeat (with_reducible first | exact HI0.out | apply i2_q | apply i0_q | apply i1_q | apply i3_q)) m10_q (by decide)) hk (fun _ h => h.2)) (fun _ h => h.1)); replace HK := Ae_q (kT_q m2_q hk (.inl rfl)); replace HB := Ae_q (hb); replace HI0 := Ae_q (hi); (try clear hb); (try clear hb2); (try clear hk); (try clear hi)))
      go_meet
      case rel => exact ⟨_, (false), (t108), m5_q, H', ⟨m37_q⟩, ⟨m10_q⟩, ⟨m4_q⟩, ⟨m2_q⟩, ⟨m3_q⟩⟩
     rw [if_pos c7] at H
     have c7b0 : (t107 == 0) = true := beq_iff_eq.mpr c7
     have c7b1 : (t107 != 0) = false := nE_q.mpr c7
     clear c7
     (first | rw [c7b0] | (simp only [i64_w, i32_w]; rw [c7b0]) | skip)
     have H' := Ae_q H
     clear H
     go_wp2_with (first | ((with_reducible refine gC_q (f := 52) rfl ?_); refine gL_q (some 15) rfl rfl Try.func52 m9_q rfl #[.pointer (some ⟨g, 0, none⟩), .int .i64 2] rfl m0_q ?_; (with_reducible refine (spec_l6Rd_pick.calls k1 g s0_0 x1001_1 2 t107 t108 w0 _ ?side1 ?side2 A6.out).mono ?_); (case side1 => exact m4_q); (case side2 => exact m3_q); rintro e w' ⟨rfl, hi, hb, hk⟩; refine ⟨_, rfl, ?_⟩; replace HO_3 := Ae_q (Kd.S_mono (Kd.S_keep (IsS82.apartS (show IsS82 w0 _ g s0_0 x1001_1 from by repeat (with_reducible first | exact HI0.out | apply i2_q | apply i0_q | apply i1_q | apply i3_q)) m10_q (by decide)) hk (fun _ h => h.2)) (fun _ h => h.1)); replace HK := Ae_q (kT_q m2_q hk (.inl rfl)); replace HB := Ae_q (hb); replace HI0 := Ae_q (hi); (try clear hb); (try clear hb2); (try clear hk); (try clear hi); obtain ⟨Ao9, co9, eo9⟩ := Kd.S_slice HO_3.out; subst eo9))
     go_meet
     case rel => exact ⟨_, (decide ((x3_1.length : Int) < 6)), (t108), m5_q, H', ⟨m37_q⟩, ⟨m10_q⟩, ⟨m4_q⟩, ⟨m2_q⟩, ⟨m3_q⟩⟩
    case rest =>
     clear HC5
     try clear p2
     try clear c4
     try clear c4b0
     try clear c5
     try clear c7
     try clear c7b0
     try clear c7b1
     try clear p2
     obtain ⟨kq, x21_4, x1001_4, rfl, HA, HJ4, HO_3, HI0, HK, HB⟩ := hcut
     cases kq with
     | zero => exact absurd HA.out (by simp [spec_l92Batches.j1])
     | succ kj4 =>
      have H := HA.out
      clear HA
      simp only [spec_l92Batches.j1] at H
      by_cases c11 : x21_4 = true
      rotate_left
      ·replace c11 := fM_q.mpr c11
       subst c11
       have H1 : (spec_l92Batches.l0 kj4 x3_1 (wrap64 (x4_1 + 1)) s0_0 x1001_4) = some (r1, r2) := by rw [if_neg (show ¬ (false = true) by decide)] at H; exact H
       clear H
       have H := H1
       clear H1
       have H' := Ae_q H
       clear H
       go_wp2
       go_roundg kj4
       case measure => have := HK1.out; have := HJ4.out; omega
       case rel => exact ⟨(x3_1), (wrap64 (x4_1 + 1)), (x1001_4), m5_q, H', ⟨by have := HK1.out; have := HJ4.out; omega⟩, ⟨m10_q⟩, ⟨m4_q⟩, ⟨m2_q⟩, ⟨m3_q⟩⟩
      subst c11
      have H1 : ((spec_l6Rd_pick.f kj4 s0_0 x1001_4 20).bind fun bt109 => ((spec_l6Rd_pick.f kj4 s0_0 bt109.2 100).bind fun bt111 => (spec_l92Batches.l1 kj4 x3_1 x4_1 1 s0_0 bt111.2 x4_1 (([] : List Int)) (wrap64 (bt109.1 * 10)) (wrap64 ((wrap64 (bt109.1 * 10)) + bt111.1))))) = some (r1, r2) := by rw [if_pos rfl] at H; exact H
      clear H
      have H := H1
      clear H1
      replace H := oB_q.mp H
      obtain ⟨⟨t109, t110⟩, A120, H⟩ := H
      replace H : ((spec_l6Rd_pick.f kj4 s0_0 t110 100).bind fun bt111 => (spec_l92Batches.l1 kj4 x3_1 x4_1 1 s0_0 bt111.2 x4_1 (([] : List Int)) (wrap64 (t109 * 10)) (wrap64 ((wrap64 (t109 * 10)) + bt111.1)))) = some (r1, r2) := H
      have A12 := Ae_q A120
      clear A120
      replace H := oB_q.mp H
      obtain ⟨⟨t111, t112⟩, A130, H⟩ := H
      replace H : (spec_l92Batches.l1 kj4 x3_1 x4_1 1 s0_0 t112 x4_1 (([] : List Int)) (wrap64 (t109 * 10)) (wrap64 ((wrap64 (t109 * 10)) + t111))) = some (r1, r2) := H
      have A13 := Ae_q A130
      clear A130
      obtain ⟨y113, hy113⟩ : ∃ y_ : List Int, y_ = (([] : List Int)) := ⟨_, rfl⟩
      replace H : (spec_l92Batches.l1 kj4 x3_1 x4_1 1 s0_0 t112 x4_1 y113 (wrap64 (t109 * 10)) (wrap64 ((wrap64 (t109 * 10)) + t111))) = some (r1, r2) := by first | (rw [hy113]; with_reducible exact H) | (have H2_ := (oS_q _ _).symm.trans H; rw [hy113]; with_reducible exact H2_) | (have H2_ := (oS_q _ _).symm.trans H; with_reducible exact H2_) | with_reducible exact H | (rw [hy113]; exact H) | exact H
      have Ny113 := Ae_q hy113
      clear hy113
      have H' := Ae_q H
      clear H
      go_wp2_with (first | ((with_reducible refine gC_q (f := 52) rfl ?_); (first | (refine gL_q (some 23) rfl rfl Try.func52 m9_q rfl #[.pointer (some ⟨g, 0, none⟩), .int .i64 20] rfl m0_q ?_; (with_reducible refine (spec_l6Rd_pick.calls kj4 g s0_0 x1001_4 20 t109 t110 w0 _ ?side1 ?side2 A12.out).mono ?_); (case side1 => exact m4_q); (case side2 => exact m3_q); rintro e w' ⟨rfl, hi, hb, hk⟩; refine ⟨_, rfl, ?_⟩; have n0_ := Ae_q (Kd.S_mono (Kd.S_keep (IsS82.apartS (show IsS82 w0 _ g s0_0 x1001_4 from by repeat (with_reducible first | exact HI0.out | apply i2_q | apply i0_q | apply i1_q | apply i3_q)) m10_q (by decide)) hk (fun _ h => h.2)) (fun _ h => h.1))) | (refine gL_q (some 29) rfl rfl Try.func52 m9_q rfl #[.pointer (some ⟨g, 0, none⟩), .int .i64 100] rfl m0_q ?_; (with_reducible refine (spec_l6Rd_pick.calls kj4 g s0_0 t110 100 t111 t112 w0 _ ?side1 ?side2 A13.out).mono ?_); (case side1 => exact m4_q); (case side2 => exact m3_q); rintro e w' ⟨rfl, hi, hb, hk⟩; refine ⟨_, rfl, ?_⟩; have n0_ := Ae_q (Kd.S_mono (Kd.S_keep (IsS82.apartS (show IsS82 w0 _ g s0_0 t110 from by repeat (with_reducible first | exact HI0.out | apply i2_q | apply i0_q | apply i1_q | apply i3_q)) m10_q (by decide)) hk (fun _ h => h.2)) (fun _ h => h.1)))); have n1_ := Ae_q (kT_q m2_q hk (.inl rfl)); have n2_ := Ae_q (hb); have n3_ := Ae_q (hi); clear HO_3; clear HK; clear HB; clear HI0; have HO_3 := n0_; have HK := n1_; have HB := n2_; have HI0 := n3_; clear n0_ n1_ n2_ n3_; (try clear hb); (try clear hb2); (try clear hk); (try clear hi)) | ((with_reducible refine gD_q (N := 31) rfl ?_); (try (refine gate_guard (by rfl) ?_; dsimp only)); refine Kd.R_lit kI_q _ 3 ?hg (N := 31) ?hd (xs := ([] : List Int)) (inner := []) (ok := fun _ => True) (okp := fun _ => True) ?hr ?hp (fun _ hk => hk) trivial (bR_q _ _) (nR_q _) (by simp) ?_; (case hd => rfl); (case hg => rfl); (case hr => exact m11_q); (case hp => exact m42_q); intro v114 w16 ho17 hb hg_ hnew_; clear hg_ hnew_; (first | rw [← Ny113.out] at ho17 | (simp only [Int.reduceToNat] at ho17; rw [← Ny113.out] at ho17)); replace HO_3 := Ae_q (Kd.S_elder' m10_q (rB_q ho17) hb); have HO115 := Ae_q (rL_q ho17 (keep_size (w := w) (g := g) (row := none) m2_q)); replace HK := Ae_q (kT_q m2_q (kO_q hb g none) (.inl rfl)); replace HB := Ae_q (bT_q m3_q hb); replace HI0 := Ae_q (IsS82.below m4_q hb); clear hb ho17; obtain ⟨Ao18, co18, eo18⟩ := rS_q HO115.out; subst eo18) | ((with_reducible refine gD_q (N := 6) rfl ?_); (try (refine gate_guard (by rfl) ?_; dsimp only)); refine bE_q ?hg (N := 6) ?hd (cs := #[.int .i64 0, .slice none 0 0, .int .i64 0, .int .i64 0]) (t := 39) ?hr ?_; (case hd => rfl); (case hg => rfl); (case hr => exact m11_q); intro gb116 hg w19 hbox hb; replace HO_3 := Ae_q (Kd.S_below (Kd.S_elderB m10_q gb116 (Nat.le_of_eq hg.symm)) hb); replace HO115 := Ae_q (rO_q (rup HO115.out) hb); replace HB := Ae_q (bT_q m3_q hb); have BK116 := Ae_q (hbox); have GW116 := Ae_q ((by rw [hg]; exact (keep_size (w := w) (g := g) (row := none) m2_q) : w.heap.size ≤ gb116)); have GE116 := Ae_q ((nT_q HW0.out (by rw [hg]; exact (keep_size (w := w) (g := g) (row := none) m2_q) : w.heap.size ≤ gb116) : w0.heap.size ≤ gb116)); replace HK := Ae_q (kT_q m2_q (kO_q hb g none) (.inl rfl)); have NB0_116 := Ae_q ((by rw [hg]; exact nL_q (IsS82.lt (show IsS82 w0 _ g s0_0 t112 from by repeat (with_reducible first | exact HI0.out | apply i2_q | apply i0_q | apply i1_q | apply i3_q))) : g ≠ gb116)); have NB116_0 := Ae_q ((by rw [hg]; exact nG_q (IsS82.lt (show IsS82 w0 _ g s0_0 t112 from by repeat (with_reducible first | exact HI0.out | apply i2_q | apply i0_q | apply i1_q | apply i3_q))) : gb116 ≠ g)); replace HI0 := Ae_q (IsS82.below m4_q hb); clear hb hbox hg; have hnb20 := NB116_0.out; have hnc20 := NB0_116.out; have hcz21_0 : cI w19 gb116 0 0 := cZ BK116 0 rfl; have hcz21_1 : w19.cell? ⟨gb116, 1, none⟩ = some (.slice none 0 0) := (bC_q BK116.out 1).trans rfl; have hcz21_2 : cI w19 gb116 2 0 := cZ BK116 2 rfl; have hcz21_3 : cI w19 gb116 3 0 := cZ BK116 3 rfl; have hfz21_0 := bF_q BK116.out 0; have hfz21_1 := bF_q BK116.out 1; have hfz21_2 := bF_q BK116.out 2; have hfz21_3 := bF_q BK116.out 3))
      go_loopg [7] kj4 (fun kq v7 w' => ∃ (x7_3 : Int) (x1001_3 : Int) (x117001_3 : List Int) (u117001 : Value), v7 = .int .i64 x7_3 ∧ Aside0 (spec_l92Batches.l1 kq x3_1 x4_1 x7_3 s0_0 x1001_3 x4_1 x117001_3 (wrap64 (t109 * 10)) (wrap64 ((wrap64 (t109 * 10)) + t111)) = some (r1, r2)) ∧ Aside0 (kq ≤ kj4) ∧ Aside0 (Kd.S k39 39 w' w.heap.size (fun k_ => some k_ ≠ (u117001 : Value).ownBlock ∧ k_ ≠ gb116) u3 x3_1) ∧ Aside0 (Kd.R kI_q 3 w' w.heap.size (fun _ => True) u117001 x117001_3) ∧ Aside0 (w'.heap[gb116]? = some (.cells #[.int .i64 x4_1, u117001, .int .i64 (wrap64 (t109 * 10)), .int .i64 (wrap64 ((wrap64 (t109 * 10)) + t111))] 39 (0, 0))) ∧ Aside0 (IsS82 w0 w' g s0_0 x1001_3) ∧ Aside0 (KeepBut w w' g none) ∧ Aside0 (Below w0.heap.size w0 w'))
      case atStart => exact ⟨(1), (t112), (y113), (.slice Ao18 y113.length co18), m5_q, H', ⟨nR_q _⟩, ⟨by (with_reducible repeat (first | apply tA_q | apply tN_q | apply tD_q)); exact Kd.S_mono (Kd.S_far (p := ⟨gb116, 3, none⟩) (Kd.S_far (p := ⟨gb116, 2, none⟩) (Kd.S_far (p := ⟨gb116, 1, none⟩) (Kd.S_far (p := ⟨gb116, 0, none⟩) (Kd.S_mono HO_3.out (fun k_ hk => (⟨hk, hk.2⟩ : _ ∧ k_ ≠ gb116))) (fun _ hk => hk.2) (.int .i64 x4_1)) (fun _ hk => hk.2) (.slice Ao18 y113.length co18)) (fun _ hk => hk.2) (.int .i64 (wrap64 (t109 * 10)))) (fun _ hk => hk.2) (.int .i64 (wrap64 ((wrap64 (t109 * 10)) + t111)))) (fun _ hk => ⟨hk.1.1.2, hk.1.2⟩)⟩, ⟨by (with_reducible repeat (first | apply rA_q | apply rN_q | apply rD_q)); exact rM_q (Kd.R_far (p := ⟨gb116, 3, none⟩) (Kd.R_far (p := ⟨gb116, 2, none⟩) (Kd.R_far (p := ⟨gb116, 1, none⟩) (Kd.R_far (p := ⟨gb116, 0, none⟩) (Kd.R_types HO115.out BK116.out (by decide)) (fun _ hk => hk.2) (.int .i64 x4_1)) (fun _ hk => hk.2) (.slice Ao18 y113.length co18)) (fun _ hk => hk.2) (.int .i64 (wrap64 (t109 * 10)))) (fun _ hk => hk.2) (.int .i64 (wrap64 ((wrap64 (t109 * 10)) + t111)))) (fun _ hk => trivial)⟩, ⟨by (with_reducible repeat (first | refine bN_q ?_ _ | refine bW_q ?_ | refine bL_q ?_ _)); refine blk_put (cs := #[.int .i64 x4_1, .slice Ao18 y113.length co18, .int .i64 (wrap64 (t109 * 10)), .int .i64 0]) ?_ 3 _ rfl; (with_reducible repeat (first | refine bN_q ?_ _ | refine bW_q ?_ | refine bL_q ?_ _)); refine blk_put (cs := #[.int .i64 x4_1, .slice Ao18 y113.length co18, .int .i64 0, .int .i64 0]) ?_ 2 _ rfl; (with_reducible repeat (first | refine bN_q ?_ _ | refine bW_q ?_ | refine bL_q ?_ _)); refine blk_put (cs := #[.int .i64 x4_1, .slice none 0 0, .int .i64 0, .int .i64 0]) ?_ 1 _ rfl; (with_reducible repeat (first | refine bN_q ?_ _ | refine bW_q ?_ | refine bL_q ?_ _)); refine blk_put (cs := #[.int .i64 0, .slice none 0 0, .int .i64 0, .int .i64 0]) ?_ 0 _ rfl; (with_reducible repeat (first | refine bN_q ?_ _ | refine bW_q ?_ | refine bL_q ?_ _)); exact BK116.out⟩, ⟨m14_q⟩, ⟨m12_q⟩, ⟨m13_q⟩⟩
      case round =>
       clear H'
       try clear c1
       try clear c2
       try clear p2
       try clear c4
       try clear c4b0
       try clear c5
       try clear p6
       try clear c7
       try clear c7b0
       try clear c7b1
       try clear c11
       try clear c20
       try clear hcz21_0
       try clear hcz21_1
       try clear hcz21_2
       try clear hcz21_3
       try clear hfz21_0
       try clear hfz21_1
       try clear hfz21_2
       try clear hfz21_3
       try clear p2
       obtain ⟨x7_3, x1001_3, x117001_3, u117001, rfl, HA, HK3, HO_3, HO_117001, BK116, HI0, HK, HB⟩ := hrel
       cases gk with
       | zero => exact absurd HA.out (by simp [spec_l92Batches.l1])
       | succ k3 =>
        have H := HA.out
        clear HA
        simp only [spec_l92Batches.l1] at H
        by_cases c22 : x7_3 ≤ 5
        rotate_left
        ·rw [if_neg c22] at H
         have c22b0 : decide (x7_3 ≤ 5) = false := dF_q c22
         clear c22
         by_cases c33 : x3_1.length < 2932031007402
         rotate_left
         ·rw [if_neg c33] at H
          exact absurd H (by simp)
         rw [if_pos c33] at H
         have LMc33 := Ae_q c33
         clear c33
         obtain ⟨y122, hy122⟩ : ∃ y_ : List (S39), y_ = (x3_1 ++ [(⟨x4_1, x117001_3, (wrap64 (t109 * 10)), (wrap64 ((wrap64 (t109 * 10)) + t111))⟩ : S39)]) := ⟨_, rfl⟩
         replace H : (spec_l92Batches.l0 k3 y122 (wrap64 (x4_1 + 1)) s0_0 x1001_3) = some (r1, r2) := by first | (rw [hy122]; with_reducible exact H) | (have H2_ := (oS_q _ _).symm.trans H; rw [hy122]; with_reducible exact H2_) | (have H2_ := (oS_q _ _).symm.trans H; with_reducible exact H2_) | with_reducible exact H | (rw [hy122]; exact H) | exact H
         have Ny122 := Ae_q hy122
         clear hy122
         have H' := Ae_q H
         clear H
         have hnb34 := NB116_0.out
         have hnc34 := NB0_116.out
         have hcz35_0 : cI wr gb116 0 x4_1 := cZ BK116 0 rfl
         have hcz35_1 : wr.cell? ⟨gb116, 1, none⟩ = some (u117001) := (bC_q BK116.out 1).trans rfl
         have hcz35_2 : cI wr gb116 2 (wrap64 (t109 * 10)) := cZ BK116 2 rfl
         have hcz35_3 : cI wr gb116 3 (wrap64 ((wrap64 (t109 * 10)) + t111)) := cZ BK116 3 rfl
         have hfz35_0 := bF_q BK116.out 0
         have hfz35_1 := bF_q BK116.out 1
         have hfz35_2 := bF_q BK116.out 2
         have hfz35_3 := bF_q BK116.out 3
         obtain ⟨Ao37, co37, eo37⟩ := rS_q HO_117001.out
         subst eo37
         go_wp2_with (first | ((with_reducible refine gate_builtin (b := .append) (xs := #[.tmp 46, .tmp 48]) rfl ?_); (try (refine gate_guard (by rfl) ?_; dsimp only)); at_builtin; refine Kd.S_append k39 w.heap.size rfl (.tmp 46) (.tmp 48) 23 39 (.agg #[(.int .i64 0), (.slice none 0 0), (.int .i64 0), (.int .i64 0)]) 48 rfl Try.underlying23 info39 rfl (by decide) (by omega) u3 x3_1 (⟨x4_1, x117001_3, (wrap64 (t109 * 10)), (wrap64 ((wrap64 (t109 * 10)) + t111))⟩ : S39) [.int .i64 x4_1, .slice Ao37 x117001_3.length co37, .int .i64 (wrap64 (t109 * 10)), .int .i64 (wrap64 ((wrap64 (t109 * 10)) + t111))] (fun k_ => k_ ≠ gb116) (fun k_ => some k_ = (.slice Ao37 x117001_3.length co37 : Value).ownBlock) rfl rfl ?aP (fun k_ hk_ => ((rM_q (ok' := fun k_ => ((fun k_ => k_ ≠ gb116)) k_ ∧ some k_ ≠ (u3 : Value).ownBlock) (Kd.R_types (Kd.R_apart' (HO_117001.out) (Kd.S_typed HO_3.out) (by decide)) BK116.out (by decide)) (fun k_ hk => ⟨hk.2, hk.1.2⟩))).1 k_ hk_.symm) ?aF ?aO (bR_q _ _) ?aS ?aL ?_; (case aP => exact k39_mkM _ _ _ (⟨x4_1, x117001_3, (wrap64 (t109 * 10)), (wrap64 ((wrap64 (t109 * 10)) + t111))⟩ : S39) (rM_q (Kd.R_tight rfl (rM_q (ok' := fun k_ => ((fun k_ => k_ ≠ gb116)) k_ ∧ some k_ ≠ (u3 : Value).ownBlock) (Kd.R_types (Kd.R_apart' (HO_117001.out) (Kd.S_typed HO_3.out) (by decide)) BK116.out (by decide)) (fun k_ hk => ⟨hk.2, hk.1.2⟩))) (fun _ h_ => h_))); (case aF => exact (fun k_ hk => Kd.freshB (g := gb116) (o := .cells #[.int .i64 x4_1, .slice Ao37 x117001_3.length co37, .int .i64 (wrap64 (t109 * 10)), .int .i64 (wrap64 ((wrap64 (t109 * 10)) + t111))] 39 (0, 0)) (bup BK116.out) k_ hk)); (case aO => exact (by (with_reducible repeat (first | apply tA_q | apply tN_q | apply tD_q)); exact Kd.S_mono HO_3.out (fun k_ hk => ⟨hk.2, fun e_ => hk.1 e_⟩))); (case aS => exact (keep_size (w := w) (g := g) (row := none) m12_q)); (case aL => have := LMc33.out; omega); intro v123 w36 ho hb hg hat; rw [← Ny122.out] at ho; replace BK116 := Ae_q (bG_q (g := gb116) (o := .cells #[.int .i64 x4_1, .slice Ao37 x117001_3.length co37, .int .i64 (wrap64 (t109 * 10)), .int .i64 (wrap64 ((wrap64 (t109 * 10)) + t111))] 39 (0, 0)) (bup BK116.out) hg (Kd.S_away HO_3.out (fun _ hk => hk.2))); replace HB := Ae_q (below_weaken m13_q HL.out hb); replace HI0 := Ae_q (IsS82.grown m14_q hg (IsS82.own_neS HI0.out HO_3.out (by decide))); replace HK := Ae_q (kT_q m12_q (KeepBut.of_grown hg g) (Kd.S_base2 HO_3.out)); have HO124 := Ae_q (ho); clear HO_3; clear HO_117001; clear ho hb hg hat))
         go_roundg k3
         case measure => have := HK1.out; have := HJ4.out; have := HK3.out; omega
         case rel => exact ⟨(y122), (wrap64 (x4_1 + 1)), (x1001_3), m5_q, H', ⟨m44_q⟩, ⟨by (with_reducible repeat (first | apply tA_q | apply tN_q | apply tD_q)); exact Kd.S_mono HO124.out (fun _ hk => trivial)⟩, ⟨m14_q⟩, ⟨m12_q⟩, ⟨m13_q⟩⟩
        rw [if_pos c22] at H
        have c22b0 : decide (x7_3 ≤ 5) = true := dT_q c22
        clear c22
        replace H := oB_q.mp H
        obtain ⟨⟨t117, t118⟩, A230, H⟩ := H
        replace H : (if t117 = 0 then (if x117001_3.length < 17592186044416 then (spec_l92Batches.l1 k3 x3_1 x4_1 (wrap64 (x7_3 + 1)) s0_0 t118 x4_1 (x117001_3 ++ [x7_3]) (wrap64 (t109 * 10)) (wrap64 ((wrap64 (t109 * 10)) + t111))) else (none)) else (spec_l92Batches.l1 k3 x3_1 x4_1 (wrap64 (x7_3 + 1)) s0_0 t118 x4_1 x117001_3 (wrap64 (t109 * 10)) (wrap64 ((wrap64 (t109 * 10)) + t111)))) = some (r1, r2) := H
        have A23 := Ae_q A230
        clear A230
        by_cases c24 : t117 = 0
        rotate_left
        ·rw [if_neg c24] at H
         have c24b0 : (t117 == 0) = false := fN_q.mpr c24
         have c24b1 : (t117 != 0) = true := nI_q.mpr c24
         have H' := Ae_q H
         clear H
         go_wp2_with (first | ((with_reducible refine gC_q (f := 52) rfl ?_); refine gL_q (some 38) rfl rfl Try.func52 m9_q rfl #[.pointer (some ⟨g, 0, none⟩), .int .i64 3] rfl m0_q ?_; (with_reducible refine (spec_l6Rd_pick.calls k3 g s0_0 x1001_3 3 t117 t118 w0 _ ?side1 ?side2 A23.out).mono ?_); (case side1 => exact m14_q); (case side2 => exact m13_q); rintro e w' ⟨rfl, hi, hb, hk⟩; refine ⟨_, rfl, ?_⟩; replace HO_3 := Ae_q (Kd.S_mono (Kd.S_keep (IsS82.apartS (show IsS82 w0 _ g s0_0 x1001_3 from by repeat (with_reducible first | exact HI0.out | apply i2_q | apply i0_q | apply i1_q | apply i3_q | refine IsS82.far ?_ NB0_116.out _)) m10_q (by decide)) hk (fun _ h => h.2)) (fun _ h => h.1)); replace HO_117001 := Ae_q (rM_q (rK_q (IsS82.apart (show IsS82 w0 _ g s0_0 x1001_3 from by repeat (with_reducible first | exact HI0.out | apply i2_q | apply i0_q | apply i1_q | apply i3_q | refine IsS82.far ?_ NB0_116.out _)) (rup HO_117001.out) (by decide)) hk (fun _ h => h.2)) (fun _ h => h.1)); replace BK116 := Ae_q (kB_q hk (g' := gb116) (o := .cells #[.int .i64 x4_1, u117001, .int .i64 (wrap64 (t109 * 10)), .int .i64 (wrap64 ((wrap64 (t109 * 10)) + t111))] 39 (0, 0)) (bup BK116.out) NB116_0.out (by simp)); replace HK := Ae_q (kT_q m12_q hk (.inl rfl)); replace HB := Ae_q (hb); replace HI0 := Ae_q (hi); (try clear hb); (try clear hb2); (try clear hk); (try clear hi)))
         go_roundg k3
         case measure => have := HK1.out; have := HJ4.out; have := HK3.out; omega
         case rel => exact ⟨(wrap64 (x7_3 + 1)), (t118), (x117001_3), (u117001), m5_q, H', ⟨m44_q⟩, ⟨m10_q⟩, ⟨rup HO_117001.out⟩, ⟨bup BK116.out⟩, ⟨m14_q⟩, ⟨m12_q⟩, ⟨m13_q⟩⟩
        rw [if_pos c24] at H
        have c24b0 : (t117 == 0) = true := beq_iff_eq.mpr c24
        have c24b1 : (t117 != 0) = false := nE_q.mpr c24
        clear c24
        by_cases c25 : x117001_3.length < 17592186044416
        rotate_left
        ·rw [if_neg c25] at H
         exact absurd H (by simp)
        rw [if_pos c25] at H
        have LMc25 := Ae_q c25
        clear c25
        obtain ⟨y119, hy119⟩ : ∃ y_ : List Int, y_ = (x117001_3 ++ [x7_3]) := ⟨_, rfl⟩
        replace H : (spec_l92Batches.l1 k3 x3_1 x4_1 (wrap64 (x7_3 + 1)) s0_0 t118 x4_1 y119 (wrap64 (t109 * 10)) (wrap64 ((wrap64 (t109 * 10)) + t111))) = some (r1, r2) := by first | (rw [hy119]; with_reducible exact H) | (have H2_ := (oS_q _ _).symm.trans H; rw [hy119]; with_reducible exact H2_) | (have H2_ := (oS_q _ _).symm.trans H; with_reducible exact H2_) | with_reducible exact H | (rw [hy119]; exact H) | exact H
        have Ny119 := Ae_q hy119
        clear hy119
        have H' := Ae_q H
        clear H
        go_wp2_with (first | ((with_reducible refine gC_q (f := 52) rfl ?_); refine gL_q (some 38) rfl rfl Try.func52 m9_q rfl #[.pointer (some ⟨g, 0, none⟩), .int .i64 3] rfl m0_q ?_; (with_reducible refine (spec_l6Rd_pick.calls k3 g s0_0 x1001_3 3 t117 t118 w0 _ ?side1 ?side2 A23.out).mono ?_); (case side1 => exact m14_q); (case side2 => exact m13_q); rintro e w26 ⟨rfl, hi, hb, hk⟩; refine ⟨_, rfl, ?_⟩; replace HO_3 := Ae_q (Kd.S_mono (Kd.S_keep (IsS82.apartS (show IsS82 w0 _ g s0_0 x1001_3 from by repeat (with_reducible first | exact HI0.out | apply i2_q | apply i0_q | apply i1_q | apply i3_q | refine IsS82.far ?_ NB0_116.out _)) m10_q (by decide)) hk (fun _ h => h.2)) (fun _ h => h.1)); replace HO_117001 := Ae_q (rM_q (rK_q (IsS82.apart (show IsS82 w0 _ g s0_0 x1001_3 from by repeat (with_reducible first | exact HI0.out | apply i2_q | apply i0_q | apply i1_q | apply i3_q | refine IsS82.far ?_ NB0_116.out _)) (rup HO_117001.out) (by decide)) hk (fun _ h => h.2)) (fun _ h => h.1)); replace BK116 := Ae_q (kB_q hk (g' := gb116) (o := .cells #[.int .i64 x4_1, u117001, .int .i64 (wrap64 (t109 * 10)), .int .i64 (wrap64 ((wrap64 (t109 * 10)) + t111))] 39 (0, 0)) (bup BK116.out) NB116_0.out (by simp)); replace HK := Ae_q (kT_q m12_q hk (.inl rfl)); replace HB := Ae_q (hb); replace HI0 := Ae_q (hi); (try clear hb); (try clear hb2); (try clear hk); (try clear hi); have hnb27 := NB116_0.out; have hnc27 := NB0_116.out; have hcz28_0 : cI w26 gb116 0 x4_1 := cZ BK116 0 rfl; have hcz28_1 : w26.cell? ⟨gb116, 1, none⟩ = some (u117001) := (bC_q BK116.out 1).trans rfl; have hcz28_2 : cI w26 gb116 2 (wrap64 (t109 * 10)) := cZ BK116 2 rfl; have hcz28_3 : cI w26 gb116 3 (wrap64 ((wrap64 (t109 * 10)) + t111)) := cZ BK116 3 rfl; have hfz28_0 := bF_q BK116.out 0; have hfz28_1 := bF_q BK116.out 1; have hfz28_2 := bF_q BK116.out 2; have hfz28_3 := bF_q BK116.out 3) | ((with_reducible refine gate_builtin (b := .append) (xs := #[.tmp 41, .tmp 43]) rfl ?_); (try (refine gate_guard (by rfl) ?_; dsimp only)); at_builtin; refine Kd.R_append kI_q w.heap.size rfl (.tmp 41) (.tmp 43) 34 3 (.int .i64 0) 8 rfl Try.underlying34 info3 rfl (by decide) (by omega) u117001 x117001_3 x7_3 [.int .i64 x7_3] (fun _ => True) (fun _ => False) rfl rfl ?aP (fun _ hk => hk.elim) ?aF ?aO (bR_q _ _) ?aS ?aL ?_; (case aP => exact rfl); (case aF => exact (fun _ _ => trivial)); (case aO => exact (rup HO_117001.out)); (case aS => exact (keep_size (w := w) (g := g) (row := none) m12_q)); (case aL => have := LMc25.out; omega); intro v120 w29 ho hb hg hat; rw [← Ny119.out] at ho; replace HO_3 := Ae_q (Kd.S_after (ok := (fun k_ => k_ ≠ gb116)) (by (with_reducible repeat (first | apply tA_q | apply tN_q | apply tD_q)); exact Kd.S_mono HO_3.out (fun _ hk => ⟨hk.2, hk.1⟩)) hg hat); replace BK116 := Ae_q (bG_q (g := gb116) (o := .cells #[.int .i64 x4_1, u117001, .int .i64 (wrap64 (t109 * 10)), .int .i64 (wrap64 ((wrap64 (t109 * 10)) + t111))] 39 (0, 0)) (bup BK116.out) hg (Kd.R_ne HO_117001.out BK116.out (by decide))); replace HB := Ae_q (below_weaken m13_q HL.out hb); replace HI0 := Ae_q (IsS82.grown m14_q hg (IsS82.own_ne HI0.out HO_117001.out (by decide))); replace HK := Ae_q (kT_q m12_q (KeepBut.of_grown hg g) (Kd.R_base2 HO_117001.out)); have HO121 := Ae_q (ho); clear HO_117001; clear ho hb hg hat; obtain ⟨Ao30, co30, eo30⟩ := rS_q HO121.out; subst eo30; have hcz31_0 : cI w29 gb116 0 x4_1 := cZ BK116 0 rfl; have hcz31_1 : w29.cell? ⟨gb116, 1, none⟩ = some (u117001) := (bC_q BK116.out 1).trans rfl; have hcz31_2 : cI w29 gb116 2 (wrap64 (t109 * 10)) := cZ BK116 2 rfl; have hcz31_3 : cI w29 gb116 3 (wrap64 ((wrap64 (t109 * 10)) + t111)) := cZ BK116 3 rfl; have hfz31_0 := bF_q BK116.out 0; have hfz31_1 := bF_q BK116.out 1; have hfz31_2 := bF_q BK116.out 2; have hfz31_3 := bF_q BK116.out 3))
        go_roundg k3
        case measure => have := HK1.out; have := HJ4.out; have := HK3.out; omega
        case rel => exact ⟨(wrap64 (x7_3 + 1)), (t118), (y119), (.slice Ao30 y119.length co30), m5_q, H', ⟨m44_q⟩, ⟨by (with_reducible repeat (first | apply tA_q | apply tN_q | apply tD_q)); exact Kd.S_mono (Kd.S_far (p := ⟨gb116, 1, none⟩) (Kd.S_mono HO_3.out (fun k_ hk => (⟨hk, hk.1⟩ : _ ∧ k_ ≠ gb116))) (fun _ hk => hk.2) (.slice Ao30 y119.length co30)) (fun _ hk => ⟨hk.1.2, hk.1.1⟩)⟩, ⟨by (with_reducible repeat (first | apply rA_q | apply rN_q | apply rD_q)); exact rM_q (Kd.R_far (p := ⟨gb116, 1, none⟩) (Kd.R_types HO121.out BK116.out (by decide)) (fun _ hk => hk.2) (.slice Ao30 y119.length co30)) (fun _ hk => trivial)⟩, ⟨by (with_reducible repeat (first | refine bN_q ?_ _ | refine bW_q ?_ | refine bL_q ?_ _)); refine blk_put (cs := #[.int .i64 x4_1, u117001, .int .i64 (wrap64 (t109 * 10)), .int .i64 (wrap64 ((wrap64 (t109 * 10)) + t111))]) ?_ 1 _ rfl; (with_reducible repeat (first | refine bN_q ?_ _ | refine bW_q ?_ | refine bL_q ?_ _)); exact BK116.out⟩, ⟨m14_q⟩, ⟨m12_q⟩, ⟨m13_q⟩⟩
   rw [if_neg c4] at H
   have c4b0 : decide (x4_1 ≤ 7) = false := dF_q c4
   clear c4
   by_cases c38 : (x3_1.length : Int) > 0
   rotate_left
   ·rw [if_neg c38] at H
    have c38b0 : decide (0 < (x3_1.length : Int)) = false := dF_q c38
    have c38b1 : decide (0 < x3_1.length) = false := dF_q (by omega)
    clear c38
    simp only [oE_q, pE_q] at H
    obtain ⟨rfl, rfl⟩ := H
    obtain ⟨Ao72, co72, eo72⟩ := Kd.S_slice HO_3.out
    subst eo72
    go_wp2
    go_ret
    exact ⟨_, m6_q, toN_ HO_3.out, m4_q, m3_q, m2_q⟩
   rw [if_pos c38] at H
   have c38b0 : decide (0 < (x3_1.length : Int)) = true := dT_q c38
   have c38b1 : decide (0 < x3_1.length) = true := dT_q (by omega)
   clear c38
   replace H := oB_q.mp H
   obtain ⟨⟨t125, t126⟩, A390, H⟩ := H
   replace H : ((spec_l6Rd_pick.f k1 s0_0 t126 30).bind fun bt127 => (if bt127.1 = 0 then (if 0 ≤ t125 then (if t125 < (x3_1.length : Int) then (some ((x3_1.set (t125 : Int).toNat (⟨(rd_T39 x3_1 t125).f0, (rd_T39 x3_1 t125).f1, (rd_T39 x3_1 t125).f2, wrap64 (((rd_T39 x3_1 t125).f2) - 1)⟩ : S39)), bt127.2)) else (none)) else (none)) else (if bt127.1 = 1 then (if 0 ≤ t125 then (if t125 < (x3_1.length : Int) then (if x3_1.length < 2932031007402 then (some ((x3_1 ++ [(⟨(rd_T39 x3_1 t125).f0, (rd_T39 x3_1 t125).f1, (rd_T39 x3_1 t125).f2, (rd_T39 x3_1 t125).f3⟩ : S39)]), bt127.2)) else (none)) else (none)) else (none)) else (if bt127.1 = 2 then (if 0 ≤ t125 then (if t125 < (x3_1.length : Int) then (if ((rd_T39 x3_1 t125).f1).length < 17592186044416 then (some ((x3_1.set (t125 : Int).toNat (⟨(rd_T39 x3_1 t125).f0, (((rd_T39 x3_1 t125).f1) ++ [1]), (rd_T39 x3_1 t125).f2, (rd_T39 x3_1 t125).f3⟩ : S39)), bt127.2)) else (none)) else (none)) else (none)) else (some (x3_1, bt127.2)))))) = some (r1, r2) := H
   have A39 := Ae_q A390
   clear A390
   replace H := oB_q.mp H
   obtain ⟨⟨t127, t128⟩, A400, H⟩ := H
   replace H : (if t127 = 0 then (if 0 ≤ t125 then (if t125 < (x3_1.length : Int) then (some ((x3_1.set (t125 : Int).toNat (⟨(rd_T39 x3_1 t125).f0, (rd_T39 x3_1 t125).f1, (rd_T39 x3_1 t125).f2, wrap64 (((rd_T39 x3_1 t125).f2) - 1)⟩ : S39)), t128)) else (none)) else (none)) else (if t127 = 1 then (if 0 ≤ t125 then (if t125 < (x3_1.length : Int) then (if x3_1.length < 2932031007402 then (some ((x3_1 ++ [(⟨(rd_T39 x3_1 t125).f0, (rd_T39 x3_1 t125).f1, (rd_T39 x3_1 t125).f2, (rd_T39 x3_1 t125).f3⟩ : S39)]), t128)) else (none)) else (none)) else (none)) else (if t127 = 2 then (if 0 ≤ t125 then (if t125 < (x3_1.length : Int) then (if ((rd_T39 x3_1 t125).f1).length < 17592186044416 then (some ((x3_1.set (t125 : Int).toNat (⟨(rd_T39 x3_1 t125).f0, (((rd_T39 x3_1 t125).f1) ++ [1]), (rd_T39 x3_1 t125).f2, (rd_T39 x3_1 t125).f3⟩ : S39)), t128)) else (none)) else (none)) else (none)) else (some (x3_1, t128))))) = some (r1, r2) := H
   have A40 := Ae_q A400
   clear A400
   by_cases c41 : t127 = 0
   ·rw [if_pos c41] at H
    have c41b0 : (t127 == 0) = true := beq_iff_eq.mpr c41
    have c41b1 : (t127 != 0) = false := nE_q.mpr c41
    clear c41
    by_cases c42 : 0 ≤ t125
    rotate_left
    ·rw [if_neg c42] at H
     exact absurd H (by simp)
    rw [if_pos c42] at H
    have c42b0 : decide (0 ≤ t125) = true := dT_q c42
    clear c42
    by_cases c43 : t125 < (x3_1.length : Int)
    rotate_left
    ·rw [if_neg c43] at H
     exact absurd H (by simp)
    rw [if_pos c43] at H
    have c43b0 : decide (t125 < (x3_1.length : Int)) = true := dT_q c43
    clear c43
    obtain ⟨y130, hy130⟩ : ∃ y_ : List (S39), y_ = (x3_1.set (t125 : Int).toNat (⟨(rd_T39 x3_1 t125).f0, (rd_T39 x3_1 t125).f1, (rd_T39 x3_1 t125).f2, wrap64 (((rd_T39 x3_1 t125).f2) - 1)⟩ : S39)) := ⟨_, rfl⟩
    replace H : (some (y130, t128)) = some (r1, r2) := by first | (rw [hy130]; with_reducible exact H) | (have H2_ := (oS_q _ _).symm.trans H; rw [hy130]; with_reducible exact H2_) | (have H2_ := (oS_q _ _).symm.trans H; with_reducible exact H2_) | with_reducible exact H | (rw [hy130]; exact H) | exact H
    have Ny130 := Ae_q hy130
    clear hy130
    simp only [oE_q, pE_q] at H
    obtain ⟨rfl, rfl⟩ := H
    obtain ⟨Ao45, co45, eo45⟩ := Kd.S_slice HO_3.out
    subst eo45
    go_wp2_with (first | ((with_reducible refine gC_q (f := 52) rfl ?_); refine gL_q (some 56) rfl rfl Try.func52 m9_q rfl #[.pointer (some ⟨g, 0, none⟩), .int .i64 (x3_1.length : Int)] rfl m0_q ?_; (with_reducible refine (spec_l6Rd_pick.calls k1 g s0_0 x1001_1 (x3_1.length : Int) t125 t126 w0 _ ?side1 ?side2 A39.out).mono ?_); (case side1 => exact m4_q); (case side2 => exact m3_q); rintro e w' ⟨rfl, hi, hb, hk⟩; refine ⟨_, rfl, ?_⟩; replace HO_3 := Ae_q (Kd.S_mono (Kd.S_keep (IsS82.apartS (show IsS82 w0 _ g s0_0 x1001_1 from by repeat (with_reducible first | exact HI0.out | apply i2_q | apply i0_q | apply i1_q | apply i3_q)) m10_q (by decide)) hk (fun _ h => h.2)) (fun _ h => h.1)); replace HK := Ae_q (kT_q m2_q hk (.inl rfl)); replace HB := Ae_q (hb); replace HI0 := Ae_q (hi); (try clear hb); (try clear hb2); (try clear hk); (try clear hi)) | ((with_reducible refine gC_q (f := 52) rfl ?_); refine gL_q (some 58) rfl rfl Try.func52 m9_q rfl #[.pointer (some ⟨g, 0, none⟩), .int .i64 30] rfl m0_q ?_; (with_reducible refine (spec_l6Rd_pick.calls k1 g s0_0 t126 30 t127 t128 w0 _ ?side1 ?side2 A40.out).mono ?_); (case side1 => exact m4_q); (case side2 => exact m3_q); rintro e w47 ⟨rfl, hi, hb, hk⟩; refine ⟨_, rfl, ?_⟩; replace HO_3 := Ae_q (Kd.S_mono (Kd.S_keep (IsS82.apartS (show IsS82 w0 _ g s0_0 t126 from by repeat (with_reducible first | exact HI0.out | apply i2_q | apply i0_q | apply i1_q | apply i3_q)) m10_q (by decide)) hk (fun _ h => h.2)) (fun _ h => h.1)); replace HK := Ae_q (kT_q m2_q hk (.inl rfl)); replace HB := Ae_q (hb); replace HI0 := Ae_q (hi); (try clear hb); (try clear hb2); (try clear hk); (try clear hi); have p129 : 0 ≤ (t125 : Int) := oD_q (by assumption); have q129 : t125 < (x3_1.length : Int) := oD_q (by assumption); obtain ⟨ad129, A129_1, c129_1, e129, hx129_0, hx129_1, hx129_2, hx129_3, hl129_1, hi129_1⟩ := at_T39 (Kd.S_reads' HO_3.out).2.2 t125 p129 q129; cases e129; obtain ⟨ce129, hce129, hMe129, hcc129⟩ := Kd.S_get HO_3.out z39 t125 p129 (by first | exact q129 | exact oD_q (by assumption) | (have e_ := (Kd.S_reads' HO_3.out).1; omega)); obtain ⟨ve129_1, rfl, ge129_1⟩ := k39_openM hMe129; have hv129_1 := hcc129 1 _ rfl; rw [add_field _ _ 1 (by omega)] at hv129_1; replace hv129_1 := oI_q (hv129_1.symm.trans hx129_1); rw [hv129_1] at ge129_1; have HL129_1 := Ae_q (show Kd.R kI_q 3 _ _ _ _ ((rd_T39 x3_1 t125).f1) from ge129_1); clear hv129_1 ge129_1; have HX129_1 := Ae_q hx129_1; clear hcc129 hce129; have HR129_1 := Ae_q hi129_1; have HC129_1 := Ae_q hl129_1; clear hi129_1 hl129_1; replace p129 := eq_true p129; replace q129 := eq_true q129; have p44 : 0 ≤ (t125 : Int) := oD_q (by assumption); have q44 : (t125 : Int) < ((x3_1.length : Int) : Int) := oD_q (by assumption); obtain ⟨go44, co44, eo44, gb44, gl44, cl44, HG44⟩ := Kd.S_form HO_3.out (by omega); (first | cases eo44 | (injection eo44 with ea_ en_ ec_; (first | subst ea_ | (injection ea_ with ea_; subst ea_)); subst ec_; clear en_)); have GB44 := Ae_q gb44; have GG44 := Ae_q HG44; clear gb44 gl44 HG44; (first | simp only [add_plain] at hx129_0 | skip); (first | simp only [add_plain] at hx129_1 | skip); (first | simp only [add_plain] at hx129_2 | skip); (first | simp only [add_plain] at hx129_3 | skip); obtain ⟨_, ce44, hcl44, hM44, hcc44, hfr44, _, _⟩ := Kd.S_elem HO_3.out z39 (t125 : Int) p44 q44; obtain ⟨ve44_1, rfl, ge44_1⟩ := k39_openM hM44; have hx44_0 : w47.cell? ⟨go44, (t125 : Int).toNat * 4, none⟩ = some (.int .i64 ((rd_T39 x3_1 t125).f0)) := hcc44 0 _ rfl; have hx44_1 : w47.cell? ⟨go44, (t125 : Int).toNat * 4 + 1, none⟩ = some (ve44_1) := hcc44 1 _ rfl; have hx44_2 : w47.cell? ⟨go44, (t125 : Int).toNat * 4 + 2, none⟩ = some (.int .i64 ((rd_T39 x3_1 t125).f2)) := hcc44 2 _ rfl; have hx44_3 : w47.cell? ⟨go44, (t125 : Int).toNat * 4 + 3, none⟩ = some (.int .i64 ((rd_T39 x3_1 t125).f3)) := hcc44 3 _ rfl; have hf44_0 : w47.frozen? ⟨go44, (t125 : Int).toNat * 4, none⟩ = false := hfr44 0; have hf44_1 : w47.frozen? ⟨go44, (t125 : Int).toNat * 4 + 1, none⟩ = false := hfr44 1; have hf44_2 : w47.frozen? ⟨go44, (t125 : Int).toNat * 4 + 2, none⟩ = false := hfr44 2; have hf44_3 : w47.frozen? ⟨go44, (t125 : Int).toNat * 4 + 3, none⟩ = false := hfr44 3; clear hcl44 hcc44 hfr44 hM44; replace p44 := eq_true p44; replace q44 := eq_true q44; have HX48 := Ae_q (show Kd.S k39 39 w47 w.heap.size (fun k_ => ((fun _ => True)) k_ ∧ ¬ ((fun _ => False)) k_) (.slice (some ⟨go44, 0, none⟩) x3_1.length co45) x3_1 from (by (with_reducible repeat (first | apply tA_q | apply tN_q | apply tD_q)); exact Kd.S_mono HO_3.out (fun k_ hk => ⟨trivial, fun e_ => e_⟩))); obtain ⟨oki48, ce48, hcl48, hM48, hcc48, hfr48, hoki48, hH48⟩ := Kd.S_elem HX48.out z39 (t125 : Int) (oD_q (by assumption)) (by have h_ : (t125 : Int) < ((x3_1.length : Int) : Int) := oD_q (by assumption); first | exact h_ | (have e_ := (Kd.S_reads' HO_3.out).1; omega) | simpa using h_); obtain ⟨ve48_1, rfl, ge48_1⟩ := k39_openM hM48; have HP48 := Kd.S_seg hH48 (oD_q (by assumption)) (by have h_ : (t125 : Int) < ((x3_1.length : Int) : Int) := oD_q (by assumption); first | exact h_ | (have e_ := (Kd.S_reads' HO_3.out).1; omega) | simpa using h_) (seg := [.int .i64 (wrap64 (((rd_T39 x3_1 t125).f2) - 1))]) (j := 3) (show 4 ≤ 4 from by decide) (x' := (⟨(rd_T39 x3_1 t125).f0, (rd_T39 x3_1 t125).f1, (rd_T39 x3_1 t125).f2, wrap64 (((rd_T39 x3_1 t125).f2) - 1)⟩ : S39)) (k39_mkM _ _ _ (⟨(rd_T39 x3_1 t125).f0, (rd_T39 x3_1 t125).f1, (rd_T39 x3_1 t125).f2, wrap64 (((rd_T39 x3_1 t125).f2) - 1)⟩ : S39) (rM_q ge48_1 (fun _ h_ => Or.inl h_))) (fun _ hk => hk) (fun k_ hk_ => hk_.elim); have hx48_3 := hcc48 3 _ rfl; (try simp only [show (k39).sz = 4 from rfl, Nat.mul_one, Nat.add_zero] at hx48_3); have hf48_3 := hfr48 3; (try simp only [show (k39).sz = 4 from rfl, Nat.mul_one, Nat.add_zero] at hf48_3); clear hcl48 hcc48 hfr48 hM48 hoki48 hH48) | ((with_reducible refine gate_store (t := 3) (p := 70) rfl ?_); refine store_event (t := 3) (p := 70) (v := ?vo_w49) (w1 := (w47.setCell ⟨go44, (t125 : Int).toNat * 4 + 3, none⟩ (.int .i64 (wrap64 (((rd_T39 x3_1 t125).f2) - 1))))) ?hg ?ho ?hn ?hr ?_; (case ho => rfl); (case hg => rfl); (case hn => rfl); (case hr => exact m11_q); intro w49 hw; have hg : w47.grownBy w49 (some go44) := (by rw [hw]; exact HP48.2); have hp_ : Kd.S k39 39 w49 w.heap.size (fun _ => True) (.slice (some ⟨go44, 0, none⟩) x3_1.length co45) y130 := (by rw [hw, Ny130.out]; exact HP48.1); clear HP48; replace HI0 := Ae_q (IsS82.grown m4_q hg (IsS82.own_neS HI0.out HO_3.out (by decide))); replace HL129_1 := Ae_q (rF_q (v := (.slice (some ⟨go44, 0, none⟩) x3_1.length co45)) (v1 := (.slice (some ⟨go44, 0, none⟩) x3_1.length co45)) (ok := (fun _ => True)) (by (with_reducible repeat (first | apply rA_q | apply rN_q | apply rD_q)); exact HL129_1.out) hg (.inl rfl)); replace HB := Ae_q ((by rw [hw]; exact bS_q (HB.out) (nT_q HL.out GB44.out) : Below w0.heap.size w0 w49)); replace HK := Ae_q (kT_q m2_q (KeepBut.of_grown hg g) (Kd.S_base2 HO_3.out)); replace HO_3 := Ae_q (hp_); clear hg hw hp_))
    go_ret
    exact ⟨_, m6_q, toN_ HO_3.out, m4_q, m3_q, m2_q⟩
   rw [if_neg c41] at H
   have c41b0 : (t127 == 0) = false := fN_q.mpr c41
   have c41b1 : (t127 != 0) = true := nI_q.mpr c41
   by_cases c50 : t127 = 1
   ·rw [if_pos c50] at H
    replace HO_3 : Aside0 (Kd.N k39 39 _ w.heap.size (fun k_ => (((w.heap.size ≤ k_)) ∧ k_ ≠ g)) _ _) := Ae_q (toN_g HO_3.out HGL.out)
    have c50b0 : (t127 == 1) = true := beq_iff_eq.mpr c50
    have c50b1 : (t127 != 1) = false := nE_q.mpr c50
    clear c50
    by_cases c51 : 0 ≤ t125
    rotate_left
    ·rw [if_neg c51] at H
     exact absurd H (by simp)
    rw [if_pos c51] at H
    have c51b0 : decide (0 ≤ t125) = true := dT_q c51
    clear c51
    by_cases c52 : t125 < (x3_1.length : Int)
    rotate_left
    ·rw [if_neg c52] at H
     exact absurd H (by simp)
    rw [if_pos c52] at H
    have c52b0 : decide (t125 < (x3_1.length : Int)) = true := dT_q c52
    clear c52
    by_cases c53 : x3_1.length < 2932031007402
    rotate_left
    ·rw [if_neg c53] at H
     exact absurd H (by simp)
    rw [if_pos c53] at H
    have LMc53 := Ae_q c53
    clear c53
    obtain ⟨y132, hy132⟩ : ∃ y_ : List (S39), y_ = (x3_1 ++ [(⟨(rd_T39 x3_1 t125).f0, (rd_T39 x3_1 t125).f1, (rd_T39 x3_1 t125).f2, (rd_T39 x3_1 t125).f3⟩ : S39)]) := ⟨_, rfl⟩
    replace H : (some (y132, t128)) = some (r1, r2) := by first | (rw [hy132]; with_reducible exact H) | (have H2_ := (oS_q _ _).symm.trans H; rw [hy132]; with_reducible exact H2_) | (have H2_ := (oS_q _ _).symm.trans H; with_reducible exact H2_) | with_reducible exact H | (rw [hy132]; exact H) | exact H
    have Ny132 := Ae_q hy132
    clear hy132
    simp only [oE_q, pE_q] at H
    obtain ⟨rfl, rfl⟩ := H
    obtain ⟨Ao54, co54, eo54⟩ := Kd.N_slice HO_3.out
    subst eo54
    go_wp2_with (first | ((with_reducible refine gC_q (f := 52) rfl ?_); refine gL_q (some 56) rfl rfl Try.func52 m9_q rfl #[.pointer (some ⟨g, 0, none⟩), .int .i64 (x3_1.length : Int)] rfl m0_q ?_; (with_reducible refine (spec_l6Rd_pick.calls k1 g s0_0 x1001_1 (x3_1.length : Int) t125 t126 w0 _ ?side1 ?side2 A39.out).mono ?_); (case side1 => exact m4_q); (case side2 => exact m3_q); rintro e w' ⟨rfl, hi, hb, hk⟩; refine ⟨_, rfl, ?_⟩; replace HO_3 := Ae_q (Kd.N_mono (Kd.N_keep (Kd.N_mono (ok := fun k_ => (((w.heap.size ≤ k_)) ∧ k_ ≠ g)) m33_q (fun k_ hk_ => (⟨hk_, hk_.2⟩ : _ ∧ k_ ≠ g))) hk (fun _ h => h.2)) (fun _ h => h.1)); replace HK := Ae_q (kT_q m2_q hk (.inl rfl)); replace HB := Ae_q (hb); replace HI0 := Ae_q (hi); (try clear hb); (try clear hb2); (try clear hk); (try clear hi)) | ((with_reducible refine gC_q (f := 52) rfl ?_); refine gL_q (some 58) rfl rfl Try.func52 m9_q rfl #[.pointer (some ⟨g, 0, none⟩), .int .i64 30] rfl m0_q ?_; (with_reducible refine (spec_l6Rd_pick.calls k1 g s0_0 t126 30 t127 t128 w0 _ ?side1 ?side2 A40.out).mono ?_); (case side1 => exact m4_q); (case side2 => exact m3_q); rintro e w' ⟨rfl, hi, hb, hk⟩; refine ⟨_, rfl, ?_⟩; replace HO_3 := Ae_q (Kd.N_mono (Kd.N_keep (Kd.N_mono (ok := fun k_ => (((w.heap.size ≤ k_)) ∧ k_ ≠ g)) m33_q (fun k_ hk_ => (⟨hk_, hk_.2⟩ : _ ∧ k_ ≠ g))) hk (fun _ h => h.2)) (fun _ h => h.1)); replace HK := Ae_q (kT_q m2_q hk (.inl rfl)); replace HB := Ae_q (hb); replace HI0 := Ae_q (hi); (try clear hb); (try clear hb2); (try clear hk); (try clear hi); have p131 : 0 ≤ (t125 : Int) := oD_q (by assumption); have q131 : t125 < (x3_1.length : Int) := oD_q (by assumption); obtain ⟨ad131, A131_1, c131_1, e131, hx131_0, hx131_1, hx131_2, hx131_3, hl131_1, hi131_1⟩ := at_T39 (Kd.N_reads' HO_3.out).2.2 t125 p131 q131; cases e131; obtain ⟨ce131, hce131, hMe131, hcc131⟩ := Kd.N_get HO_3.out z39 t125 p131 (by first | exact q131 | exact oD_q (by assumption) | (have e_ := (Kd.N_reads' HO_3.out).1; omega)); obtain ⟨ua131_1, uc131_1, rfl, ul131_1, ge131_1⟩ := k39_openF hMe131; have hv131_1 := hcc131 1 _ rfl; rw [add_field _ _ 1 (by omega)] at hv131_1; replace hv131_1 := oI_q (hv131_1.symm.trans hx131_1); injection hv131_1 with hva_ hvn_ hvc_; rw [hva_] at ge131_1; rw [hvc_] at ul131_1; have HL131_1 := Ae_q (show Kd.V kI_q 3 _ w.heap.size _ _ ((rd_T39 x3_1 t125).f1) from Kd.V_mk ul131_1 ge131_1); clear hva_ hvn_ hvc_ ge131_1 ul131_1; clear hcc131 hce131; have HR131_1 := Ae_q hi131_1; have HC131_1 := Ae_q hl131_1; clear hi131_1 hl131_1; replace p131 := eq_true p131; replace q131 := eq_true q131) | ((with_reducible refine gate_builtin (b := .append) (xs := #[.tmp 73, .tmp 78]) rfl ?_); (try (refine gate_guard (by rfl) ?_; dsimp only)); at_builtin; refine Kd.N_append k39 w.heap.size rfl (.tmp 73) (.tmp 78) 23 39 (.agg #[(.int .i64 0), (.slice none 0 0), (.int .i64 0), (.int .i64 0)]) 48 rfl Try.underlying23 info39 rfl (by decide) (by omega) (.slice (some ad131) x3_1.length co54) x3_1 (⟨(rd_T39 x3_1 t125).f0, (rd_T39 x3_1 t125).f1, (rd_T39 x3_1 t125).f2, (rd_T39 x3_1 t125).f3⟩ : S39) [.int .i64 ((rd_T39 x3_1 t125).f0), .slice A131_1 ((rd_T39 x3_1 t125).f1).length c131_1, .int .i64 ((rd_T39 x3_1 t125).f2), .int .i64 ((rd_T39 x3_1 t125).f3)] (fun k_ => (w.heap.size ≤ k_) ∧ k_ ≠ g) (fun k_ => ((fun k_ => (w.heap.size ≤ k_) ∧ k_ ≠ g)) k_ ∧ some k_ ≠ (.slice (some ad131) x3_1.length co54 : Value).ownBlock) rfl rfl ?aP (fun _ hk => hk) ?aF ?aO (bR_q _ _) ?aS ?aL ?_; (case aP => exact (k39_mkF _ _ (⟨(rd_T39 x3_1 t125).f0, (rd_T39 x3_1 t125).f1, (rd_T39 x3_1 t125).f2, (rd_T39 x3_1 t125).f3⟩ : S39) (Kd.V_reads' (Kd.V_mono (ok' := (fun k_ => ((fun k_ => (w.heap.size ≤ k_) ∧ k_ ≠ g)) k_ ∧ some k_ ≠ (.slice (some ad131) x3_1.length co54 : Value).ownBlock)) (HL131_1.out) (fun k_ hk => ⟨⟨hk.1.1, hk.1.2⟩, hk.2⟩))).2.1 (Kd.V_F (Kd.V_mono (ok' := (fun k_ => ((fun k_ => (w.heap.size ≤ k_) ∧ k_ ≠ g)) k_ ∧ some k_ ≠ (.slice (some ad131) x3_1.length co54 : Value).ownBlock)) (HL131_1.out) (fun k_ hk => ⟨⟨hk.1.1, hk.1.2⟩, hk.2⟩))))); (case aF => exact (fun k_ hk => ⟨(nT_q (keep_size (w := w) (g := g) (row := none) m2_q) hk), IsS82.fresh m4_q k_ hk⟩)); (case aO => exact m33_q); (case aS => exact (keep_size (w := w) (g := g) (row := none) m2_q)); (case aL => have := LMc53.out; omega); intro v133 w57 ho hb hg hat; rw [← Ny132.out] at ho; replace HL131_1 := Ae_q (Kd.V_afterv (ok := (fun k_ => (w.heap.size ≤ k_) ∧ k_ ≠ g)) (by (with_reducible repeat (first | apply Kd.V_alloc | apply Kd.V_drewN | apply Kd.V_drew)); exact HL131_1.out) hg hat); replace HB := Ae_q (below_weaken m3_q HL.out hb); replace HI0 := Ae_q (IsS82.grown m4_q hg (IsS82.own_neN HI0.out HO_3.out (by decide))); replace HK := Ae_q (kT_q m2_q (KeepBut.of_grown hg g) (Kd.N_base2 HO_3.out)); have HO134 := Ae_q (ho); clear HO_3; clear ho hb hg hat))
    go_ret
    exact ⟨_, m6_q, by (with_reducible repeat (first | apply Kd.N_alloc | apply Kd.N_drewN | apply Kd.N_drew)); exact Kd.N_mono HO134.out (fun _ hk => hk.1), m4_q, m3_q, m2_q⟩
   rw [if_neg c50] at H
   have c50b0 : (t127 == 1) = false := fN_q.mpr c50
   have c50b1 : (t127 != 1) = true := nI_q.mpr c50
   by_cases c56 : t127 = 2
   rotate_left
   ·rw [if_neg c56] at H
    have c56b0 : (t127 == 2) = false := fN_q.mpr c56
    have c56b1 : (t127 != 2) = true := nI_q.mpr c56
    simp only [oE_q, pE_q] at H
    obtain ⟨rfl, rfl⟩ := H
    obtain ⟨Ao69, co69, eo69⟩ := Kd.S_slice HO_3.out
    subst eo69
    go_wp2_with (first | ((with_reducible refine gC_q (f := 52) rfl ?_); (first | (refine gL_q (some 56) rfl rfl Try.func52 m9_q rfl #[.pointer (some ⟨g, 0, none⟩), .int .i64 (x3_1.length : Int)] rfl m0_q ?_; (with_reducible refine (spec_l6Rd_pick.calls k1 g s0_0 x1001_1 (x3_1.length : Int) t125 t126 w0 _ ?side1 ?side2 A39.out).mono ?_); (case side1 => exact m4_q); (case side2 => exact m3_q); rintro e w' ⟨rfl, hi, hb, hk⟩; refine ⟨_, rfl, ?_⟩; have n0_ := Ae_q (Kd.S_mono (Kd.S_keep (IsS82.apartS (show IsS82 w0 _ g s0_0 x1001_1 from by repeat (with_reducible first | exact HI0.out | apply i2_q | apply i0_q | apply i1_q | apply i3_q)) m10_q (by decide)) hk (fun _ h => h.2)) (fun _ h => h.1))) | (refine gL_q (some 58) rfl rfl Try.func52 m9_q rfl #[.pointer (some ⟨g, 0, none⟩), .int .i64 30] rfl m0_q ?_; (with_reducible refine (spec_l6Rd_pick.calls k1 g s0_0 t126 30 t127 t128 w0 _ ?side1 ?side2 A40.out).mono ?_); (case side1 => exact m4_q); (case side2 => exact m3_q); rintro e w' ⟨rfl, hi, hb, hk⟩; refine ⟨_, rfl, ?_⟩; have n0_ := Ae_q (Kd.S_mono (Kd.S_keep (IsS82.apartS (show IsS82 w0 _ g s0_0 t126 from by repeat (with_reducible first | exact HI0.out | apply i2_q | apply i0_q | apply i1_q | apply i3_q)) m10_q (by decide)) hk (fun _ h => h.2)) (fun _ h => h.1)))); have n1_ := Ae_q (kT_q m2_q hk (.inl rfl)); have n2_ := Ae_q (hb); have n3_ := Ae_q (hi); clear HO_3; clear HK; clear HB; clear HI0; have HO_3 := n0_; have HK := n1_; have HB := n2_; have HI0 := n3_; clear n0_ n1_ n2_ n3_; (try clear hb); (try clear hb2); (try clear hk); (try clear hi)))
    go_ret
    exact ⟨_, m6_q, toN_ HO_3.out, m4_q, m3_q, m2_q⟩
   rw [if_pos c56] at H
   have c56b0 : (t127 == 2) = true := beq_iff_eq.mpr c56
   have c56b1 : (t127 != 2) = false := nE_q.mpr c56
   clear c56
   by_cases c57 : 0 ≤ t125
   rotate_left
   ·rw [if_neg c57] at H
    exact absurd H (by simp)
   rw [if_pos c57] at H
   have c57b0 : decide (0 ≤ t125) = true := dT_q c57
   clear c57
   by_cases c58 : t125 < (x3_1.length : Int)
   rotate_left
   ·rw [if_neg c58] at H
    exact absurd H (by simp)
   rw [if_pos c58] at H
   have c58b0 : decide (t125 < (x3_1.length : Int)) = true := dT_q c58
   clear c58
   by_cases c59 : ((rd_T39 x3_1 t125).f1).length < 17592186044416
   rotate_left
   ·rw [if_neg c59] at H
    exact absurd H (by simp)
   rw [if_pos c59] at H
   have LMc59 := Ae_q c59
   clear c59
   obtain ⟨y133, hy133⟩ : ∃ y_ : List Int, y_ = (((rd_T39 x3_1 t125).f1) ++ [1]) := ⟨_, rfl⟩
   replace H : (some ((x3_1.set (t125 : Int).toNat (⟨(rd_T39 x3_1 t125).f0, y133, (rd_T39 x3_1 t125).f2, (rd_T39 x3_1 t125).f3⟩ : S39)), t128)) = some (r1, r2) := by first | (rw [hy133]; with_reducible exact H) | (have H2_ := (oS_q _ _).symm.trans H; rw [hy133]; with_reducible exact H2_) | (have H2_ := (oS_q _ _).symm.trans H; with_reducible exact H2_) | with_reducible exact H | (rw [hy133]; exact H) | exact H
   have Ny133 := Ae_q hy133
   clear hy133
   obtain ⟨y136, hy136⟩ : ∃ y_ : List (S39), y_ = (x3_1.set (t125 : Int).toNat (⟨(rd_T39 x3_1 t125).f0, y133, (rd_T39 x3_1 t125).f2, (rd_T39 x3_1 t125).f3⟩ : S39)) := ⟨_, rfl⟩
   replace H : (some (y136, t128)) = some (r1, r2) := by first | (rw [hy136]; with_reducible exact H) | (have H2_ := (oS_q _ _).symm.trans H; rw [hy136]; with_reducible exact H2_) | (have H2_ := (oS_q _ _).symm.trans H; with_reducible exact H2_) | with_reducible exact H | (rw [hy136]; exact H) | exact H
   have Ny136 := Ae_q hy136
   clear hy136
   simp only [oE_q, pE_q] at H
   obtain ⟨rfl, rfl⟩ := H
   obtain ⟨Ao61, co61, eo61⟩ := Kd.S_slice HO_3.out
   subst eo61
   go_wp2_with (first | ((with_reducible refine gC_q (f := 52) rfl ?_); refine gL_q (some 56) rfl rfl Try.func52 m9_q rfl #[.pointer (some ⟨g, 0, none⟩), .int .i64 (x3_1.length : Int)] rfl m0_q ?_; (with_reducible refine (spec_l6Rd_pick.calls k1 g s0_0 x1001_1 (x3_1.length : Int) t125 t126 w0 _ ?side1 ?side2 A39.out).mono ?_); (case side1 => exact m4_q); (case side2 => exact m3_q); rintro e w' ⟨rfl, hi, hb, hk⟩; refine ⟨_, rfl, ?_⟩; replace HO_3 := Ae_q (Kd.S_mono (Kd.S_keep (IsS82.apartS (show IsS82 w0 _ g s0_0 x1001_1 from by repeat (with_reducible first | exact HI0.out | apply i2_q | apply i0_q | apply i1_q | apply i3_q)) m10_q (by decide)) hk (fun _ h => h.2)) (fun _ h => h.1)); replace HK := Ae_q (kT_q m2_q hk (.inl rfl)); replace HB := Ae_q (hb); replace HI0 := Ae_q (hi); (try clear hb); (try clear hb2); (try clear hk); (try clear hi)) | ((with_reducible refine gC_q (f := 52) rfl ?_); refine gL_q (some 58) rfl rfl Try.func52 m9_q rfl #[.pointer (some ⟨g, 0, none⟩), .int .i64 30] rfl m0_q ?_; (with_reducible refine (spec_l6Rd_pick.calls k1 g s0_0 t126 30 t127 t128 w0 _ ?side1 ?side2 A40.out).mono ?_); (case side1 => exact m4_q); (case side2 => exact m3_q); rintro e w63 ⟨rfl, hi, hb, hk⟩; refine ⟨_, rfl, ?_⟩; replace HO_3 := Ae_q (Kd.S_mono (Kd.S_keep (IsS82.apartS (show IsS82 w0 _ g s0_0 t126 from by repeat (with_reducible first | exact HI0.out | apply i2_q | apply i0_q | apply i1_q | apply i3_q)) m10_q (by decide)) hk (fun _ h => h.2)) (fun _ h => h.1)); replace HK := Ae_q (kT_q m2_q hk (.inl rfl)); replace HB := Ae_q (hb); replace HI0 := Ae_q (hi); (try clear hb); (try clear hb2); (try clear hk); (try clear hi); have p132 : 0 ≤ (t125 : Int) := oD_q (by assumption); have q132 : t125 < (x3_1.length : Int) := oD_q (by assumption); obtain ⟨ad132, A132_1, c132_1, e132, hx132_0, hx132_1, hx132_2, hx132_3, hl132_1, hi132_1⟩ := at_T39 (Kd.S_reads' HO_3.out).2.2 t125 p132 q132; cases e132; obtain ⟨ce132, hce132, hMe132, hcc132⟩ := Kd.S_get HO_3.out z39 t125 p132 (by first | exact q132 | exact oD_q (by assumption) | (have e_ := (Kd.S_reads' HO_3.out).1; omega)); obtain ⟨ve132_1, rfl, ge132_1⟩ := k39_openM hMe132; have hv132_1 := hcc132 1 _ rfl; rw [add_field _ _ 1 (by omega)] at hv132_1; replace hv132_1 := oI_q (hv132_1.symm.trans hx132_1); rw [hv132_1] at ge132_1; have HL132_1 := Ae_q (show Kd.R kI_q 3 _ _ _ _ ((rd_T39 x3_1 t125).f1) from ge132_1); clear hv132_1 ge132_1; have HX132_1 := Ae_q hx132_1; clear hcc132 hce132; have HR132_1 := Ae_q hi132_1; have HC132_1 := Ae_q hl132_1; clear hi132_1 hl132_1; replace p132 := eq_true p132; replace q132 := eq_true q132; obtain ⟨go64, co64, eo64, gb64, gl64, cl64, HG64⟩ := Kd.S_form HO_3.out (by have h_ : (t125 : Int) < ((x3_1.length : Int) : Int) := oD_q (by assumption); have h2_ : 0 ≤ (t125 : Int) := (oD_q (by assumption)); omega); (first | cases eo64 | (injection eo64 with ea_ en_ ec_; (first | subst ea_ | (injection ea_ with ea_; subst ea_)); subst ec_; clear en_)); have GB64 := Ae_q gb64; have GG64 := Ae_q HG64; clear gb64 gl64 HG64; (first | simp only [add_plain] at hx132_0 | skip); (first | simp only [add_plain] at hx132_1 | skip); (first | simp only [add_plain] at hx132_2 | skip); (first | simp only [add_plain] at hx132_3 | skip); obtain ⟨oki64, ce64, hcl64, hM64, hcc64, _, _, hH64⟩ := Kd.S_elem HO_3.out z39 (t125 : Int) (oD_q (by assumption)) (by have h_ : (t125 : Int) < ((x3_1.length : Int) : Int) := oD_q (by assumption); first | exact h_ | (have e_ := (Kd.S_reads' HO_3.out).1; omega) | simpa using h_); obtain ⟨ve64_1, rfl, ge64_1⟩ := k39_openM hM64; have hv64 := hcc64 1 _ rfl; have hX64 := HX132_1.out; (try simp only [add_plain] at hX64); (try simp only [Nat.add_zero] at hv64); replace hv64 := oI_q (hv64.symm.trans hX64); subst hv64; clear hX64 hcc64 hcl64; have UU64 := Ae_q (show Kd.R kI_q 3 _ w.heap.size oki64 (.slice A132_1 ((rd_T39 x3_1 t125).f1).length c132_1) ((rd_T39 x3_1 t125).f1) from ge64_1); have HH64 := Ae_q hH64; have HN64 := Ae_q (Kd.S_reads' HO_3.out).1; clear hH64 ge64_1) | ((with_reducible refine gate_builtin (b := .append) (xs := #[.tmp 88, .tmp 89]) rfl ?_); (try (refine gate_guard (by rfl) ?_; dsimp only)); at_builtin; refine Kd.R_append kI_q w.heap.size rfl (.tmp 88) (.tmp 89) 34 3 (.int .i64 0) 8 rfl Try.underlying34 info3 rfl (by decide) (by omega) (.slice A132_1 ((rd_T39 x3_1 t125).f1).length c132_1) ((rd_T39 x3_1 t125).f1) 1 [.int .i64 1] (fun k_ => oki64 k_ ∨ ((fun _ => True)) k_ ∧ w63.heap.size ≤ k_) (fun _ => False) rfl rfl ?aP (fun _ hk => hk.elim) ?aF ?aO (bR_q _ _) ?aS ?aL ?_; (case aP => exact rfl); (case aF => exact (fun k_ hk => .inr ⟨trivial, hk⟩)); (case aO => exact (by (with_reducible repeat (first | apply rA_q | apply rN_q | apply rD_q)); exact rM_q UU64.out (fun _ hk => .inl hk))); (case aS => exact (keep_size (w := w) (g := g) (row := none) m2_q)); (case aL => have := LMc59.out; omega); intro v134 w65 ho hb hg hat; rw [← Ny133.out] at ho; replace HB := Ae_q (below_weaken m3_q HL.out hb); replace HI0 := Ae_q (IsS82.grown m4_q hg (IsS82.own_ne HI0.out HL132_1.out (by decide))); replace HK := Ae_q (kT_q m2_q (KeepBut.of_grown hg g) (Kd.R_base2 HL132_1.out)); replace HH64 := Ae_q (Kd.H_grown (Kd.H_widen (by repeat (first | exact HH64.out | refine Kd.H_alloc ?_ _ | refine Kd.H_drewN ?_ _ | refine Kd.H_drew ?_))) hg (fun k_ e_ => .inl (UU64.out.1 k_ e_))); have HO135 := Ae_q (ho); clear HO_3; clear UU64; clear HL132_1; clear ho hb hg hat; have p60 : 0 ≤ (t125 : Int) := oD_q (by assumption); have q60 : (t125 : Int) < ((x3_1.length : Int) : Int) := oD_q (by assumption); replace p60 := eq_true p60; replace q60 := eq_true q60; obtain ⟨Ao68, co68, eo68⟩ := rS_q HO135.out; subst eo68; obtain ⟨_, _, hraw66, _, _, hcc66, _⟩ := Kd.H_raw HH64.out (oD_q (by assumption)) (by have h_ : (t125 : Int) < ((x3_1.length : Int) : Int) := oD_q (by assumption); first | exact h_ | (have e_ := (HN64.out); omega) | simpa using h_); obtain ⟨_, hfr66⟩ := Kd.H_at HH64.out (oD_q (by assumption)) (by have h_ : (t125 : Int) < ((x3_1.length : Int) : Int) := oD_q (by assumption); first | exact h_ | (have e_ := (HN64.out); omega) | simpa using h_); have hx66_0 := hcc66 1 _ rfl; have hf66_0 := hfr66 1; (try rw [show (k39).sz = 4 from rfl] at hx66_0); (try rw [show (k39).sz = 4 from rfl] at hf66_0); have HP66 := Kd.S_seg0 HH64.out (oD_q (by assumption)) (by have h_ : (t125 : Int) < ((x3_1.length : Int) : Int) := oD_q (by assumption); first | exact h_ | (have e_ := (HN64.out); omega) | simpa using h_) (seg := [.slice Ao68 y133.length co68]) (j := 1) (show 2 ≤ 4 from by decide) (x' := (⟨(rd_T39 x3_1 t125).f0, y133, (rd_T39 x3_1 t125).f2, (rd_T39 x3_1 t125).f3⟩ : S39)) (k39_mkM _ _ _ (⟨(rd_T39 x3_1 t125).f0, y133, (rd_T39 x3_1 t125).f2, (rd_T39 x3_1 t125).f3⟩ : S39) HO135.out) (fun _ hk => hk); clear hcc66 hfr66) | ((with_reducible refine gate_store (t := 34) (p := 92) rfl ?_); refine store_event (t := 34) (p := 92) (v := ?vo_w67) (w1 := (w65.setCell ⟨go64, (t125 : Int).toNat * 4 + 1, none⟩ (.slice Ao68 y133.length co68))) ?hg ?ho ?hn ?hr ?_; (case ho => rfl); (case hg => rfl); (case hn => rfl); (case hr => exact m11_q); intro w67 hw; have hg : w65.grownBy w67 (some go64) := (by rw [hw]; exact HP66.2); have hp_ : Kd.S k39 39 w67 w.heap.size (fun _ => True) (.slice (some ⟨go64, 0, none⟩) x3_1.length co61) y136 := (by rw [hw, Ny136.out]; exact HP66.1); clear HP66; replace HI0 := Ae_q (IsS82.grown m4_q hg (IsS82.own_ne HI0.out hraw66 (by decide))); replace HB := Ae_q ((by rw [hw]; exact bS_q HB.out (nT_q HL.out GB64.out) : Below w0.heap.size w0 w67)); replace HK := Ae_q (kT_q m2_q (KeepBut.of_grown hg g) (Kd.R_base2 hraw66)); have HO_3 := Ae_q (hp_); clear HO135; clear HH64; clear hg hw hp_ hraw66))
   go_ret
   exact ⟨_, m6_q, toN_ HO_3.out, m4_q, m3_q, m2_q⟩


end Go.Proofs.Ytnckblolijkdaaa.PBt
