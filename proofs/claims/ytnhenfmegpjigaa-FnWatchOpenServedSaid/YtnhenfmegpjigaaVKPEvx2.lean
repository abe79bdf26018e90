import Derived.Test.YtnhenfmegpjigaaVKPEvx0
import Derived.Test.YtnhenfmegpjigaaVKPEvx1
namespace Go.Proofs.Ytnhenfmegpjigaa.PEv
open Go.RowKit Go.Proofs.YtnhenfmegpjigaaW.PrintWords Go.Proofs.YtnhenfmegpjigaaW.PrintLast Go.Proofs.YtnhenfmegpjigaaW.PrintMore
attribute [local go_sem] max2_int min2_int max_two min_two max_three min_three max_four min_four
set_option linter.unusedVariables false
set_option linter.unusedSimpArgs false

def spec_l92Event.f (k : Nat) (s0_0 : List Int) (s0_1 : Int) (a1 : Int) : Option (Int × Int × Int × Int × Int × Int × Int) := (some (([1, 2, 2, 2, 3] : List Int) : List Int)).bind fun y105 => ((spec_l6Rd_pick.f k s0_0 s0_1 5).bind fun bt108 => (if 0 ≤ bt108.1 then (if bt108.1 < (y105.length : Int) then ((spec_l6Rd_pick.f k s0_0 bt108.2 4).bind fun bt111 => (if (rd y105 bt108.1) = 1 then ((spec_l6Rd_pick.f k s0_0 bt111.2 5).bind fun bt114 => ((spec_l6Rd_pick.f k s0_0 bt114.2 2).bind fun bt116 => (if bt116.1 = 0 then ((spec_l6Rd_pick.f k s0_0 bt116.2 8).bind fun bt118 => ((spec_l3Weight.f k bt118.1).bind fun t120 => (some (rd y105 bt108.1, a1, wrap64 (1 + bt111.1), 0, t120, wrap64 (1 + bt114.1), bt118.2)))) else (some (rd y105 bt108.1, a1, wrap64 (1 + bt111.1), 0, 0, wrap64 (1 + bt114.1), bt116.2))))) else (if (rd y105 bt108.1) = 2 then ((spec_l6Rd_pick.f k s0_0 bt111.2 8).bind fun bt121 => (some (rd y105 bt108.1, a1, wrap64 (1 + bt111.1), wrap64 (1 + bt121.1), 0, 0, bt121.2))) else (some (rd y105 bt108.1, a1, wrap64 (1 + bt111.1), 0, 0, 0, bt111.2))))) else (none)) else (none)))
def spec_l92Event.T1 : Bool × List (List Nat × List Nat) := (true, [([], []), ([], []), ([1], [1]), ([0, 2], [0, 2]), ([3], [3]), ([], []), ([], []), ([6, 2], [6]), ([7], [7]), ([4, 5, 8], [4, 5, 8]), ([], []), ([10, 9, 7, 0, 1, 2, 3, 4, 5, 6, 7, 8, 9, 10], [9, 10])])
def spec_l92Event.B1 : List Nat := [0, 0, 2, 7, 15, 0, 0, 70, 198, 511, 0, 2047]
theorem spec_l92Event.tab1 : rtab .any (opsOf Try.f63 1) = spec_l92Event.T1 := by kernel_rfl
theorem spec_l92Event.bits1 : waitsOk spec_l92Event.T1.2 spec_l92Event.B1 = true := by kernel_rfl
set_option maxHeartbeats 8000000 in
set_option maxRecDepth 100000 in
theorem spec_l92Event.calls (k : Nat) (g : Nat) (s0_0 : List Int) (s0_1 : Int) (a1 : Int) (r1 : Int) (r2 : Int) (r3 : Int) (r4 : Int) (r5 : Int) (r6 : Int) (r7 : Int) (w0 w : World) (hI : IsS81 w0 w g s0_0 s0_1) (hB : Below w0.heap.size w0 w) (h : spec_l92Event.f k s0_0 s0_1 a1 = some (r1, r2, r3, r4, r5, r6, r7)) :
    Calls Try.prog 63 #[.pointer (some ⟨g, 0, none⟩), .int .i64 a1] w fun e w' => e = .returned (.agg #[.int .i64 r1, .int .i64 r2, .int .i64 r3, .int .i64 r4, .int .i64 r5, .int .i64 r6]) ∧ IsS81 w0 w' g s0_0 r7 ∧ Below w0.heap.size w0 w' ∧ KeepBut w w' g none := by
 have hu27 := Try.underlying27
 have HI0 := Ae_q hI
 have HK := Ae_q (KeepBut.refl w g none)
 have HL := Ae_q hB.size
 clear hI
 have HW0 := Ae_q hB.size
 have HB := Ae_q hB
 clear hB
 have H : ((some (([1, 2, 2, 2, 3] : List Int) : List Int)).bind fun y105 => ((spec_l6Rd_pick.f k s0_0 s0_1 5).bind fun bt108 => (if 0 ≤ bt108.1 then (if bt108.1 < (y105.length : Int) then ((spec_l6Rd_pick.f k s0_0 bt108.2 4).bind fun bt111 => (if (rd y105 bt108.1) = 1 then ((spec_l6Rd_pick.f k s0_0 bt111.2 5).bind fun bt114 => ((spec_l6Rd_pick.f k s0_0 bt114.2 2).bind fun bt116 => (if bt116.1 = 0 then ((spec_l6Rd_pick.f k s0_0 bt116.2 8).bind fun bt118 => ((spec_l3Weight.f k bt118.1).bind fun t120 => (some (rd y105 bt108.1, a1, wrap64 (1 + bt111.1), 0, t120, wrap64 (1 + bt114.1), bt118.2)))) else (some (rd y105 bt108.1, a1, wrap64 (1 + bt111.1), 0, 0, wrap64 (1 + bt114.1), bt116.2))))) else (if (rd y105 bt108.1) = 2 then ((spec_l6Rd_pick.f k s0_0 bt111.2 8).bind fun bt121 => (some (rd y105 bt108.1, a1, wrap64 (1 + bt111.1), wrap64 (1 + bt121.1), 0, 0, bt121.2))) else (some (rd y105 bt108.1, a1, wrap64 (1 + bt111.1), 0, 0, 0, bt111.2))))) else (none)) else (none)))) = some (r1, r2, r3, r4, r5, r6, r7) := h
 clear h
 obtain ⟨y105, hy105⟩ : ∃ y_ : List Int, y_ = (([1, 2, 2, 2, 3] : List Int)) := ⟨_, rfl⟩
 replace H : ((spec_l6Rd_pick.f k s0_0 s0_1 5).bind fun bt108 => (if 0 ≤ bt108.1 then (if bt108.1 < (y105.length : Int) then ((spec_l6Rd_pick.f k s0_0 bt108.2 4).bind fun bt111 => (if (rd y105 bt108.1) = 1 then ((spec_l6Rd_pick.f k s0_0 bt111.2 5).bind fun bt114 => ((spec_l6Rd_pick.f k s0_0 bt114.2 2).bind fun bt116 => (if bt116.1 = 0 then ((spec_l6Rd_pick.f k s0_0 bt116.2 8).bind fun bt118 => ((spec_l3Weight.f k bt118.1).bind fun t120 => (some (rd y105 bt108.1, a1, wrap64 (1 + bt111.1), 0, t120, wrap64 (1 + bt114.1), bt118.2)))) else (some (rd y105 bt108.1, a1, wrap64 (1 + bt111.1), 0, 0, wrap64 (1 + bt114.1), bt116.2))))) else (if (rd y105 bt108.1) = 2 then ((spec_l6Rd_pick.f k s0_0 bt111.2 8).bind fun bt121 => (some (rd y105 bt108.1, a1, wrap64 (1 + bt111.1), wrap64 (1 + bt121.1), 0, 0, bt121.2))) else (some (rd y105 bt108.1, a1, wrap64 (1 + bt111.1), 0, 0, 0, bt111.2))))) else (none)) else (none))) = some (r1, r2, r3, r4, r5, r6, r7) := by first | (rw [hy105]; with_reducible exact H) | (have H2_ := (oS_q _ _).symm.trans H; rw [hy105]; with_reducible exact H2_) | (have H2_ := (oS_q _ _).symm.trans H; with_reducible exact H2_) | with_reducible exact H | (rw [hy105]; exact H) | exact H
 have Ny105 := Ae_q hy105
 clear hy105
 replace H := oB_q.mp H
 obtain ⟨⟨t108, t109⟩, A30, H⟩ := H
 replace H : (if 0 ≤ t108 then (if t108 < (y105.length : Int) then ((spec_l6Rd_pick.f k s0_0 t109 4).bind fun bt111 => (if (rd y105 t108) = 1 then ((spec_l6Rd_pick.f k s0_0 bt111.2 5).bind fun bt114 => ((spec_l6Rd_pick.f k s0_0 bt114.2 2).bind fun bt116 => (if bt116.1 = 0 then ((spec_l6Rd_pick.f k s0_0 bt116.2 8).bind fun bt118 => ((spec_l3Weight.f k bt118.1).bind fun t120 => (some (rd y105 t108, a1, wrap64 (1 + bt111.1), 0, t120, wrap64 (1 + bt114.1), bt118.2)))) else (some (rd y105 t108, a1, wrap64 (1 + bt111.1), 0, 0, wrap64 (1 + bt114.1), bt116.2))))) else (if (rd y105 t108) = 2 then ((spec_l6Rd_pick.f k s0_0 bt111.2 8).bind fun bt121 => (some (rd y105 t108, a1, wrap64 (1 + bt111.1), wrap64 (1 + bt121.1), 0, 0, bt121.2))) else (some (rd y105 t108, a1, wrap64 (1 + bt111.1), 0, 0, 0, bt111.2))))) else (none)) else (none)) = some (r1, r2, r3, r4, r5, r6, r7) := H
 have A3 := Ae_q A30
 clear A30
 by_cases c4 : 0 ≤ t108
 rotate_left
 ·rw [if_neg c4] at H
  exact absurd H (by simp)
 rw [if_pos c4] at H
 have c4b0 : decide (0 ≤ t108) = true := dT_q c4
 clear c4
 by_cases c5 : t108 < (y105.length : Int)
 rotate_left
 ·rw [if_neg c5] at H
  exact absurd H (by simp)
 rw [if_pos c5] at H
 have c5b0 : decide (t108 < (y105.length : Int)) = true := dT_q c5
 clear c5
 replace H := oB_q.mp H
 obtain ⟨⟨t111, t112⟩, A60, H⟩ := H
 replace H : (if (rd y105 t108) = 1 then ((spec_l6Rd_pick.f k s0_0 t112 5).bind fun bt114 => ((spec_l6Rd_pick.f k s0_0 bt114.2 2).bind fun bt116 => (if bt116.1 = 0 then ((spec_l6Rd_pick.f k s0_0 bt116.2 8).bind fun bt118 => ((spec_l3Weight.f k bt118.1).bind fun t120 => (some (rd y105 t108, a1, wrap64 (1 + t111), 0, t120, wrap64 (1 + bt114.1), bt118.2)))) else (some (rd y105 t108, a1, wrap64 (1 + t111), 0, 0, wrap64 (1 + bt114.1), bt116.2))))) else (if (rd y105 t108) = 2 then ((spec_l6Rd_pick.f k s0_0 t112 8).bind fun bt121 => (some (rd y105 t108, a1, wrap64 (1 + t111), wrap64 (1 + bt121.1), 0, 0, bt121.2))) else (some (rd y105 t108, a1, wrap64 (1 + t111), 0, 0, 0, t112)))) = some (r1, r2, r3, r4, r5, r6, r7) := H
 have A6 := Ae_q A60
 clear A60
 have HCsr_ := Ae_q H
 clear H
 go_enter Try.func63, Try.ntmps63
 try go_wp2_with (first | ((with_reducible refine gD_q (N := 4) rfl ?_); refine bE_q ?hg (N := 4) ?hd (cs := #[.int .i64 0, .int .i64 0, .int .i64 0, .int .i64 0, .int .i64 0, .int .i64 0]) (t := 27) ?hr ?_; (case hd => rfl); (case hg => rfl); (case hr => first | (go_simp; done) | (go_simp; rfl)); intro gb104 hg w13 hbox hb; have n0_ := Ae_q (IsS81.below (by repeat (with_reducible first | exact HI0.out | apply i2_q | apply i1_q | apply i0_q | apply i3_q)) hb); have n1_ := Ae_q (kT_q (by repeat (with_reducible first | exact HK.out | apply kS_q | apply kN_q | apply kD_q | apply kA_q)) (kO_q hb g none) (.inl rfl)); have n2_ := Ae_q (bT_q (by repeat (with_reducible first | exact HB.out | apply bA_q | apply pB_q | apply bD_q | refine bS_q ?_ (i5_q HI0.out))) hb); have n3_ := Ae_q (hbox); have n4_ := Ae_q ((by rw [hg]; exact (keep_size (w := w) (g := g) (row := none) (by repeat (with_reducible first | exact HK.out | apply kS_q | apply kN_q | apply kD_q | apply kA_q))) : w.heap.size ≤ gb104)); have n5_ := Ae_q ((nT_q HW0.out (by rw [hg]; exact (keep_size (w := w) (g := g) (row := none) (by repeat (with_reducible first | exact HK.out | apply kS_q | apply kN_q | apply kD_q | apply kA_q))) : w.heap.size ≤ gb104) : w0.heap.size ≤ gb104)); have n6_ := Ae_q ((by rw [hg]; exact nL_q (IsS81.lt (show IsS81 w0 _ g s0_0 s0_1 from by repeat (with_reducible first | exact HI0.out | apply i2_q | apply i1_q | apply i0_q | apply i3_q))) : g ≠ gb104)); have n7_ := Ae_q ((by rw [hg]; exact nG_q (IsS81.lt (show IsS81 w0 _ g s0_0 s0_1 from by repeat (with_reducible first | exact HI0.out | apply i2_q | apply i1_q | apply i0_q | apply i3_q))) : gb104 ≠ g)); clear HI0; clear HK; clear HB; have HI0 := n0_; have HK := n1_; have HB := n2_; have BK104 := n3_; have GW104 := n4_; have GE104 := n5_; have NB0_104 := n6_; have NB104_0 := n7_; clear n0_ n1_ n2_ n3_ n4_ n5_ n6_ n7_; clear hb hbox hg))
 have pi110 : (0 ≤ (t108 : Int)) = True := eq_true (oD_q (by assumption))
 have qi110 : (t108 < (y105.length : Int)) = True := eq_true (oD_q (by assumption))
 have n0_ := Ae_q (bW_q BK104.out)
 have n1_ := Ae_q (i0_q HI0.out)
 have n2_ := Ae_q (kD_q HK.out)
 have n3_ := Ae_q (bD_q HB.out)
 clear BK104
 clear HI0
 clear HK
 clear HB
 have BK104 := n0_
 have HI0 := n1_
 have HK := n2_
 have HB := n3_
 clear n0_ n1_ n2_ n3_
 refine start_ (n := 12) (S := fun w' => True) (ds := []) #[false, false, false, false, false, false, false, false, false, false, false, false] (by kernel_rfl) rfl rfl trivial (fun hHeld => ?_); refine with_tabW spec_l92Event.tab1 spec_l92Event.bits1 (fun HT_ HW_ => ?_)
 generalize w13.drew = w14 at BK104 HI0 HK HB hHeld ⊢
 refine pI (v := ?_) (a' := ?_) HT_ 1 7 rfl rfl (by kernel_rfl) (fun _ _ _ h => h) (by rfl) ?_ ?_ ?_
 rotate_left
 ·intro w'
  go_simp
  with_reducible rfl
 rotate_left
 ·simp only [pS_q]
  rfl
 refine pI (v := ?_) (a' := ?_) HT_ 5 11 rfl rfl (by kernel_rfl) (fun _ _ _ h => h) (by rfl) ?_ ?_ ?_
 rotate_left
 ·intro w'
  go_simp
  with_reducible rfl
 rotate_left
 ·simp only [pS_q]
  rfl
 refine pI (v := ?_) (a' := ?_) HT_ 6 12 rfl rfl (by kernel_rfl) (fun _ _ _ h => h) (by rfl) ?_ ?_ ?_
 rotate_left
 ·intro w'
  go_simp
  with_reducible rfl
 rotate_left
 ·simp only [pS_q]
  rfl
 refine join_ (σ := Value × Addr × Nat) 1 #[true, true, true, true, true, true, true, true, true, true, true, false] (fun s_ => [(6, s_.1), (8, .int .i64 t108), (10, .int .i64 (rd y105 t108)), (13, .int .i64 t111), (5, .pointer (some ⟨s_.2.2, 0, none⟩)), (9, .pointer (some (s_.2.1.add (t108).toNat))), (14, .int .i64 (wrap64 (1 + t111))), (15, .agg #[.int .i64 (rd y105 t108), .int .i64 a1, .int .i64 (wrap64 (1 + t111)), .int .i64 0, .int .i64 0, .int .i64 0])]) (fun s_ w' => (Kd.R kI_q 3 w' w.heap.size (fun _ => True) s_.1 y105) ∧ (∃ c_, (s_.1 : Value) = .slice (some s_.2.1) y105.length c_) ∧ (w'.heap[gb104]? = some (.cells #[.int .i64 0, .int .i64 0, .int .i64 0, .int .i64 0, .int .i64 0, .int .i64 0] 27 (0, 0))) ∧ (w'.heap[s_.2.2]? = some (.cells #[.int .i64 0, .int .i64 0, .int .i64 0, .int .i64 0, .int .i64 0, .int .i64 0] 27 (0, 0))) ∧ (w.heap.size ≤ s_.2.2) ∧ (w0.heap.size ≤ s_.2.2) ∧ (g ≠ s_.2.2) ∧ (s_.2.2 ≠ g) ∧ (gb104 ≠ s_.2.2) ∧ (s_.2.2 ≠ gb104) ∧ (IsS81 w0 w' g s0_0 t112) ∧ (KeepBut w w' g none) ∧ (Below w0.heap.size w0 w')) ?_ ?_
 rotate_left
 ·intro hJ0_2_4_7_10
  refine join_ (σ := Value × Addr) 2 #[true, true, true, true, true, true, true, true, true, true, false, false] (fun s_ => [(6, s_.1), (8, .int .i64 t108), (10, .int .i64 (rd y105 t108)), (13, .int .i64 t111), (9, .pointer (some (s_.2.add (t108).toNat))), (14, .int .i64 (wrap64 (1 + t111))), (15, .agg #[.int .i64 (rd y105 t108), .int .i64 a1, .int .i64 (wrap64 (1 + t111)), .int .i64 0, .int .i64 0, .int .i64 0])]) (fun s_ w' => (Kd.R kI_q 3 w' w.heap.size (fun _ => True) s_.1 y105) ∧ (∃ c_, (s_.1 : Value) = .slice (some s_.2) y105.length c_) ∧ (w'.heap[gb104]? = some (.cells #[.int .i64 0, .int .i64 0, .int .i64 0, .int .i64 0, .int .i64 0, .int .i64 0] 27 (0, 0))) ∧ (IsS81 w0 w' g s0_0 t112) ∧ (KeepBut w w' g none) ∧ (Below w0.heap.size w0 w')) ?_ ?_
  rotate_left
  ·intro hJ0_2_4_7
   refine join_ (σ := Value × Addr × Nat) 4 #[true, true, true, true, true, true, true, false, false, false, true, false] (fun s_ => [(6, s_.1), (8, .int .i64 t108), (10, .int .i64 (rd y105 t108)), (5, .pointer (some ⟨s_.2.2, 0, none⟩)), (9, .pointer (some (s_.2.1.add (t108).toNat)))]) (fun s_ w' => (Kd.R kI_q 3 w' w.heap.size (fun _ => True) s_.1 y105) ∧ (∃ c_, (s_.1 : Value) = .slice (some s_.2.1) y105.length c_) ∧ (w'.heap[gb104]? = some (.cells #[.int .i64 0, .int .i64 0, .int .i64 0, .int .i64 0, .int .i64 0, .int .i64 0] 27 (0, 0))) ∧ (w'.heap[s_.2.2]? = some (.cells #[.int .i64 0, .int .i64 0, .int .i64 0, .int .i64 0, .int .i64 0, .int .i64 0] 27 (0, 0))) ∧ (w.heap.size ≤ s_.2.2) ∧ (w0.heap.size ≤ s_.2.2) ∧ (g ≠ s_.2.2) ∧ (s_.2.2 ≠ g) ∧ (gb104 ≠ s_.2.2) ∧ (s_.2.2 ≠ gb104) ∧ (IsS81 w0 w' g s0_0 t109) ∧ (KeepBut w w' g none) ∧ (Below w0.heap.size w0 w')) ?_ ?_
   rotate_left
   ·intro hJ0_2_4_10
    refine join_ (σ := Value × Addr × Nat) 3 #[true, true, true, true, false, true, true, true, true, false, true, false] (fun s_ => [(6, s_.1), (8, .int .i64 t108), (13, .int .i64 t111), (5, .pointer (some ⟨s_.2.2, 0, none⟩)), (9, .pointer (some (s_.2.1.add (t108).toNat))), (14, .int .i64 (wrap64 (1 + t111)))]) (fun s_ w' => (Kd.R kI_q 3 w' w.heap.size (fun _ => True) s_.1 y105) ∧ (∃ c_, (s_.1 : Value) = .slice (some s_.2.1) y105.length c_) ∧ (w'.heap[gb104]? = some (.cells #[.int .i64 0, .int .i64 0, .int .i64 0, .int .i64 0, .int .i64 0, .int .i64 0] 27 (0, 0))) ∧ (w'.heap[s_.2.2]? = some (.cells #[.int .i64 0, .int .i64 0, .int .i64 0, .int .i64 0, .int .i64 0, .int .i64 0] 27 (0, 0))) ∧ (w.heap.size ≤ s_.2.2) ∧ (w0.heap.size ≤ s_.2.2) ∧ (g ≠ s_.2.2) ∧ (s_.2.2 ≠ g) ∧ (gb104 ≠ s_.2.2) ∧ (s_.2.2 ≠ gb104) ∧ (IsS81 w0 w' g s0_0 t112) ∧ (KeepBut w w' g none) ∧ (Below w0.heap.size w0 w')) ?_ ?_
    rotate_left
    ·intro hJ0_2_7_10
     refine join_ (σ := Value × Addr) 5 #[true, true, true, true, true, true, true, false, false, false, false, false] (fun s_ => [(6, s_.1), (8, .int .i64 t108), (10, .int .i64 (rd y105 t108)), (9, .pointer (some (s_.2.add (t108).toNat)))]) (fun s_ w' => (Kd.R kI_q 3 w' w.heap.size (fun _ => True) s_.1 y105) ∧ (∃ c_, (s_.1 : Value) = .slice (some s_.2) y105.length c_) ∧ (w'.heap[gb104]? = some (.cells #[.int .i64 0, .int .i64 0, .int .i64 0, .int .i64 0, .int .i64 0, .int .i64 0] 27 (0, 0))) ∧ (IsS81 w0 w' g s0_0 t109) ∧ (KeepBut w w' g none) ∧ (Below w0.heap.size w0 w')) ?_ ?_
     rotate_left
     ·intro hJ0_2_4
      refine join_ (σ := Value × Addr) 4 #[true, true, true, true, false, true, true, true, true, false, false, false] (fun s_ => [(6, s_.1), (8, .int .i64 t108), (13, .int .i64 t111), (9, .pointer (some (s_.2.add (t108).toNat))), (14, .int .i64 (wrap64 (1 + t111)))]) (fun s_ w' => (Kd.R kI_q 3 w' w.heap.size (fun _ => True) s_.1 y105) ∧ (∃ c_, (s_.1 : Value) = .slice (some s_.2) y105.length c_) ∧ (w'.heap[gb104]? = some (.cells #[.int .i64 0, .int .i64 0, .int .i64 0, .int .i64 0, .int .i64 0, .int .i64 0] 27 (0, 0))) ∧ (IsS81 w0 w' g s0_0 t112) ∧ (KeepBut w w' g none) ∧ (Below w0.heap.size w0 w')) ?_ ?_
      rotate_left
      ·intro hJ0_2_7
       refine join_ (σ := Value × Addr × Nat) 5 #[true, true, true, true, false, true, true, false, false, false, true, false] (fun s_ => [(6, s_.1), (8, .int .i64 t108), (5, .pointer (some ⟨s_.2.2, 0, none⟩)), (9, .pointer (some (s_.2.1.add (t108).toNat)))]) (fun s_ w' => (Kd.R kI_q 3 w' w.heap.size (fun _ => True) s_.1 y105) ∧ (∃ c_, (s_.1 : Value) = .slice (some s_.2.1) y105.length c_) ∧ (w'.heap[gb104]? = some (.cells #[.int .i64 0, .int .i64 0, .int .i64 0, .int .i64 0, .int .i64 0, .int .i64 0] 27 (0, 0))) ∧ (w'.heap[s_.2.2]? = some (.cells #[.int .i64 0, .int .i64 0, .int .i64 0, .int .i64 0, .int .i64 0, .int .i64 0] 27 (0, 0))) ∧ (w.heap.size ≤ s_.2.2) ∧ (w0.heap.size ≤ s_.2.2) ∧ (g ≠ s_.2.2) ∧ (s_.2.2 ≠ g) ∧ (gb104 ≠ s_.2.2) ∧ (s_.2.2 ≠ gb104) ∧ (IsS81 w0 w' g s0_0 t109) ∧ (KeepBut w w' g none) ∧ (Below w0.heap.size w0 w')) ?_ ?_
       rotate_left
       ·intro hJ0_2_10
        refine join_ (σ := Nat) 5 #[false, true, true, false, false, true, true, true, true, false, true, false] (fun s_ => [(8, .int .i64 t108), (13, .int .i64 t111), (5, .pointer (some ⟨s_, 0, none⟩)), (14, .int .i64 (wrap64 (1 + t111)))]) (fun s_ w' => (w'.heap[gb104]? = some (.cells #[.int .i64 0, .int .i64 0, .int .i64 0, .int .i64 0, .int .i64 0, .int .i64 0] 27 (0, 0))) ∧ (w'.heap[s_]? = some (.cells #[.int .i64 0, .int .i64 0, .int .i64 0, .int .i64 0, .int .i64 0, .int .i64 0] 27 (0, 0))) ∧ (w.heap.size ≤ s_) ∧ (w0.heap.size ≤ s_) ∧ (g ≠ s_) ∧ (s_ ≠ g) ∧ (gb104 ≠ s_) ∧ (s_ ≠ gb104) ∧ (IsS81 w0 w' g s0_0 t112) ∧ (KeepBut w w' g none) ∧ (Below w0.heap.size w0 w')) ?_ ?_
        rotate_left
        ·intro hJ2_7_10
         refine join_ (σ := Value × Addr) 6 #[true, true, true, true, false, true, true, false, false, false, false, false] (fun s_ => [(6, s_.1), (8, .int .i64 t108), (9, .pointer (some (s_.2.add (t108).toNat)))]) (fun s_ w' => (Kd.R kI_q 3 w' w.heap.size (fun _ => True) s_.1 y105) ∧ (∃ c_, (s_.1 : Value) = .slice (some s_.2) y105.length c_) ∧ (w'.heap[gb104]? = some (.cells #[.int .i64 0, .int .i64 0, .int .i64 0, .int .i64 0, .int .i64 0, .int .i64 0] 27 (0, 0))) ∧ (IsS81 w0 w' g s0_0 t109) ∧ (KeepBut w w' g none) ∧ (Below w0.heap.size w0 w')) ?_ ?_
         rotate_left
         ·intro hJ0_2
          refine join_ (σ := Value × Addr × Nat) 7 #[true, true, false, false, false, true, true, false, false, false, true, false] (fun s_ => [(6, s_.1), (5, .pointer (some ⟨s_.2.2, 0, none⟩))]) (fun s_ w' => (Kd.R kI_q 3 w' w.heap.size (fun _ => True) s_.1 y105) ∧ (∃ c_, (s_.1 : Value) = .slice (some s_.2.1) y105.length c_) ∧ (w'.heap[gb104]? = some (.cells #[.int .i64 0, .int .i64 0, .int .i64 0, .int .i64 0, .int .i64 0, .int .i64 0] 27 (0, 0))) ∧ (w'.heap[s_.2.2]? = some (.cells #[.int .i64 0, .int .i64 0, .int .i64 0, .int .i64 0, .int .i64 0, .int .i64 0] 27 (0, 0))) ∧ (w.heap.size ≤ s_.2.2) ∧ (w0.heap.size ≤ s_.2.2) ∧ (g ≠ s_.2.2) ∧ (s_.2.2 ≠ g) ∧ (gb104 ≠ s_.2.2) ∧ (s_.2.2 ≠ gb104) ∧ (IsS81 w0 w' g s0_0 s0_1) ∧ (KeepBut w w' g none) ∧ (Below w0.heap.size w0 w')) ?_ ?_
          rotate_left
          ·intro hJ0_10
           refine join_ (σ := Unit) 6 #[false, true, true, false, false, true, true, true, true, false, false, false] (fun s_ => [(8, .int .i64 t108), (13, .int .i64 t111), (14, .int .i64 (wrap64 (1 + t111)))]) (fun s_ w' => (w'.heap[gb104]? = some (.cells #[.int .i64 0, .int .i64 0, .int .i64 0, .int .i64 0, .int .i64 0, .int .i64 0] 27 (0, 0))) ∧ (IsS81 w0 w' g s0_0 t112) ∧ (KeepBut w w' g none) ∧ (Below w0.heap.size w0 w')) ?_ ?_
           rotate_left
           ·intro hJ2_7
            refine join_ (σ := Nat) 7 #[false, true, true, false, false, true, true, false, false, false, true, false] (fun s_ => [(8, .int .i64 t108), (5, .pointer (some ⟨s_, 0, none⟩))]) (fun s_ w' => (w'.heap[gb104]? = some (.cells #[.int .i64 0, .int .i64 0, .int .i64 0, .int .i64 0, .int .i64 0, .int .i64 0] 27 (0, 0))) ∧ (w'.heap[s_]? = some (.cells #[.int .i64 0, .int .i64 0, .int .i64 0, .int .i64 0, .int .i64 0, .int .i64 0] 27 (0, 0))) ∧ (w.heap.size ≤ s_) ∧ (w0.heap.size ≤ s_) ∧ (g ≠ s_) ∧ (s_ ≠ g) ∧ (gb104 ≠ s_) ∧ (s_ ≠ gb104) ∧ (IsS81 w0 w' g s0_0 t109) ∧ (KeepBut w w' g none) ∧ (Below w0.heap.size w0 w')) ?_ ?_
            rotate_left
            ·intro hJ2_10
             refine join_ (σ := Value × Addr) 8 #[true, true, false, false, false, true, true, false, false, false, false, false] (fun s_ => [(6, s_.1)]) (fun s_ w' => (Kd.R kI_q 3 w' w.heap.size (fun _ => True) s_.1 y105) ∧ (∃ c_, (s_.1 : Value) = .slice (some s_.2) y105.length c_) ∧ (w'.heap[gb104]? = some (.cells #[.int .i64 0, .int .i64 0, .int .i64 0, .int .i64 0, .int .i64 0, .int .i64 0] 27 (0, 0))) ∧ (IsS81 w0 w' g s0_0 s0_1) ∧ (KeepBut w w' g none) ∧ (Below w0.heap.size w0 w')) ?_ ?_
             rotate_left
             ·intro hJ0
              refine join_ (σ := Unit) 8 #[false, true, true, false, false, true, true, false, false, false, false, false] (fun s_ => [(8, .int .i64 t108)]) (fun s_ w' => (w'.heap[gb104]? = some (.cells #[.int .i64 0, .int .i64 0, .int .i64 0, .int .i64 0, .int .i64 0, .int .i64 0] 27 (0, 0))) ∧ (IsS81 w0 w' g s0_0 t109) ∧ (KeepBut w w' g none) ∧ (Below w0.heap.size w0 w')) ?_ ?_
              rotate_left
              ·intro hJ2
               refine join_ (σ := Nat) 8 #[false, true, false, false, false, true, true, false, false, false, true, false] (fun s_ => [(5, .pointer (some ⟨s_, 0, none⟩))]) (fun s_ w' => (w'.heap[gb104]? = some (.cells #[.int .i64 0, .int .i64 0, .int .i64 0, .int .i64 0, .int .i64 0, .int .i64 0] 27 (0, 0))) ∧ (w'.heap[s_]? = some (.cells #[.int .i64 0, .int .i64 0, .int .i64 0, .int .i64 0, .int .i64 0, .int .i64 0] 27 (0, 0))) ∧ (w.heap.size ≤ s_) ∧ (w0.heap.size ≤ s_) ∧ (g ≠ s_) ∧ (s_ ≠ g) ∧ (gb104 ≠ s_) ∧ (s_ ≠ gb104) ∧ (IsS81 w0 w' g s0_0 s0_1) ∧ (KeepBut w w' g none) ∧ (Below w0.heap.size w0 w')) ?_ ?_
               rotate_left
               ·intro hJ10
                refine three_ (i := 0) (j := 2) (k := 10) (Ni := some 6) (Nj := some 8) (Nk := some 5) #[true, true, false, false, false, true, true, false, false, false, false, false] #[false, true, true, false, false, true, true, false, false, false, false, false] #[false, true, false, false, false, true, true, false, false, false, true, false] rfl rfl rfl rfl rfl rfl (three_of HT_.out (by kernel_rfl)) (by decide) (by decide) (by decide) (fun K hK => ?_) (fun K hK => ?_) (fun K hK => ?_)
                ·skip
                 refine rI_q kI_q _ 3 ?hg (N := 6) ?hd (xs := ([1, 2, 2, 2, 3] : List Int)) (inner := [.int .i64 1, .int .i64 2, .int .i64 2, .int .i64 2, .int .i64 3]) (ok := fun _ => True) (okp := fun _ => True) ?hr ?hp (fun _ hk => hk) trivial (bR_q _ _) (nR_q _) (by simp) ?_; (case hd => rfl); (case hg => rfl); (case hr => first | (go_simp; done) | (go_simp; rfl)); (case hp => exact (Reps.one (show Kd.M kI_q _ _ _ 1 [.int .i64 1] from rfl) (Reps.one (show Kd.M kI_q _ _ _ 2 [.int .i64 2] from rfl) (Reps.one (show Kd.M kI_q _ _ _ 2 [.int .i64 2] from rfl) (Reps.one (show Kd.M kI_q _ _ _ 2 [.int .i64 2] from rfl) (Reps.one (show Kd.M kI_q _ _ _ 3 [.int .i64 3] from rfl) (Reps.none _ _)))))))
                 intro v106 w15 ho16 hb hg_ hnew_
                 clear hg_ hnew_
                 (first | rw [← Ny105.out] at ho16 | (simp only [Int.reduceToNat] at ho16; rw [← Ny105.out] at ho16))
                 have n0_ := Ae_q (rL_q ho16 (keep_size (w := w) (g := g) (row := none) (by repeat (with_reducible first | exact HK.out | apply kS_q | apply kN_q | apply kD_q | apply kA_q | refine kF_q ?_ GW104.out _))))
                 have n1_ := Ae_q (IsS81.below (by repeat (with_reducible first | exact HI0.out | apply i2_q | apply i1_q | apply i0_q | apply i3_q | refine i4_q ?_ NB0_104.out _)) hb)
                 have n2_ := Ae_q (bB_q (g := gb104) (o := .cells #[.int .i64 0, .int .i64 0, .int .i64 0, .int .i64 0, .int .i64 0, .int .i64 0] 27 (0, 0)) (bup BK104.out) hb)
                 have n3_ := Ae_q (kT_q (by repeat (with_reducible first | exact HK.out | apply kS_q | apply kN_q | apply kD_q | apply kA_q | refine kF_q ?_ GW104.out _)) (kO_q hb g none) (.inl rfl))
                 have n4_ := Ae_q (bT_q (by repeat (with_reducible first | exact HB.out | apply bA_q | apply pB_q | apply bD_q | refine bS_q ?_ (i5_q HI0.out) | refine bS_q ?_ GE104.out)) hb)
                 clear HI0
                 clear BK104
                 clear HK
                 clear HB
                 have HO107 := n0_
                 have HI0 := n1_
                 have BK104 := n2_
                 have HK := n3_
                 have HB := n4_
                 clear n0_ n1_ n2_ n3_ n4_
                 clear hb ho16
                 obtain ⟨Ao17, co17, eo17⟩ := rS_q HO107.out
                 subst eo17
                 obtain ⟨ado17, fo17, _⟩ := aI_q (rR_q HO107.out).2.2 0 (by decide) (by rw [Ny105.out]; simp)
                 cases fo17
                 refine hK.out _ _ trivial (fun hHeld => ?_)
                 clear hK K
                 refine norm_ (a' := ?_) ?_ ?_
                 rotate_left
                 ·show Act.put _ (some 6) _ = _
                  simp only [pS_q]
                  rfl
                 exact norm_ (by first | (simp only [putAll, Act.put, sA_q, sZ_q, sS_q]; first | done | rfl)) (hJ0 (.slice (some ado17) y105.length co17, ado17) _ ⟨(rup HO107.out), ⟨_, rfl⟩, (bup BK104.out), (by repeat (with_reducible first | exact HI0.out | apply i2_q | apply i1_q | apply i0_q | apply i3_q | refine i4_q ?_ NB0_104.out _)), (by repeat (with_reducible first | exact HK.out | apply kS_q | apply kN_q | apply kD_q | apply kA_q | refine kF_q ?_ GW104.out _)), (by repeat (with_reducible first | exact HB.out | apply bA_q | apply pB_q | apply bD_q | refine bS_q ?_ (i5_q HI0.out) | refine bS_q ?_ GE104.out))⟩)
                ·skip
                 refine goes_ Try.func49 (by kernel_rfl) rfl #[.pointer (some ⟨g, 0, none⟩), .int .i64 5] (by rfl) rfl rfl (by (try simp only [lM_q, lC_q, lN_q]); first | done | rfl | (simp only [lD_q, lT_q]; rfl)) ?_
                 with_reducible refine (spec_l6Rd_pick.calls k g s0_0 s0_1 5 t108 t109 w0 _ ?side1 ?side2 A3.out).mono ?_
                 (case side1 => repeat (with_reducible first | exact HI0.out | apply i2_q | apply i1_q | apply i0_q | apply i3_q | refine i4_q ?_ NB0_104.out _))
                 (case side2 => repeat (with_reducible first | exact HB.out | apply bA_q | apply pB_q | apply bD_q | refine bS_q ?_ (i5_q HI0.out) | refine bS_q ?_ GE104.out))
                 rintro e w15 ⟨rfl, hi, hb, hk⟩
                 refine ⟨_, rfl, ?_⟩
                 have n0_ := Ae_q (kB_q hk (g' := gb104) (o := .cells #[.int .i64 0, .int .i64 0, .int .i64 0, .int .i64 0, .int .i64 0, .int .i64 0] 27 (0, 0)) (bup BK104.out) NB104_0.out (by simp))
                 have n1_ := Ae_q (kT_q (by repeat (with_reducible first | exact HK.out | apply kS_q | apply kN_q | apply kD_q | apply kA_q | refine kF_q ?_ GW104.out _)) hk (.inl rfl))
                 have n2_ := Ae_q (hb)
                 have n3_ := Ae_q (hi)
                 clear BK104
                 clear HK
                 clear HB
                 clear HI0
                 have BK104 := n0_
                 have HK := n1_
                 have HB := n2_
                 have HI0 := n3_
                 clear n0_ n1_ n2_ n3_
                 (try clear hb)
                 (try clear hb2)
                 (try clear hk)
                 (try clear hi)
                 refine hK.out _ _ trivial (fun hHeld => ?_)
                 clear hK K
                 refine norm_ (a' := ?_) ?_ ?_
                 rotate_left
                 ·show Act.put _ (some 8) _ = _
                  simp only [pS_q]
                  rfl
                 exact norm_ (by first | (simp only [putAll, Act.put, sA_q, sZ_q, sS_q]; first | done | rfl)) (hJ2 () _ ⟨(bup BK104.out), (by repeat (with_reducible first | exact HI0.out | apply i2_q | apply i1_q | apply i0_q | apply i3_q | refine i4_q ?_ NB0_104.out _)), (by repeat (with_reducible first | exact HK.out | apply kS_q | apply kN_q | apply kD_q | apply kA_q | refine kF_q ?_ GW104.out _)), (by repeat (with_reducible first | exact HB.out | apply bA_q | apply pB_q | apply bD_q | refine bS_q ?_ (i5_q HI0.out) | refine bS_q ?_ GE104.out))⟩)
                skip
                refine box_step ?hg (N := 5) ?hd (cs := #[.int .i64 0, .int .i64 0, .int .i64 0, .int .i64 0, .int .i64 0, .int .i64 0]) (t := 27) ?hr ?_; (case hd => rfl); (case hg => rfl); (case hr => first | (go_simp; done) | (go_simp; rfl))
                intro gb113 hg w15 hbox hb
                have n0_ := Ae_q (IsS81.below (by repeat (with_reducible first | exact HI0.out | apply i2_q | apply i1_q | apply i0_q | apply i3_q | refine i4_q ?_ NB0_104.out _)) hb)
                have n1_ := Ae_q (bB_q (g := gb104) (o := .cells #[.int .i64 0, .int .i64 0, .int .i64 0, .int .i64 0, .int .i64 0, .int .i64 0] 27 (0, 0)) (bup BK104.out) hb)
                have n2_ := Ae_q (kT_q (by repeat (with_reducible first | exact HK.out | apply kS_q | apply kN_q | apply kD_q | apply kA_q | refine kF_q ?_ GW104.out _)) (kO_q hb g none) (.inl rfl))
                have n3_ := Ae_q (bT_q (by repeat (with_reducible first | exact HB.out | apply bA_q | apply pB_q | apply bD_q | refine bS_q ?_ (i5_q HI0.out) | refine bS_q ?_ GE104.out)) hb)
                have n4_ := Ae_q (hbox)
                have n5_ := Ae_q ((by rw [hg]; exact (keep_size (w := w) (g := g) (row := none) (by repeat (with_reducible first | exact HK.out | apply kS_q | apply kN_q | apply kD_q | apply kA_q | refine kF_q ?_ GW104.out _))) : w.heap.size ≤ gb113))
                have n6_ := Ae_q ((nT_q HW0.out (by rw [hg]; exact (keep_size (w := w) (g := g) (row := none) (by repeat (with_reducible first | exact HK.out | apply kS_q | apply kN_q | apply kD_q | apply kA_q | refine kF_q ?_ GW104.out _))) : w.heap.size ≤ gb113) : w0.heap.size ≤ gb113))
                have n7_ := Ae_q ((by rw [hg]; exact nL_q (blk_lt (g := gb104) (o := .cells #[.int .i64 0, .int .i64 0, .int .i64 0, .int .i64 0, .int .i64 0, .int .i64 0] 27 (0, 0)) (bup BK104.out)) : gb104 ≠ gb113))
                have n8_ := Ae_q ((by rw [hg]; exact nG_q (blk_lt (g := gb104) (o := .cells #[.int .i64 0, .int .i64 0, .int .i64 0, .int .i64 0, .int .i64 0, .int .i64 0] 27 (0, 0)) (bup BK104.out)) : gb113 ≠ gb104))
                have n9_ := Ae_q ((by rw [hg]; exact nL_q (IsS81.lt (show IsS81 w0 _ g s0_0 s0_1 from by repeat (with_reducible first | exact HI0.out | apply i2_q | apply i1_q | apply i0_q | apply i3_q | refine i4_q ?_ NB0_104.out _))) : g ≠ gb113))
                have n10_ := Ae_q ((by rw [hg]; exact nG_q (IsS81.lt (show IsS81 w0 _ g s0_0 s0_1 from by repeat (with_reducible first | exact HI0.out | apply i2_q | apply i1_q | apply i0_q | apply i3_q | refine i4_q ?_ NB0_104.out _))) : gb113 ≠ g))
                clear HI0
                clear BK104
                clear HK
                clear HB
                have HI0 := n0_
                have BK104 := n1_
                have HK := n2_
                have HB := n3_
                have BK113 := n4_
                have GW113 := n5_
                have GE113 := n6_
                have NB104_113 := n7_
                have NB113_104 := n8_
                have NB0_113 := n9_
                have NB113_0 := n10_
                clear n0_ n1_ n2_ n3_ n4_ n5_ n6_ n7_ n8_ n9_ n10_
                clear hb hbox hg
                refine hK.out _ _ trivial (fun hHeld => ?_)
                clear hK K
                refine norm_ (a' := ?_) ?_ ?_
                rotate_left
                ·show Act.put _ (some 5) _ = _
                 simp only [pS_q]
                 rfl
                exact norm_ (by first | (simp only [putAll, Act.put, sA_q, sZ_q, sS_q]; first | done | rfl)) (hJ10 (gb113) _ ⟨(bup BK104.out), (bup BK113.out), GW113.out, GE113.out, NB0_113.out, NB113_0.out, NB104_113.out, NB113_104.out, (by repeat (with_reducible first | exact HI0.out | apply i2_q | apply i1_q | apply i0_q | apply i3_q | refine i4_q ?_ NB0_104.out _ | refine i4_q ?_ NB0_113.out _)), (by repeat (with_reducible first | exact HK.out | apply kS_q | apply kN_q | apply kD_q | apply kA_q | refine kF_q ?_ GW104.out _ | refine kF_q ?_ GW113.out _)), (by repeat (with_reducible first | exact HB.out | apply bA_q | apply pB_q | apply bD_q | refine bS_q ?_ (i5_q HI0.out) | refine bS_q ?_ GE104.out | refine bS_q ?_ GE113.out))⟩)
               skip
               rintro gb113 w16 ⟨h0_, h1_, h2_, h3_, h4_, h5_, h6_, h7_, h8_, h9_, h10_⟩
               have n0_ : Aside0 (w16.heap[gb104]? = some (.cells #[.int .i64 0, .int .i64 0, .int .i64 0, .int .i64 0, .int .i64 0, .int .i64 0] 27 (0, 0))) := ⟨h0_⟩
               have n1_ : Aside0 (w16.heap[gb113]? = some (.cells #[.int .i64 0, .int .i64 0, .int .i64 0, .int .i64 0, .int .i64 0, .int .i64 0] 27 (0, 0))) := ⟨h1_⟩
               have n2_ : Aside0 (w.heap.size ≤ gb113) := ⟨h2_⟩
               have n3_ : Aside0 (w0.heap.size ≤ gb113) := ⟨h3_⟩
               have n4_ : Aside0 (g ≠ gb113) := ⟨h4_⟩
               have n5_ : Aside0 (gb113 ≠ g) := ⟨h5_⟩
               have n6_ : Aside0 (gb104 ≠ gb113) := ⟨h6_⟩
               have n7_ : Aside0 (gb113 ≠ gb104) := ⟨h7_⟩
               have n8_ : Aside0 (IsS81 w0 w16 g s0_0 s0_1) := ⟨h8_⟩
               have n9_ : Aside0 (KeepBut w w16 g none) := ⟨h9_⟩
               have n10_ : Aside0 (Below w0.heap.size w0 w16) := ⟨h10_⟩
               clear BK104
               clear HI0
               clear HK
               clear HB
               clear h0_ h1_ h2_ h3_ h4_ h5_ h6_ h7_ h8_ h9_ h10_
               have BK104 := n0_
               have BK113 := n1_
               have GW113 := n2_
               have GE113 := n3_
               have NB0_113 := n4_
               have NB113_0 := n5_
               have NB104_113 := n6_
               have NB113_104 := n7_
               have HI0 := n8_
               have HK := n9_
               have HB := n10_
               clear n0_ n1_ n2_ n3_ n4_ n5_ n6_ n7_ n8_ n9_ n10_
               have hHeld := trivial
               refine norm_ (a' := ?_) ?_ ?_
               rotate_left
               ·simp only [putAll, Act.put, sA_q, sZ_q, sS_q]
                rfl
               refine two_ (i := 0) (j := 2) (Ni := some 6) (Nj := some 8) #[true, true, false, false, false, true, true, false, false, false, true, false] #[false, true, true, false, false, true, true, false, false, false, true, false] rfl rfl rfl rfl (two_of HT_.out (by kernel_rfl)) (by decide) (by decide) (fun K hK => ?_) (fun K hK => ?_)
               ·skip
                refine rI_q kI_q _ 3 ?hg (N := 6) ?hd (xs := ([1, 2, 2, 2, 3] : List Int)) (inner := [.int .i64 1, .int .i64 2, .int .i64 2, .int .i64 2, .int .i64 3]) (ok := fun _ => True) (okp := fun _ => True) ?hr ?hp (fun _ hk => hk) trivial (bR_q _ _) (nR_q _) (by simp) ?_; (case hd => rfl); (case hg => rfl); (case hr => first | (go_simp; done) | (go_simp; rfl)); (case hp => exact (Reps.one (show Kd.M kI_q _ _ _ 1 [.int .i64 1] from rfl) (Reps.one (show Kd.M kI_q _ _ _ 2 [.int .i64 2] from rfl) (Reps.one (show Kd.M kI_q _ _ _ 2 [.int .i64 2] from rfl) (Reps.one (show Kd.M kI_q _ _ _ 2 [.int .i64 2] from rfl) (Reps.one (show Kd.M kI_q _ _ _ 3 [.int .i64 3] from rfl) (Reps.none _ _)))))))
                intro v106 w17 ho18 hb hg_ hnew_
                clear hg_ hnew_
                (first | rw [← Ny105.out] at ho18 | (simp only [Int.reduceToNat] at ho18; rw [← Ny105.out] at ho18))
                have n0_ := Ae_q (rL_q ho18 (keep_size (w := w) (g := g) (row := none) (by repeat (with_reducible first | exact HK.out | apply kS_q | apply kN_q | apply kD_q | apply kA_q | refine kF_q ?_ GW104.out _ | refine kF_q ?_ GW113.out _))))
                have n1_ := Ae_q (IsS81.below (by repeat (with_reducible first | exact HI0.out | apply i2_q | apply i1_q | apply i0_q | apply i3_q | refine i4_q ?_ NB0_104.out _ | refine i4_q ?_ NB0_113.out _)) hb)
                have n2_ := Ae_q (bB_q (g := gb104) (o := .cells #[.int .i64 0, .int .i64 0, .int .i64 0, .int .i64 0, .int .i64 0, .int .i64 0] 27 (0, 0)) (bup BK104.out) hb)
                have n3_ := Ae_q (bB_q (g := gb113) (o := .cells #[.int .i64 0, .int .i64 0, .int .i64 0, .int .i64 0, .int .i64 0, .int .i64 0] 27 (0, 0)) (bup BK113.out) hb)
                have n4_ := Ae_q (kT_q (by repeat (with_reducible first | exact HK.out | apply kS_q | apply kN_q | apply kD_q | apply kA_q | refine kF_q ?_ GW104.out _ | refine kF_q ?_ GW113.out _)) (kO_q hb g none) (.inl rfl))
                have n5_ := Ae_q (bT_q (by repeat (with_reducible first | exact HB.out | apply bA_q | apply pB_q | apply bD_q | refine bS_q ?_ (i5_q HI0.out) | refine bS_q ?_ GE104.out | refine bS_q ?_ GE113.out)) hb)
                clear HI0
                clear BK104
                clear BK113
                clear HK
                clear HB
                have HO107 := n0_
                have HI0 := n1_
                have BK104 := n2_
                have BK113 := n3_
                have HK := n4_
                have HB := n5_
                clear n0_ n1_ n2_ n3_ n4_ n5_
                clear hb ho18
                obtain ⟨Ao19, co19, eo19⟩ := rS_q HO107.out
                subst eo19
                obtain ⟨ado19, fo19, _⟩ := aI_q (rR_q HO107.out).2.2 0 (by decide) (by rw [Ny105.out]; simp)
                cases fo19
                refine hK.out _ _ trivial (fun hHeld => ?_)
                clear hK K
                refine norm_ (a' := ?_) ?_ ?_
                rotate_left
                ·show Act.put _ (some 6) _ = _
                 simp only [pS_q]
                 rfl
                exact norm_ (by first | (simp only [putAll, Act.put, sA_q, sZ_q, sS_q]; first | done | rfl)) (hJ0_10 (.slice (some ado19) y105.length co19, ado19, gb113) _ ⟨(rup HO107.out), ⟨_, rfl⟩, (bup BK104.out), (bup BK113.out), GW113.out, GE113.out, NB0_113.out, NB113_0.out, NB104_113.out, NB113_104.out, (by repeat (with_reducible first | exact HI0.out | apply i2_q | apply i1_q | apply i0_q | apply i3_q | refine i4_q ?_ NB0_104.out _ | refine i4_q ?_ NB0_113.out _)), (by repeat (with_reducible first | exact HK.out | apply kS_q | apply kN_q | apply kD_q | apply kA_q | refine kF_q ?_ GW104.out _ | refine kF_q ?_ GW113.out _)), (by repeat (with_reducible first | exact HB.out | apply bA_q | apply pB_q | apply bD_q | refine bS_q ?_ (i5_q HI0.out) | refine bS_q ?_ GE104.out | refine bS_q ?_ GE113.out))⟩)
               skip
               refine goes_ Try.func49 (by kernel_rfl) rfl #[.pointer (some ⟨g, 0, none⟩), .int .i64 5] (by rfl) rfl rfl (by (try simp only [lM_q, lC_q, lN_q]); first | done | rfl | (simp only [lD_q, lT_q]; rfl)) ?_
               with_reducible refine (spec_l6Rd_pick.calls k g s0_0 s0_1 5 t108 t109 w0 _ ?side1 ?side2 A3.out).mono ?_
               (case side1 => repeat (with_reducible first | exact HI0.out | apply i2_q | apply i1_q | apply i0_q | apply i3_q | refine i4_q ?_ NB0_104.out _ | refine i4_q ?_ NB0_113.out _))
               (case side2 => repeat (with_reducible first | exact HB.out | apply bA_q | apply pB_q | apply bD_q | refine bS_q ?_ (i5_q HI0.out) | refine bS_q ?_ GE104.out | refine bS_q ?_ GE113.out))
               rintro e w17 ⟨rfl, hi, hb, hk⟩
               refine ⟨_, rfl, ?_⟩
               have n0_ := Ae_q (kB_q hk (g' := gb104) (o := .cells #[.int .i64 0, .int .i64 0, .int .i64 0, .int .i64 0, .int .i64 0, .int .i64 0] 27 (0, 0)) (bup BK104.out) NB104_0.out (by simp))
               have n1_ := Ae_q (kB_q hk (g' := gb113) (o := .cells #[.int .i64 0, .int .i64 0, .int .i64 0, .int .i64 0, .int .i64 0, .int .i64 0] 27 (0, 0)) (bup BK113.out) NB113_0.out (by simp))
               have n2_ := Ae_q (kT_q (by repeat (with_reducible first | exact HK.out | apply kS_q | apply kN_q | apply kD_q | apply kA_q | refine kF_q ?_ GW104.out _ | refine kF_q ?_ GW113.out _)) hk (.inl rfl))
               have n3_ := Ae_q (hb)
               have n4_ := Ae_q (hi)
               clear BK104
               clear BK113
               clear HK
               clear HB
               clear HI0
               have BK104 := n0_
               have BK113 := n1_
               have HK := n2_
               have HB := n3_
               have HI0 := n4_
               clear n0_ n1_ n2_ n3_ n4_
               (try clear hb)
               (try clear hb2)
               (try clear hk)
               (try clear hi)
               refine hK.out _ _ trivial (fun hHeld => ?_)
               clear hK K
               refine norm_ (a' := ?_) ?_ ?_
               rotate_left
               ·show Act.put _ (some 8) _ = _
                simp only [pS_q]
                rfl
               exact norm_ (by first | (simp only [putAll, Act.put, sA_q, sZ_q, sS_q]; first | done | rfl)) (hJ2_10 (gb113) _ ⟨(bup BK104.out), (bup BK113.out), GW113.out, GE113.out, NB0_113.out, NB113_0.out, NB104_113.out, NB113_104.out, (by repeat (with_reducible first | exact HI0.out | apply i2_q | apply i1_q | apply i0_q | apply i3_q | refine i4_q ?_ NB0_104.out _ | refine i4_q ?_ NB0_113.out _)), (by repeat (with_reducible first | exact HK.out | apply kS_q | apply kN_q | apply kD_q | apply kA_q | refine kF_q ?_ GW104.out _ | refine kF_q ?_ GW113.out _)), (by repeat (with_reducible first | exact HB.out | apply bA_q | apply pB_q | apply bD_q | refine bS_q ?_ (i5_q HI0.out) | refine bS_q ?_ GE104.out | refine bS_q ?_ GE113.out))⟩)
              skip
              rintro _ w16 ⟨h0_, h1_, h2_, h3_⟩
              have n0_ : Aside0 (w16.heap[gb104]? = some (.cells #[.int .i64 0, .int .i64 0, .int .i64 0, .int .i64 0, .int .i64 0, .int .i64 0] 27 (0, 0))) := ⟨h0_⟩
              have n1_ : Aside0 (IsS81 w0 w16 g s0_0 t109) := ⟨h1_⟩
              have n2_ : Aside0 (KeepBut w w16 g none) := ⟨h2_⟩
              have n3_ : Aside0 (Below w0.heap.size w0 w16) := ⟨h3_⟩
              clear BK104
              clear HI0
              clear HK
              clear HB
              clear h0_ h1_ h2_ h3_
              have BK104 := n0_
              have HI0 := n1_
              have HK := n2_
              have HB := n3_
              clear n0_ n1_ n2_ n3_
              have hHeld := trivial
              refine norm_ (a' := ?_) ?_ ?_
              rotate_left
              ·simp only [putAll, Act.put, sA_q, sZ_q, sS_q]
               rfl
              refine three_ (i := 0) (j := 7) (k := 10) (Ni := some 6) (Nj := some 13) (Nk := some 5) #[true, true, true, false, false, true, true, false, false, false, false, false] #[false, true, true, false, false, true, true, true, false, false, false, false] #[false, true, true, false, false, true, true, false, false, false, true, false] rfl rfl rfl rfl rfl rfl (three_of HT_.out (by kernel_rfl)) (by decide) (by decide) (by decide) (fun K hK => ?_) (fun K hK => ?_) (fun K hK => ?_)
              ·skip
               refine rI_q kI_q _ 3 ?hg (N := 6) ?hd (xs := ([1, 2, 2, 2, 3] : List Int)) (inner := [.int .i64 1, .int .i64 2, .int .i64 2, .int .i64 2, .int .i64 3]) (ok := fun _ => True) (okp := fun _ => True) ?hr ?hp (fun _ hk => hk) trivial (bR_q _ _) (nR_q _) (by simp) ?_; (case hd => rfl); (case hg => rfl); (case hr => first | (go_simp; done) | (go_simp; rfl)); (case hp => exact (Reps.one (show Kd.M kI_q _ _ _ 1 [.int .i64 1] from rfl) (Reps.one (show Kd.M kI_q _ _ _ 2 [.int .i64 2] from rfl) (Reps.one (show Kd.M kI_q _ _ _ 2 [.int .i64 2] from rfl) (Reps.one (show Kd.M kI_q _ _ _ 2 [.int .i64 2] from rfl) (Reps.one (show Kd.M kI_q _ _ _ 3 [.int .i64 3] from rfl) (Reps.none _ _)))))))
               intro v106 w17 ho18 hb hg_ hnew_
               clear hg_ hnew_
               (first | rw [← Ny105.out] at ho18 | (simp only [Int.reduceToNat] at ho18; rw [← Ny105.out] at ho18))
               have n0_ := Ae_q (rL_q ho18 (keep_size (w := w) (g := g) (row := none) (by repeat (with_reducible first | exact HK.out | apply kS_q | apply kN_q | apply kD_q | apply kA_q | refine kF_q ?_ GW104.out _))))
               have n1_ := Ae_q (IsS81.below (by repeat (with_reducible first | exact HI0.out | apply i2_q | apply i1_q | apply i0_q | apply i3_q | refine i4_q ?_ NB0_104.out _)) hb)
               have n2_ := Ae_q (bB_q (g := gb104) (o := .cells #[.int .i64 0, .int .i64 0, .int .i64 0, .int .i64 0, .int .i64 0, .int .i64 0] 27 (0, 0)) (bup BK104.out) hb)
               have n3_ := Ae_q (kT_q (by repeat (with_reducible first | exact HK.out | apply kS_q | apply kN_q | apply kD_q | apply kA_q | refine kF_q ?_ GW104.out _)) (kO_q hb g none) (.inl rfl))
               have n4_ := Ae_q (bT_q (by repeat (with_reducible first | exact HB.out | apply bA_q | apply pB_q | apply bD_q | refine bS_q ?_ (i5_q HI0.out) | refine bS_q ?_ GE104.out)) hb)
               clear HI0
               clear BK104
               clear HK
               clear HB
               have HO107 := n0_
               have HI0 := n1_
               have BK104 := n2_
               have HK := n3_
               have HB := n4_
               clear n0_ n1_ n2_ n3_ n4_
               clear hb ho18
               obtain ⟨Ao19, co19, eo19⟩ := rS_q HO107.out
               subst eo19
               obtain ⟨ado19, fo19, _⟩ := aI_q (rR_q HO107.out).2.2 0 (by decide) (by rw [Ny105.out]; simp)
               cases fo19
               refine hK.out _ _ trivial (fun hHeld => ?_)
               clear hK K
               refine norm_ (a' := ?_) ?_ ?_
               rotate_left
               ·show Act.put _ (some 6) _ = _
                simp only [pS_q]
                rfl
               refine pI (v := ?_) (a' := ?_) HT_ 3 9 rfl rfl (by kernel_rfl) (fun _ _ _ h => h) (by rfl) ?_ ?_ ?_
               rotate_left
               ·intro w'
                go_simp
                with_reducible rfl
               rotate_left
               ·simp only [pS_q]
                rfl
               exact norm_ (by first | (simp only [putAll, Act.put, sA_q, sZ_q, sS_q]; first | done | rfl)) (hJ0_2 (.slice (some ado19) y105.length co19, ado19) _ ⟨(rup HO107.out), ⟨_, rfl⟩, (bup BK104.out), (by repeat (with_reducible first | exact HI0.out | apply i2_q | apply i1_q | apply i0_q | apply i3_q | refine i4_q ?_ NB0_104.out _)), (by repeat (with_reducible first | exact HK.out | apply kS_q | apply kN_q | apply kD_q | apply kA_q | refine kF_q ?_ GW104.out _)), (by repeat (with_reducible first | exact HB.out | apply bA_q | apply pB_q | apply bD_q | refine bS_q ?_ (i5_q HI0.out) | refine bS_q ?_ GE104.out))⟩)
              ·skip
               refine goes_ Try.func49 (by kernel_rfl) rfl #[.pointer (some ⟨g, 0, none⟩), .int .i64 4] (by rfl) rfl rfl (by (try simp only [lM_q, lC_q, lN_q]); first | done | rfl | (simp only [lD_q, lT_q]; rfl)) ?_
               with_reducible refine (spec_l6Rd_pick.calls k g s0_0 t109 4 t111 t112 w0 _ ?side1 ?side2 A6.out).mono ?_
               (case side1 => repeat (with_reducible first | exact HI0.out | apply i2_q | apply i1_q | apply i0_q | apply i3_q | refine i4_q ?_ NB0_104.out _))
               (case side2 => repeat (with_reducible first | exact HB.out | apply bA_q | apply pB_q | apply bD_q | refine bS_q ?_ (i5_q HI0.out) | refine bS_q ?_ GE104.out))
               rintro e w17 ⟨rfl, hi, hb, hk⟩
               refine ⟨_, rfl, ?_⟩
               have n0_ := Ae_q (kB_q hk (g' := gb104) (o := .cells #[.int .i64 0, .int .i64 0, .int .i64 0, .int .i64 0, .int .i64 0, .int .i64 0] 27 (0, 0)) (bup BK104.out) NB104_0.out (by simp))
               have n1_ := Ae_q (kT_q (by repeat (with_reducible first | exact HK.out | apply kS_q | apply kN_q | apply kD_q | apply kA_q | refine kF_q ?_ GW104.out _)) hk (.inl rfl))
               have n2_ := Ae_q (hb)
               have n3_ := Ae_q (hi)
               clear BK104
               clear HK
               clear HB
               clear HI0
               have BK104 := n0_
               have HK := n1_
               have HB := n2_
               have HI0 := n3_
               clear n0_ n1_ n2_ n3_
               (try clear hb)
               (try clear hb2)
               (try clear hk)
               (try clear hi)
               refine hK.out _ _ trivial (fun hHeld => ?_)
               clear hK K
               refine norm_ (a' := ?_) ?_ ?_
               rotate_left
               ·show Act.put _ (some 13) _ = _
                simp only [pS_q]
                rfl
               refine pI (v := ?_) (a' := ?_) HT_ 8 14 rfl rfl (by kernel_rfl) (fun _ _ _ h => h) (by rfl) ?_ ?_ ?_
               rotate_left
               ·intro w'
                go_simp
                with_reducible rfl
               rotate_left
               ·simp only [pS_q]
                rfl
               exact norm_ (by first | (simp only [putAll, Act.put, sA_q, sZ_q, sS_q]; first | done | rfl)) (hJ2_7 () _ ⟨(bup BK104.out), (by repeat (with_reducible first | exact HI0.out | apply i2_q | apply i1_q | apply i0_q | apply i3_q | refine i4_q ?_ NB0_104.out _)), (by repeat (with_reducible first | exact HK.out | apply kS_q | apply kN_q | apply kD_q | apply kA_q | refine kF_q ?_ GW104.out _)), (by repeat (with_reducible first | exact HB.out | apply bA_q | apply pB_q | apply bD_q | refine bS_q ?_ (i5_q HI0.out) | refine bS_q ?_ GE104.out))⟩)
              skip
              refine box_step ?hg (N := 5) ?hd (cs := #[.int .i64 0, .int .i64 0, .int .i64 0, .int .i64 0, .int .i64 0, .int .i64 0]) (t := 27) ?hr ?_; (case hd => rfl); (case hg => rfl); (case hr => first | (go_simp; done) | (go_simp; rfl))
              intro gb113 hg w17 hbox hb
              have n0_ := Ae_q (IsS81.below (by repeat (with_reducible first | exact HI0.out | apply i2_q | apply i1_q | apply i0_q | apply i3_q | refine i4_q ?_ NB0_104.out _)) hb)
              have n1_ := Ae_q (bB_q (g := gb104) (o := .cells #[.int .i64 0, .int .i64 0, .int .i64 0, .int .i64 0, .int .i64 0, .int .i64 0] 27 (0, 0)) (bup BK104.out) hb)
              have n2_ := Ae_q (kT_q (by repeat (with_reducible first | exact HK.out | apply kS_q | apply kN_q | apply kD_q | apply kA_q | refine kF_q ?_ GW104.out _)) (kO_q hb g none) (.inl rfl))
              have n3_ := Ae_q (bT_q (by repeat (with_reducible first | exact HB.out | apply bA_q | apply pB_q | apply bD_q | refine bS_q ?_ (i5_q HI0.out) | refine bS_q ?_ GE104.out)) hb)
              have n4_ := Ae_q (hbox)
              have n5_ := Ae_q ((by rw [hg]; exact (keep_size (w := w) (g := g) (row := none) (by repeat (with_reducible first | exact HK.out | apply kS_q | apply kN_q | apply kD_q | apply kA_q | refine kF_q ?_ GW104.out _))) : w.heap.size ≤ gb113))
              have n6_ := Ae_q ((nT_q HW0.out (by rw [hg]; exact (keep_size (w := w) (g := g) (row := none) (by repeat (with_reducible first | exact HK.out | apply kS_q | apply kN_q | apply kD_q | apply kA_q | refine kF_q ?_ GW104.out _))) : w.heap.size ≤ gb113) : w0.heap.size ≤ gb113))
              have n7_ := Ae_q ((by rw [hg]; exact nL_q (blk_lt (g := gb104) (o := .cells #[.int .i64 0, .int .i64 0, .int .i64 0, .int .i64 0, .int .i64 0, .int .i64 0] 27 (0, 0)) (bup BK104.out)) : gb104 ≠ gb113))
              have n8_ := Ae_q ((by rw [hg]; exact nG_q (blk_lt (g := gb104) (o := .cells #[.int .i64 0, .int .i64 0, .int .i64 0, .int .i64 0, .int .i64 0, .int .i64 0] 27 (0, 0)) (bup BK104.out)) : gb113 ≠ gb104))
              have n9_ := Ae_q ((by rw [hg]; exact nL_q (IsS81.lt (show IsS81 w0 _ g s0_0 t109 from by repeat (with_reducible first | exact HI0.out | apply i2_q | apply i1_q | apply i0_q | apply i3_q | refine i4_q ?_ NB0_104.out _))) : g ≠ gb113))
              have n10_ := Ae_q ((by rw [hg]; exact nG_q (IsS81.lt (show IsS81 w0 _ g s0_0 t109 from by repeat (with_reducible first | exact HI0.out | apply i2_q | apply i1_q | apply i0_q | apply i3_q | refine i4_q ?_ NB0_104.out _))) : gb113 ≠ g))
              clear HI0
              clear BK104
              clear HK
              clear HB
              have HI0 := n0_
              have BK104 := n1_
              have HK := n2_
              have HB := n3_
              have BK113 := n4_
              have GW113 := n5_
              have GE113 := n6_
              have NB104_113 := n7_
              have NB113_104 := n8_
              have NB0_113 := n9_
              have NB113_0 := n10_
              clear n0_ n1_ n2_ n3_ n4_ n5_ n6_ n7_ n8_ n9_ n10_
              clear hb hbox hg
              refine hK.out _ _ trivial (fun hHeld => ?_)
              clear hK K
              refine norm_ (a' := ?_) ?_ ?_
              rotate_left
              ·show Act.put _ (some 5) _ = _
               simp only [pS_q]
               rfl
              exact norm_ (by first | (simp only [putAll, Act.put, sA_q, sZ_q, sS_q]; first | done | rfl)) (hJ2_10 (gb113) _ ⟨(bup BK104.out), (bup BK113.out), GW113.out, GE113.out, NB0_113.out, NB113_0.out, NB104_113.out, NB113_104.out, (by repeat (with_reducible first | exact HI0.out | apply i2_q | apply i1_q | apply i0_q | apply i3_q | refine i4_q ?_ NB0_104.out _ | refine i4_q ?_ NB0_113.out _)), (by repeat (with_reducible first | exact HK.out | apply kS_q | apply kN_q | apply kD_q | apply kA_q | refine kF_q ?_ GW104.out _ | refine kF_q ?_ GW113.out _)), (by repeat (with_reducible first | exact HB.out | apply bA_q | apply pB_q | apply bD_q | refine bS_q ?_ (i5_q HI0.out) | refine bS_q ?_ GE104.out | refine bS_q ?_ GE113.out))⟩)
             skip
             rintro ⟨v106, adz_v106⟩ w18 ⟨h0_, h1_, h2_, h3_, h4_, h5_⟩
             have n0_ : Aside0 (Kd.R kI_q 3 w18 w.heap.size (fun _ => True) v106 y105) := ⟨h0_⟩
             have n1_ : Aside0 (∃ c_, (v106 : Value) = .slice (some adz_v106) y105.length c_) := ⟨h1_⟩
             have n2_ : Aside0 (w18.heap[gb104]? = some (.cells #[.int .i64 0, .int .i64 0, .int .i64 0, .int .i64 0, .int .i64 0, .int .i64 0] 27 (0, 0))) := ⟨h2_⟩
             have n3_ : Aside0 (IsS81 w0 w18 g s0_0 s0_1) := ⟨h3_⟩
             have n4_ : Aside0 (KeepBut w w18 g none) := ⟨h4_⟩
             have n5_ : Aside0 (Below w0.heap.size w0 w18) := ⟨h5_⟩
             clear BK104
             clear HI0
             clear HK
             clear HB
             clear h0_ h1_ h2_ h3_ h4_ h5_
             have HO107 := n0_
             have HA_HO107 := n1_
             have BK104 := n2_
             have HI0 := n3_
             have HK := n4_
             have HB := n5_
             clear n0_ n1_ n2_ n3_ n4_ n5_
             have hHeld := trivial
             obtain ⟨co19, eo19⟩ := HA_HO107.out
             clear HA_HO107
             subst eo19
             refine norm_ (a' := ?_) ?_ ?_
             rotate_left
             ·simp only [putAll, Act.put, sA_q, sZ_q, sS_q]
              rfl
             refine two_ (i := 2) (j := 10) (Ni := some 8) (Nj := some 5) #[true, true, true, false, false, true, true, false, false, false, false, false] #[true, true, false, false, false, true, true, false, false, false, true, false] rfl rfl rfl rfl (two_of HT_.out (by kernel_rfl)) (by decide) (by decide) (fun K hK => ?_) (fun K hK => ?_)
             ·skip
              refine goes_ Try.func49 (by kernel_rfl) rfl #[.pointer (some ⟨g, 0, none⟩), .int .i64 5] (by rfl) rfl rfl (by (try simp only [lM_q, lC_q, lN_q]); first | done | rfl | (simp only [lD_q, lT_q]; rfl)) ?_
              with_reducible refine (spec_l6Rd_pick.calls k g s0_0 s0_1 5 t108 t109 w0 _ ?side1 ?side2 A3.out).mono ?_
              (case side1 => repeat (with_reducible first | exact HI0.out | apply i2_q | apply i1_q | apply i0_q | apply i3_q | refine i4_q ?_ NB0_104.out _))
              (case side2 => repeat (with_reducible first | exact HB.out | apply bA_q | apply pB_q | apply bD_q | refine bS_q ?_ (i5_q HI0.out) | refine bS_q ?_ GE104.out))
              rintro e w20 ⟨rfl, hi, hb, hk⟩
              refine ⟨_, rfl, ?_⟩
              have n0_ := Ae_q (kB_q hk (g' := gb104) (o := .cells #[.int .i64 0, .int .i64 0, .int .i64 0, .int .i64 0, .int .i64 0, .int .i64 0] 27 (0, 0)) (bup BK104.out) NB104_0.out (by simp))
              have n1_ := Ae_q (rM_q (rK_q (i6_q (show IsS81 w0 _ g s0_0 s0_1 from by repeat (with_reducible first | exact HI0.out | apply i2_q | apply i1_q | apply i0_q | apply i3_q | refine i4_q ?_ NB0_104.out _)) (rup HO107.out) (by decide)) hk (fun _ h => h.2)) (fun _ h => h.1))
              have n2_ := Ae_q (kT_q (by repeat (with_reducible first | exact HK.out | apply kS_q | apply kN_q | apply kD_q | apply kA_q | refine kF_q ?_ GW104.out _)) hk (.inl rfl))
              have n3_ := Ae_q (hb)
              have n4_ := Ae_q (hi)
              clear BK104
              clear HO107
              clear HK
              clear HB
              clear HI0
              have BK104 := n0_
              have HO107 := n1_
              have HK := n2_
              have HB := n3_
              have HI0 := n4_
              clear n0_ n1_ n2_ n3_ n4_
              (try clear hb)
              (try clear hb2)
              (try clear hk)
              (try clear hi)
              refine hK.out _ _ trivial (fun hHeld => ?_)
              clear hK K
              refine norm_ (a' := ?_) ?_ ?_
              rotate_left
              ·show Act.put _ (some 8) _ = _
               simp only [pS_q]
               rfl
              refine pI (v := ?_) (a' := ?_) HT_ 3 9 rfl rfl (by kernel_rfl) (fun _ _ _ h => h) (by rfl) ?_ ?_ ?_
              rotate_left
              ·intro w'
               go_simp
               with_reducible rfl
              rotate_left
              ·simp only [pS_q]
               rfl
              exact norm_ (by first | (simp only [putAll, Act.put, sA_q, sZ_q, sS_q]; first | done | rfl)) (hJ0_2 (.slice (some adz_v106) y105.length co19, adz_v106) _ ⟨(rup HO107.out), ⟨_, rfl⟩, (bup BK104.out), (by repeat (with_reducible first | exact HI0.out | apply i2_q | apply i1_q | apply i0_q | apply i3_q | refine i4_q ?_ NB0_104.out _)), (by repeat (with_reducible first | exact HK.out | apply kS_q | apply kN_q | apply kD_q | apply kA_q | refine kF_q ?_ GW104.out _)), (by repeat (with_reducible first | exact HB.out | apply bA_q | apply pB_q | apply bD_q | refine bS_q ?_ (i5_q HI0.out) | refine bS_q ?_ GE104.out))⟩)
             skip
             refine box_step ?hg (N := 5) ?hd (cs := #[.int .i64 0, .int .i64 0, .int .i64 0, .int .i64 0, .int .i64 0, .int .i64 0]) (t := 27) ?hr ?_; (case hd => rfl); (case hg => rfl); (case hr => first | (go_simp; done) | (go_simp; rfl))
             intro gb113 hg w20 hbox hb
             have n0_ := Ae_q (rO_q (rup HO107.out) hb)
             have n1_ := Ae_q (IsS81.below (by repeat (with_reducible first | exact HI0.out | apply i2_q | apply i1_q | apply i0_q | apply i3_q | refine i4_q ?_ NB0_104.out _)) hb)
             have n2_ := Ae_q (bB_q (g := gb104) (o := .cells #[.int .i64 0, .int .i64 0, .int .i64 0, .int .i64 0, .int .i64 0, .int .i64 0] 27 (0, 0)) (bup BK104.out) hb)
             have n3_ := Ae_q (kT_q (by repeat (with_reducible first | exact HK.out | apply kS_q | apply kN_q | apply kD_q | apply kA_q | refine kF_q ?_ GW104.out _)) (kO_q hb g none) (.inl rfl))
             have n4_ := Ae_q (bT_q (by repeat (with_reducible first | exact HB.out | apply bA_q | apply pB_q | apply bD_q | refine bS_q ?_ (i5_q HI0.out) | refine bS_q ?_ GE104.out)) hb)
             have n5_ := Ae_q (hbox)
             have n6_ := Ae_q ((by rw [hg]; exact (keep_size (w := w) (g := g) (row := none) (by repeat (with_reducible first | exact HK.out | apply kS_q | apply kN_q | apply kD_q | apply kA_q | refine kF_q ?_ GW104.out _))) : w.heap.size ≤ gb113))
             have n7_ := Ae_q ((nT_q HW0.out (by rw [hg]; exact (keep_size (w := w) (g := g) (row := none) (by repeat (with_reducible first | exact HK.out | apply kS_q | apply kN_q | apply kD_q | apply kA_q | refine kF_q ?_ GW104.out _))) : w.heap.size ≤ gb113) : w0.heap.size ≤ gb113))
             have n8_ := Ae_q ((by rw [hg]; exact nL_q (blk_lt (g := gb104) (o := .cells #[.int .i64 0, .int .i64 0, .int .i64 0, .int .i64 0, .int .i64 0, .int .i64 0] 27 (0, 0)) (bup BK104.out)) : gb104 ≠ gb113))
             have n9_ := Ae_q ((by rw [hg]; exact nG_q (blk_lt (g := gb104) (o := .cells #[.int .i64 0, .int .i64 0, .int .i64 0, .int .i64 0, .int .i64 0, .int .i64 0] 27 (0, 0)) (bup BK104.out)) : gb113 ≠ gb104))
             have n10_ := Ae_q ((by rw [hg]; exact nL_q (IsS81.lt (show IsS81 w0 _ g s0_0 s0_1 from by repeat (with_reducible first | exact HI0.out | apply i2_q | apply i1_q | apply i0_q | apply i3_q | refine i4_q ?_ NB0_104.out _))) : g ≠ gb113))
             have n11_ := Ae_q ((by rw [hg]; exact nG_q (IsS81.lt (show IsS81 w0 _ g s0_0 s0_1 from by repeat (with_reducible first | exact HI0.out | apply i2_q | apply i1_q | apply i0_q | apply i3_q | refine i4_q ?_ NB0_104.out _))) : gb113 ≠ g))
             clear HO107
             clear HI0
             clear BK104
             clear HK
             clear HB
             have HO107 := n0_
             have HI0 := n1_
             have BK104 := n2_
             have HK := n3_
             have HB := n4_
             have BK113 := n5_
             have GW113 := n6_
             have GE113 := n7_
             have NB104_113 := n8_
             have NB113_104 := n9_
             have NB0_113 := n10_
             have NB113_0 := n11_
             clear n0_ n1_ n2_ n3_ n4_ n5_ n6_ n7_ n8_ n9_ n10_ n11_
             clear hb hbox hg
             refine hK.out _ _ trivial (fun hHeld => ?_)
             clear hK K
             refine norm_ (a' := ?_) ?_ ?_
             rotate_left
             ·show Act.put _ (some 5) _ = _
              simp only [pS_q]
              rfl
             exact norm_ (by first | (simp only [putAll, Act.put, sA_q, sZ_q, sS_q]; first | done | rfl)) (hJ0_10 (.slice (some adz_v106) y105.length co19, adz_v106, gb113) _ ⟨(rup HO107.out), ⟨_, rfl⟩, (bup BK104.out), (bup BK113.out), GW113.out, GE113.out, NB0_113.out, NB113_0.out, NB104_113.out, NB113_104.out, (by repeat (with_reducible first | exact HI0.out | apply i2_q | apply i1_q | apply i0_q | apply i3_q | refine i4_q ?_ NB0_104.out _ | refine i4_q ?_ NB0_113.out _)), (by repeat (with_reducible first | exact HK.out | apply kS_q | apply kN_q | apply kD_q | apply kA_q | refine kF_q ?_ GW104.out _ | refine kF_q ?_ GW113.out _)), (by repeat (with_reducible first | exact HB.out | apply bA_q | apply pB_q | apply bD_q | refine bS_q ?_ (i5_q HI0.out) | refine bS_q ?_ GE104.out | refine bS_q ?_ GE113.out))⟩)
            skip
            rintro gb113 w17 ⟨h0_, h1_, h2_, h3_, h4_, h5_, h6_, h7_, h8_, h9_, h10_⟩
            have n0_ : Aside0 (w17.heap[gb104]? = some (.cells #[.int .i64 0, .int .i64 0, .int .i64 0, .int .i64 0, .int .i64 0, .int .i64 0] 27 (0, 0))) := ⟨h0_⟩
            have n1_ : Aside0 (w17.heap[gb113]? = some (.cells #[.int .i64 0, .int .i64 0, .int .i64 0, .int .i64 0, .int .i64 0, .int .i64 0] 27 (0, 0))) := ⟨h1_⟩
            have n2_ : Aside0 (w.heap.size ≤ gb113) := ⟨h2_⟩
            have n3_ : Aside0 (w0.heap.size ≤ gb113) := ⟨h3_⟩
            have n4_ : Aside0 (g ≠ gb113) := ⟨h4_⟩
            have n5_ : Aside0 (gb113 ≠ g) := ⟨h5_⟩
            have n6_ : Aside0 (gb104 ≠ gb113) := ⟨h6_⟩
            have n7_ : Aside0 (gb113 ≠ gb104) := ⟨h7_⟩
            have n8_ : Aside0 (IsS81 w0 w17 g s0_0 t109) := ⟨h8_⟩
            have n9_ : Aside0 (KeepBut w w17 g none) := ⟨h9_⟩
            have n10_ : Aside0 (Below w0.heap.size w0 w17) := ⟨h10_⟩
            clear BK104
            clear HI0
            clear HK
            clear HB
            clear h0_ h1_ h2_ h3_ h4_ h5_ h6_ h7_ h8_ h9_ h10_
            have BK104 := n0_
            have BK113 := n1_
            have GW113 := n2_
            have GE113 := n3_
            have NB0_113 := n4_
            have NB113_0 := n5_
            have NB104_113 := n6_
            have NB113_104 := n7_
            have HI0 := n8_
            have HK := n9_
            have HB := n10_
            clear n0_ n1_ n2_ n3_ n4_ n5_ n6_ n7_ n8_ n9_ n10_
            have hHeld := trivial
            refine norm_ (a' := ?_) ?_ ?_
            rotate_left
            ·simp only [putAll, Act.put, sA_q, sZ_q, sS_q]
             rfl
            refine two_ (i := 0) (j := 7) (Ni := some 6) (Nj := some 13) #[true, true, true, false, false, true, true, false, false, false, true, false] #[false, true, true, false, false, true, true, true, false, false, true, false] rfl rfl rfl rfl (two_of HT_.out (by kernel_rfl)) (by decide) (by decide) (fun K hK => ?_) (fun K hK => ?_)
            ·skip
             refine rI_q kI_q _ 3 ?hg (N := 6) ?hd (xs := ([1, 2, 2, 2, 3] : List Int)) (inner := [.int .i64 1, .int .i64 2, .int .i64 2, .int .i64 2, .int .i64 3]) (ok := fun _ => True) (okp := fun _ => True) ?hr ?hp (fun _ hk => hk) trivial (bR_q _ _) (nR_q _) (by simp) ?_; (case hd => rfl); (case hg => rfl); (case hr => first | (go_simp; done) | (go_simp; rfl)); (case hp => exact (Reps.one (show Kd.M kI_q _ _ _ 1 [.int .i64 1] from rfl) (Reps.one (show Kd.M kI_q _ _ _ 2 [.int .i64 2] from rfl) (Reps.one (show Kd.M kI_q _ _ _ 2 [.int .i64 2] from rfl) (Reps.one (show Kd.M kI_q _ _ _ 2 [.int .i64 2] from rfl) (Reps.one (show Kd.M kI_q _ _ _ 3 [.int .i64 3] from rfl) (Reps.none _ _)))))))
             intro v106 w18 ho19 hb hg_ hnew_
             clear hg_ hnew_
             (first | rw [← Ny105.out] at ho19 | (simp only [Int.reduceToNat] at ho19; rw [← Ny105.out] at ho19))
             have n0_ := Ae_q (rL_q ho19 (keep_size (w := w) (g := g) (row := none) (by repeat (with_reducible first | exact HK.out | apply kS_q | apply kN_q | apply kD_q | apply kA_q | refine kF_q ?_ GW104.out _ | refine kF_q ?_ GW113.out _))))
             have n1_ := Ae_q (IsS81.below (by repeat (with_reducible first | exact HI0.out | apply i2_q | apply i1_q | apply i0_q | apply i3_q | refine i4_q ?_ NB0_104.out _ | refine i4_q ?_ NB0_113.out _)) hb)
             have n2_ := Ae_q (bB_q (g := gb104) (o := .cells #[.int .i64 0, .int .i64 0, .int .i64 0, .int .i64 0, .int .i64 0, .int .i64 0] 27 (0, 0)) (bup BK104.out) hb)
             have n3_ := Ae_q (bB_q (g := gb113) (o := .cells #[.int .i64 0, .int .i64 0, .int .i64 0, .int .i64 0, .int .i64 0, .int .i64 0] 27 (0, 0)) (bup BK113.out) hb)
             have n4_ := Ae_q (kT_q (by repeat (with_reducible first | exact HK.out | apply kS_q | apply kN_q | apply kD_q | apply kA_q | refine kF_q ?_ GW104.out _ | refine kF_q ?_ GW113.out _)) (kO_q hb g none) (.inl rfl))
             have n5_ := Ae_q (bT_q (by repeat (with_reducible first | exact HB.out | apply bA_q | apply pB_q | apply bD_q | refine bS_q ?_ (i5_q HI0.out) | refine bS_q ?_ GE104.out | refine bS_q ?_ GE113.out)) hb)
             clear HI0
             clear BK104
             clear BK113
             clear HK
             clear HB
             have HO107 := n0_
             have HI0 := n1_
             have BK104 := n2_
             have BK113 := n3_
             have HK := n4_
             have HB := n5_
             clear n0_ n1_ n2_ n3_ n4_ n5_
             clear hb ho19
             obtain ⟨Ao20, co20, eo20⟩ := rS_q HO107.out
             subst eo20
             obtain ⟨ado20, fo20, _⟩ := aI_q (rR_q HO107.out).2.2 0 (by decide) (by rw [Ny105.out]; simp)
             cases fo20
             refine hK.out _ _ trivial (fun hHeld => ?_)
             clear hK K
             refine norm_ (a' := ?_) ?_ ?_
             rotate_left
             ·show Act.put _ (some 6) _ = _
              simp only [pS_q]
              rfl
             refine pI (v := ?_) (a' := ?_) HT_ 3 9 rfl rfl (by kernel_rfl) (fun _ _ _ h => h) (by rfl) ?_ ?_ ?_
             rotate_left
             ·intro w'
              go_simp
              with_reducible rfl
             rotate_left
             ·simp only [pS_q]
              rfl
             exact norm_ (by first | (simp only [putAll, Act.put, sA_q, sZ_q, sS_q]; first | done | rfl)) (hJ0_2_10 (.slice (some ado20) y105.length co20, ado20, gb113) _ ⟨(rup HO107.out), ⟨_, rfl⟩, (bup BK104.out), (bup BK113.out), GW113.out, GE113.out, NB0_113.out, NB113_0.out, NB104_113.out, NB113_104.out, (by repeat (with_reducible first | exact HI0.out | apply i2_q | apply i1_q | apply i0_q | apply i3_q | refine i4_q ?_ NB0_104.out _ | refine i4_q ?_ NB0_113.out _)), (by repeat (with_reducible first | exact HK.out | apply kS_q | apply kN_q | apply kD_q | apply kA_q | refine kF_q ?_ GW104.out _ | refine kF_q ?_ GW113.out _)), (by repeat (with_reducible first | exact HB.out | apply bA_q | apply pB_q | apply bD_q | refine bS_q ?_ (i5_q HI0.out) | refine bS_q ?_ GE104.out | refine bS_q ?_ GE113.out))⟩)
            skip
            refine goes_ Try.func49 (by kernel_rfl) rfl #[.pointer (some ⟨g, 0, none⟩), .int .i64 4] (by rfl) rfl rfl (by (try simp only [lM_q, lC_q, lN_q]); first | done | rfl | (simp only [lD_q, lT_q]; rfl)) ?_
            with_reducible refine (spec_l6Rd_pick.calls k g s0_0 t109 4 t111 t112 w0 _ ?side1 ?side2 A6.out).mono ?_
            (case side1 => repeat (with_reducible first | exact HI0.out | apply i2_q | apply i1_q | apply i0_q | apply i3_q | refine i4_q ?_ NB0_104.out _ | refine i4_q ?_ NB0_113.out _))
            (case side2 => repeat (with_reducible first | exact HB.out | apply bA_q | apply pB_q | apply bD_q | refine bS_q ?_ (i5_q HI0.out) | refine bS_q ?_ GE104.out | refine bS_q ?_ GE113.out))
            rintro e w18 ⟨rfl, hi, hb, hk⟩
            refine ⟨_, rfl, ?_⟩
            have n0_ := Ae_q (kB_q hk (g' := gb104) (o := .cells #[.int .i64 0, .int .i64 0, .int .i64 0, .int .i64 0, .int .i64 0, .int .i64 0] 27 (0, 0)) (bup BK104.out) NB104_0.out (by simp))
            have n1_ := Ae_q (kB_q hk (g' := gb113) (o := .cells #[.int .i64 0, .int .i64 0, .int .i64 0, .int .i64 0, .int .i64 0, .int .i64 0] 27 (0, 0)) (bup BK113.out) NB113_0.out (by simp))
            have n2_ := Ae_q (kT_q (by repeat (with_reducible first | exact HK.out | apply kS_q | apply kN_q | apply kD_q | apply kA_q | refine kF_q ?_ GW104.out _ | refine kF_q ?_ GW113.out _)) hk (.inl rfl))
            have n3_ := Ae_q (hb)
            have n4_ := Ae_q (hi)
            clear BK104
            clear BK113
            clear HK
            clear HB
            clear HI0
            have BK104 := n0_
            have BK113 := n1_
            have HK := n2_
            have HB := n3_
            have HI0 := n4_
            clear n0_ n1_ n2_ n3_ n4_
            (try clear hb)
            (try clear hb2)
            (try clear hk)
            (try clear hi)
            refine hK.out _ _ trivial (fun hHeld => ?_)
            clear hK K
            refine norm_ (a' := ?_) ?_ ?_
            rotate_left
            ·show Act.put _ (some 13) _ = _
             simp only [pS_q]
             rfl
            refine pI (v := ?_) (a' := ?_) HT_ 8 14 rfl rfl (by kernel_rfl) (fun _ _ _ h => h) (by rfl) ?_ ?_ ?_
            rotate_left
            ·intro w'
             go_simp
             with_reducible rfl
            rotate_left
            ·simp only [pS_q]
             rfl
            exact norm_ (by first | (simp only [putAll, Act.put, sA_q, sZ_q, sS_q]; first | done | rfl)) (hJ2_7_10 (gb113) _ ⟨(bup BK104.out), (bup BK113.out), GW113.out, GE113.out, NB0_113.out, NB113_0.out, NB104_113.out, NB113_104.out, (by repeat (with_reducible first | exact HI0.out | apply i2_q | apply i1_q | apply i0_q | apply i3_q | refine i4_q ?_ NB0_104.out _ | refine i4_q ?_ NB0_113.out _)), (by repeat (with_reducible first | exact HK.out | apply kS_q | apply kN_q | apply kD_q | apply kA_q | refine kF_q ?_ GW104.out _ | refine kF_q ?_ GW113.out _)), (by repeat (with_reducible first | exact HB.out | apply bA_q | apply pB_q | apply bD_q | refine bS_q ?_ (i5_q HI0.out) | refine bS_q ?_ GE104.out | refine bS_q ?_ GE113.out))⟩)
           skip
           rintro _ w17 ⟨h0_, h1_, h2_, h3_⟩
           have n0_ : Aside0 (w17.heap[gb104]? = some (.cells #[.int .i64 0, .int .i64 0, .int .i64 0, .int .i64 0, .int .i64 0, .int .i64 0] 27 (0, 0))) := ⟨h0_⟩
           have n1_ : Aside0 (IsS81 w0 w17 g s0_0 t112) := ⟨h1_⟩
           have n2_ : Aside0 (KeepBut w w17 g none) := ⟨h2_⟩
           have n3_ : Aside0 (Below w0.heap.size w0 w17) := ⟨h3_⟩
           clear BK104
           clear HI0
           clear HK
           clear HB
           clear h0_ h1_ h2_ h3_
           have BK104 := n0_
           have HI0 := n1_
           have HK := n2_
           have HB := n3_
           clear n0_ n1_ n2_ n3_
           have hHeld := trivial
           refine norm_ (a' := ?_) ?_ ?_
           rotate_left
           ·simp only [putAll, Act.put, sA_q, sZ_q, sS_q]
            rfl
           refine two_ (i := 0) (j := 10) (Ni := some 6) (Nj := some 5) #[true, true, true, false, false, true, true, true, true, false, false, false] #[false, true, true, false, false, true, true, true, true, false, true, false] rfl rfl rfl rfl (two_of HT_.out (by kernel_rfl)) (by decide) (by decide) (fun K hK => ?_) (fun K hK => ?_)
           ·skip
            refine rI_q kI_q _ 3 ?hg (N := 6) ?hd (xs := ([1, 2, 2, 2, 3] : List Int)) (inner := [.int .i64 1, .int .i64 2, .int .i64 2, .int .i64 2, .int .i64 3]) (ok := fun _ => True) (okp := fun _ => True) ?hr ?hp (fun _ hk => hk) trivial (bR_q _ _) (nR_q _) (by simp) ?_; (case hd => rfl); (case hg => rfl); (case hr => first | (go_simp; done) | (go_simp; rfl)); (case hp => exact (Reps.one (show Kd.M kI_q _ _ _ 1 [.int .i64 1] from rfl) (Reps.one (show Kd.M kI_q _ _ _ 2 [.int .i64 2] from rfl) (Reps.one (show Kd.M kI_q _ _ _ 2 [.int .i64 2] from rfl) (Reps.one (show Kd.M kI_q _ _ _ 2 [.int .i64 2] from rfl) (Reps.one (show Kd.M kI_q _ _ _ 3 [.int .i64 3] from rfl) (Reps.none _ _)))))))
            intro v106 w18 ho19 hb hg_ hnew_
            clear hg_ hnew_
            (first | rw [← Ny105.out] at ho19 | (simp only [Int.reduceToNat] at ho19; rw [← Ny105.out] at ho19))
            have n0_ := Ae_q (rL_q ho19 (keep_size (w := w) (g := g) (row := none) (by repeat (with_reducible first | exact HK.out | apply kS_q | apply kN_q | apply kD_q | apply kA_q | refine kF_q ?_ GW104.out _))))
            have n1_ := Ae_q (IsS81.below (by repeat (with_reducible first | exact HI0.out | apply i2_q | apply i1_q | apply i0_q | apply i3_q | refine i4_q ?_ NB0_104.out _)) hb)
            have n2_ := Ae_q (bB_q (g := gb104) (o := .cells #[.int .i64 0, .int .i64 0, .int .i64 0, .int .i64 0, .int .i64 0, .int .i64 0] 27 (0, 0)) (bup BK104.out) hb)
            have n3_ := Ae_q (kT_q (by repeat (with_reducible first | exact HK.out | apply kS_q | apply kN_q | apply kD_q | apply kA_q | refine kF_q ?_ GW104.out _)) (kO_q hb g none) (.inl rfl))
            have n4_ := Ae_q (bT_q (by repeat (with_reducible first | exact HB.out | apply bA_q | apply pB_q | apply bD_q | refine bS_q ?_ (i5_q HI0.out) | refine bS_q ?_ GE104.out)) hb)
            clear HI0
            clear BK104
            clear HK
            clear HB
            have HO107 := n0_
            have HI0 := n1_
            have BK104 := n2_
            have HK := n3_
            have HB := n4_
            clear n0_ n1_ n2_ n3_ n4_
            clear hb ho19
            obtain ⟨Ao20, co20, eo20⟩ := rS_q HO107.out
            subst eo20
            obtain ⟨ado20, fo20, _⟩ := aI_q (rR_q HO107.out).2.2 0 (by decide) (by rw [Ny105.out]; simp)
            cases fo20
            refine hK.out _ _ trivial (fun hHeld => ?_)
            clear hK K
            refine norm_ (a' := ?_) ?_ ?_
            rotate_left
            ·show Act.put _ (some 6) _ = _
             simp only [pS_q]
             rfl
            refine pI (v := ?_) (a' := ?_) HT_ 3 9 rfl rfl (by kernel_rfl) (fun _ _ _ h => h) (by rfl) ?_ ?_ ?_
            rotate_left
            ·intro w'
             go_simp
             with_reducible rfl
            rotate_left
            ·simp only [pS_q]
             rfl
            exact norm_ (by first | (simp only [putAll, Act.put, sA_q, sZ_q, sS_q]; first | done | rfl)) (hJ0_2_7 (.slice (some ado20) y105.length co20, ado20) _ ⟨(rup HO107.out), ⟨_, rfl⟩, (bup BK104.out), (by repeat (with_reducible first | exact HI0.out | apply i2_q | apply i1_q | apply i0_q | apply i3_q | refine i4_q ?_ NB0_104.out _)), (by repeat (with_reducible first | exact HK.out | apply kS_q | apply kN_q | apply kD_q | apply kA_q | refine kF_q ?_ GW104.out _)), (by repeat (with_reducible first | exact HB.out | apply bA_q | apply pB_q | apply bD_q | refine bS_q ?_ (i5_q HI0.out) | refine bS_q ?_ GE104.out))⟩)
           skip
           refine box_step ?hg (N := 5) ?hd (cs := #[.int .i64 0, .int .i64 0, .int .i64 0, .int .i64 0, .int .i64 0, .int .i64 0]) (t := 27) ?hr ?_; (case hd => rfl); (case hg => rfl); (case hr => first | (go_simp; done) | (go_simp; rfl))
           intro gb113 hg w18 hbox hb
           have n0_ := Ae_q (IsS81.below (by repeat (with_reducible first | exact HI0.out | apply i2_q | apply i1_q | apply i0_q | apply i3_q | refine i4_q ?_ NB0_104.out _)) hb)
           have n1_ := Ae_q (bB_q (g := gb104) (o := .cells #[.int .i64 0, .int .i64 0, .int .i64 0, .int .i64 0, .int .i64 0, .int .i64 0] 27 (0, 0)) (bup BK104.out) hb)
           have n2_ := Ae_q (kT_q (by repeat (with_reducible first | exact HK.out | apply kS_q | apply kN_q | apply kD_q | apply kA_q | refine kF_q ?_ GW104.out _)) (kO_q hb g none) (.inl rfl))
           have n3_ := Ae_q (bT_q (by repeat (with_reducible first | exact HB.out | apply bA_q | apply pB_q | apply bD_q | refine bS_q ?_ (i5_q HI0.out) | refine bS_q ?_ GE104.out)) hb)
           have n4_ := Ae_q (hbox)
           have n5_ := Ae_q ((by rw [hg]; exact (keep_size (w := w) (g := g) (row := none) (by repeat (with_reducible first | exact HK.out | apply kS_q | apply kN_q | apply kD_q | apply kA_q | refine kF_q ?_ GW104.out _))) : w.heap.size ≤ gb113))
           have n6_ := Ae_q ((nT_q HW0.out (by rw [hg]; exact (keep_size (w := w) (g := g) (row := none) (by repeat (with_reducible first | exact HK.out | apply kS_q | apply kN_q | apply kD_q | apply kA_q | refine kF_q ?_ GW104.out _))) : w.heap.size ≤ gb113) : w0.heap.size ≤ gb113))
           have n7_ := Ae_q ((by rw [hg]; exact nL_q (blk_lt (g := gb104) (o := .cells #[.int .i64 0, .int .i64 0, .int .i64 0, .int .i64 0, .int .i64 0, .int .i64 0] 27 (0, 0)) (bup BK104.out)) : gb104 ≠ gb113))
           have n8_ := Ae_q ((by rw [hg]; exact nG_q (blk_lt (g := gb104) (o := .cells #[.int .i64 0, .int .i64 0, .int .i64 0, .int .i64 0, .int .i64 0, .int .i64 0] 27 (0, 0)) (bup BK104.out)) : gb113 ≠ gb104))
           have n9_ := Ae_q ((by rw [hg]; exact nL_q (IsS81.lt (show IsS81 w0 _ g s0_0 t112 from by repeat (with_reducible first | exact HI0.out | apply i2_q | apply i1_q | apply i0_q | apply i3_q | refine i4_q ?_ NB0_104.out _))) : g ≠ gb113))
           have n10_ := Ae_q ((by rw [hg]; exact nG_q (IsS81.lt (show IsS81 w0 _ g s0_0 t112 from by repeat (with_reducible first | exact HI0.out | apply i2_q | apply i1_q | apply i0_q | apply i3_q | refine i4_q ?_ NB0_104.out _))) : gb113 ≠ g))
           clear HI0
           clear BK104
           clear HK
           clear HB
           have HI0 := n0_
           have BK104 := n1_
           have HK := n2_
           have HB := n3_
           have BK113 := n4_
           have GW113 := n5_
           have GE113 := n6_
           have NB104_113 := n7_
           have NB113_104 := n8_
           have NB0_113 := n9_
           have NB113_0 := n10_
           clear n0_ n1_ n2_ n3_ n4_ n5_ n6_ n7_ n8_ n9_ n10_
           clear hb hbox hg
           refine hK.out _ _ trivial (fun hHeld => ?_)
           clear hK K
           refine norm_ (a' := ?_) ?_ ?_
           rotate_left
           ·show Act.put _ (some 5) _ = _
            simp only [pS_q]
            rfl
           exact norm_ (by first | (simp only [putAll, Act.put, sA_q, sZ_q, sS_q]; first | done | rfl)) (hJ2_7_10 (gb113) _ ⟨(bup BK104.out), (bup BK113.out), GW113.out, GE113.out, NB0_113.out, NB113_0.out, NB104_113.out, NB113_104.out, (by repeat (with_reducible first | exact HI0.out | apply i2_q | apply i1_q | apply i0_q | apply i3_q | refine i4_q ?_ NB0_104.out _ | refine i4_q ?_ NB0_113.out _)), (by repeat (with_reducible first | exact HK.out | apply kS_q | apply kN_q | apply kD_q | apply kA_q | refine kF_q ?_ GW104.out _ | refine kF_q ?_ GW113.out _)), (by repeat (with_reducible first | exact HB.out | apply bA_q | apply pB_q | apply bD_q | refine bS_q ?_ (i5_q HI0.out) | refine bS_q ?_ GE104.out | refine bS_q ?_ GE113.out))⟩)
          skip
          rintro ⟨v106, adz_v106, gb113⟩ w19 ⟨h0_, h1_, h2_, h3_, h4_, h5_, h6_, h7_, h8_, h9_, h10_, h11_, h12_⟩
          have n0_ : Aside0 (Kd.R kI_q 3 w19 w.heap.size (fun _ => True) v106 y105) := ⟨h0_⟩
          have n1_ : Aside0 (∃ c_, (v106 : Value) = .slice (some adz_v106) y105.length c_) := ⟨h1_⟩
          have n2_ : Aside0 (w19.heap[gb104]? = some (.cells #[.int .i64 0, .int .i64 0, .int .i64 0, .int .i64 0, .int .i64 0, .int .i64 0] 27 (0, 0))) := ⟨h2_⟩
          have n3_ : Aside0 (w19.heap[gb113]? = some (.cells #[.int .i64 0, .int .i64 0, .int .i64 0, .int .i64 0, .int .i64 0, .int .i64 0] 27 (0, 0))) := ⟨h3_⟩
          have n4_ : Aside0 (w.heap.size ≤ gb113) := ⟨h4_⟩
          have n5_ : Aside0 (w0.heap.size ≤ gb113) := ⟨h5_⟩
          have n6_ : Aside0 (g ≠ gb113) := ⟨h6_⟩
          have n7_ : Aside0 (gb113 ≠ g) := ⟨h7_⟩
          have n8_ : Aside0 (gb104 ≠ gb113) := ⟨h8_⟩
          have n9_ : Aside0 (gb113 ≠ gb104) := ⟨h9_⟩
          have n10_ : Aside0 (IsS81 w0 w19 g s0_0 s0_1) := ⟨h10_⟩
          have n11_ : Aside0 (KeepBut w w19 g none) := ⟨h11_⟩
          have n12_ : Aside0 (Below w0.heap.size w0 w19) := ⟨h12_⟩
          clear BK104
          clear HI0
          clear HK
          clear HB
          clear h0_ h1_ h2_ h3_ h4_ h5_ h6_ h7_ h8_ h9_ h10_ h11_ h12_
          have HO107 := n0_
          have HA_HO107 := n1_
          have BK104 := n2_
          have BK113 := n3_
          have GW113 := n4_
          have GE113 := n5_
          have NB0_113 := n6_
          have NB113_0 := n7_
          have NB104_113 := n8_
          have NB113_104 := n9_
          have HI0 := n10_
          have HK := n11_
          have HB := n12_
          clear n0_ n1_ n2_ n3_ n4_ n5_ n6_ n7_ n8_ n9_ n10_ n11_ n12_
          have hHeld := trivial
          obtain ⟨co20, eo20⟩ := HA_HO107.out
          clear HA_HO107
          subst eo20
          refine norm_ (a' := ?_) ?_ ?_
          rotate_left
          ·simp only [putAll, Act.put, sA_q, sZ_q, sS_q]
           rfl
          refine one_ (i := 2) (N := some 8) #[true, true, true, false, false, true, true, false, false, false, true, false] rfl rfl (one_of HT_.out (by kernel_rfl)) (by decide) (fun K hK => ?_)
          refine goes_ Try.func49 (by kernel_rfl) rfl #[.pointer (some ⟨g, 0, none⟩), .int .i64 5] (by rfl) rfl rfl (by (try simp only [lM_q, lC_q, lN_q]); first | done | rfl | (simp only [lD_q, lT_q]; rfl)) ?_
          with_reducible refine (spec_l6Rd_pick.calls k g s0_0 s0_1 5 t108 t109 w0 _ ?side1 ?side2 A3.out).mono ?_
          (case side1 => repeat (with_reducible first | exact HI0.out | apply i2_q | apply i1_q | apply i0_q | apply i3_q | refine i4_q ?_ NB0_104.out _ | refine i4_q ?_ NB0_113.out _))
          (case side2 => repeat (with_reducible first | exact HB.out | apply bA_q | apply pB_q | apply bD_q | refine bS_q ?_ (i5_q HI0.out) | refine bS_q ?_ GE104.out | refine bS_q ?_ GE113.out))
          rintro e w21 ⟨rfl, hi, hb, hk⟩
          refine ⟨_, rfl, ?_⟩
          have n0_ := Ae_q (kB_q hk (g' := gb104) (o := .cells #[.int .i64 0, .int .i64 0, .int .i64 0, .int .i64 0, .int .i64 0, .int .i64 0] 27 (0, 0)) (bup BK104.out) NB104_0.out (by simp))
          have n1_ := Ae_q (rM_q (rK_q (i6_q (show IsS81 w0 _ g s0_0 s0_1 from by repeat (with_reducible first | exact HI0.out | apply i2_q | apply i1_q | apply i0_q | apply i3_q | refine i4_q ?_ NB0_104.out _ | refine i4_q ?_ NB0_113.out _)) (rup HO107.out) (by decide)) hk (fun _ h => h.2)) (fun _ h => h.1))
          have n2_ := Ae_q (kB_q hk (g' := gb113) (o := .cells #[.int .i64 0, .int .i64 0, .int .i64 0, .int .i64 0, .int .i64 0, .int .i64 0] 27 (0, 0)) (bup BK113.out) NB113_0.out (by simp))
          have n3_ := Ae_q (kT_q (by repeat (with_reducible first | exact HK.out | apply kS_q | apply kN_q | apply kD_q | apply kA_q | refine kF_q ?_ GW104.out _ | refine kF_q ?_ GW113.out _)) hk (.inl rfl))
          have n4_ := Ae_q (hb)
          have n5_ := Ae_q (hi)
          clear BK104
          clear HO107
          clear BK113
          clear HK
          clear HB
          clear HI0
          have BK104 := n0_
          have HO107 := n1_
          have BK113 := n2_
          have HK := n3_
          have HB := n4_
          have HI0 := n5_
          clear n0_ n1_ n2_ n3_ n4_ n5_
          (try clear hb)
          (try clear hb2)
          (try clear hk)
          (try clear hi)
          refine hK.out _ _ trivial (fun hHeld => ?_)
          clear hK K
          refine norm_ (a' := ?_) ?_ ?_
          rotate_left
          ·show Act.put _ (some 8) _ = _
           simp only [pS_q]
           rfl
          refine pI (v := ?_) (a' := ?_) HT_ 3 9 rfl rfl (by kernel_rfl) (fun _ _ _ h => h) (by rfl) ?_ ?_ ?_
          rotate_left
          ·intro w'
           go_simp
           with_reducible rfl
          rotate_left
          ·simp only [pS_q]
           rfl
          exact norm_ (by first | (simp only [putAll, Act.put, sA_q, sZ_q, sS_q]; first | done | rfl)) (hJ0_2_10 (.slice (some adz_v106) y105.length co20, adz_v106, gb113) _ ⟨(rup HO107.out), ⟨_, rfl⟩, (bup BK104.out), (bup BK113.out), GW113.out, GE113.out, NB0_113.out, NB113_0.out, NB104_113.out, NB113_104.out, (by repeat (with_reducible first | exact HI0.out | apply i2_q | apply i1_q | apply i0_q | apply i3_q | refine i4_q ?_ NB0_104.out _ | refine i4_q ?_ NB0_113.out _)), (by repeat (with_reducible first | exact HK.out | apply kS_q | apply kN_q | apply kD_q | apply kA_q | refine kF_q ?_ GW104.out _ | refine kF_q ?_ GW113.out _)), (by repeat (with_reducible first | exact HB.out | apply bA_q | apply pB_q | apply bD_q | refine bS_q ?_ (i5_q HI0.out) | refine bS_q ?_ GE104.out | refine bS_q ?_ GE113.out))⟩)
         skip
         rintro ⟨v106, adz_v106⟩ w19 ⟨h0_, h1_, h2_, h3_, h4_, h5_⟩
         have n0_ : Aside0 (Kd.R kI_q 3 w19 w.heap.size (fun _ => True) v106 y105) := ⟨h0_⟩
         have n1_ : Aside0 (∃ c_, (v106 : Value) = .slice (some adz_v106) y105.length c_) := ⟨h1_⟩
         have n2_ : Aside0 (w19.heap[gb104]? = some (.cells #[.int .i64 0, .int .i64 0, .int .i64 0, .int .i64 0, .int .i64 0, .int .i64 0] 27 (0, 0))) := ⟨h2_⟩
         have n3_ : Aside0 (IsS81 w0 w19 g s0_0 t109) := ⟨h3_⟩
         have n4_ : Aside0 (KeepBut w w19 g none) := ⟨h4_⟩
         have n5_ : Aside0 (Below w0.heap.size w0 w19) := ⟨h5_⟩
         clear BK104
         clear HI0
         clear HK
         clear HB
         clear h0_ h1_ h2_ h3_ h4_ h5_
         have HO107 := n0_
         have HA_HO107 := n1_
         have BK104 := n2_
         have HI0 := n3_
         have HK := n4_
         have HB := n5_
         clear n0_ n1_ n2_ n3_ n4_ n5_
         have hHeld := trivial
         obtain ⟨co20, eo20⟩ := HA_HO107.out
         clear HA_HO107
         subst eo20
         refine norm_ (a' := ?_) ?_ ?_
         rotate_left
         ·simp only [putAll, Act.put, sA_q, sZ_q, sS_q]
          rfl
         refine three_ (i := 4) (j := 7) (k := 10) (Ni := some 10) (Nj := some 13) (Nk := some 5) #[true, true, true, true, true, true, true, false, false, false, false, false] #[true, true, true, true, false, true, true, true, false, false, false, false] #[true, true, true, true, false, true, true, false, false, false, true, false] rfl rfl rfl rfl rfl rfl (three_of HT_.out (by kernel_rfl)) (by decide) (by decide) (by decide) (fun K hK => ?_) (fun K hK => ?_) (fun K hK => ?_)
         ·skip
          (have p110 : 0 ≤ (t108 : Int) := oD_q (by assumption); have q110 : t108 < (y105.length : Int) := oD_q (by assumption); obtain ⟨ad110, e110, hx110_0⟩ := aI_q (rR_q HO107.out).2.2 t108 p110 q110; obtain rfl : adz_v106 = ad110 := (by injection e110))
          refine value_ (w1 := ?_) (v := ?_) (by rfl) rfl ?_ ?_
          rotate_left 2
          ·go_simp
           constructor
           ·rfl
           rfl
          clear hx110_0
          refine hK.out _ _ trivial (fun hHeld => ?_)
          clear hK K
          refine norm_ (a' := ?_) ?_ ?_
          rotate_left
          ·show Act.put _ (some 10) _ = _
           simp only [pS_q]
           rfl
          exact norm_ (by first | (simp only [putAll, Act.put, sA_q, sZ_q, sS_q]; first | done | rfl)) (hJ0_2_4 (.slice (some adz_v106) y105.length co20, adz_v106) _ ⟨(rup HO107.out), ⟨_, rfl⟩, (bup BK104.out), (by repeat (with_reducible first | exact HI0.out | apply i2_q | apply i1_q | apply i0_q | apply i3_q | refine i4_q ?_ NB0_104.out _)), (by repeat (with_reducible first | exact HK.out | apply kS_q | apply kN_q | apply kD_q | apply kA_q | refine kF_q ?_ GW104.out _)), (by repeat (with_reducible first | exact HB.out | apply bA_q | apply pB_q | apply bD_q | refine bS_q ?_ (i5_q HI0.out) | refine bS_q ?_ GE104.out))⟩)
         ·skip
          refine goes_ Try.func49 (by kernel_rfl) rfl #[.pointer (some ⟨g, 0, none⟩), .int .i64 4] (by rfl) rfl rfl (by (try simp only [lM_q, lC_q, lN_q]); first | done | rfl | (simp only [lD_q, lT_q]; rfl)) ?_
          with_reducible refine (spec_l6Rd_pick.calls k g s0_0 t109 4 t111 t112 w0 _ ?side1 ?side2 A6.out).mono ?_
          (case side1 => repeat (with_reducible first | exact HI0.out | apply i2_q | apply i1_q | apply i0_q | apply i3_q | refine i4_q ?_ NB0_104.out _))
          (case side2 => repeat (with_reducible first | exact HB.out | apply bA_q | apply pB_q | apply bD_q | refine bS_q ?_ (i5_q HI0.out) | refine bS_q ?_ GE104.out))
          rintro e w21 ⟨rfl, hi, hb, hk⟩
          refine ⟨_, rfl, ?_⟩
          have n0_ := Ae_q (kB_q hk (g' := gb104) (o := .cells #[.int .i64 0, .int .i64 0, .int .i64 0, .int .i64 0, .int .i64 0, .int .i64 0] 27 (0, 0)) (bup BK104.out) NB104_0.out (by simp))
          have n1_ := Ae_q (rM_q (rK_q (i6_q (show IsS81 w0 _ g s0_0 t109 from by repeat (with_reducible first | exact HI0.out | apply i2_q | apply i1_q | apply i0_q | apply i3_q | refine i4_q ?_ NB0_104.out _)) (rup HO107.out) (by decide)) hk (fun _ h => h.2)) (fun _ h => h.1))
          have n2_ := Ae_q (kT_q (by repeat (with_reducible first | exact HK.out | apply kS_q | apply kN_q | apply kD_q | apply kA_q | refine kF_q ?_ GW104.out _)) hk (.inl rfl))
          have n3_ := Ae_q (hb)
          have n4_ := Ae_q (hi)
          clear BK104
          clear HO107
          clear HK
          clear HB
          clear HI0
          have BK104 := n0_
          have HO107 := n1_
          have HK := n2_
          have HB := n3_
          have HI0 := n4_
          clear n0_ n1_ n2_ n3_ n4_
          (try clear hb)
          (try clear hb2)
          (try clear hk)
          (try clear hi)
          refine hK.out _ _ trivial (fun hHeld => ?_)
          clear hK K
          refine norm_ (a' := ?_) ?_ ?_
          rotate_left
          ·show Act.put _ (some 13) _ = _
           simp only [pS_q]
           rfl
          refine pI (v := ?_) (a' := ?_) HT_ 8 14 rfl rfl (by kernel_rfl) (fun _ _ _ h => h) (by rfl) ?_ ?_ ?_
          rotate_left
          ·intro w'
           go_simp
           with_reducible rfl
          rotate_left
          ·simp only [pS_q]
           rfl
          exact norm_ (by first | (simp only [putAll, Act.put, sA_q, sZ_q, sS_q]; first | done | rfl)) (hJ0_2_7 (.slice (some adz_v106) y105.length co20, adz_v106) _ ⟨(rup HO107.out), ⟨_, rfl⟩, (bup BK104.out), (by repeat (with_reducible first | exact HI0.out | apply i2_q | apply i1_q | apply i0_q | apply i3_q | refine i4_q ?_ NB0_104.out _)), (by repeat (with_reducible first | exact HK.out | apply kS_q | apply kN_q | apply kD_q | apply kA_q | refine kF_q ?_ GW104.out _)), (by repeat (with_reducible first | exact HB.out | apply bA_q | apply pB_q | apply bD_q | refine bS_q ?_ (i5_q HI0.out) | refine bS_q ?_ GE104.out))⟩)
         skip
         refine box_step ?hg (N := 5) ?hd (cs := #[.int .i64 0, .int .i64 0, .int .i64 0, .int .i64 0, .int .i64 0, .int .i64 0]) (t := 27) ?hr ?_; (case hd => rfl); (case hg => rfl); (case hr => first | (go_simp; done) | (go_simp; rfl))
         intro gb113 hg w21 hbox hb
         have n0_ := Ae_q (rO_q (rup HO107.out) hb)
         have n1_ := Ae_q (IsS81.below (by repeat (with_reducible first | exact HI0.out | apply i2_q | apply i1_q | apply i0_q | apply i3_q | refine i4_q ?_ NB0_104.out _)) hb)
         have n2_ := Ae_q (bB_q (g := gb104) (o := .cells #[.int .i64 0, .int .i64 0, .int .i64 0, .int .i64 0, .int .i64 0, .int .i64 0] 27 (0, 0)) (bup BK104.out) hb)
         have n3_ := Ae_q (kT_q (by repeat (with_reducible first | exact HK.out | apply kS_q | apply kN_q | apply kD_q | apply kA_q | refine kF_q ?_ GW104.out _)) (kO_q hb g none) (.inl rfl))
         have n4_ := Ae_q (bT_q (by repeat (with_reducible first | exact HB.out | apply bA_q | apply pB_q | apply bD_q | refine bS_q ?_ (i5_q HI0.out) | refine bS_q ?_ GE104.out)) hb)
         have n5_ := Ae_q (hbox)
         have n6_ := Ae_q ((by rw [hg]; exact (keep_size (w := w) (g := g) (row := none) (by repeat (with_reducible first | exact HK.out | apply kS_q | apply kN_q | apply kD_q | apply kA_q | refine kF_q ?_ GW104.out _))) : w.heap.size ≤ gb113))
         have n7_ := Ae_q ((nT_q HW0.out (by rw [hg]; exact (keep_size (w := w) (g := g) (row := none) (by repeat (with_reducible first | exact HK.out | apply kS_q | apply kN_q | apply kD_q | apply kA_q | refine kF_q ?_ GW104.out _))) : w.heap.size ≤ gb113) : w0.heap.size ≤ gb113))
         have n8_ := Ae_q ((by rw [hg]; exact nL_q (blk_lt (g := gb104) (o := .cells #[.int .i64 0, .int .i64 0, .int .i64 0, .int .i64 0, .int .i64 0, .int .i64 0] 27 (0, 0)) (bup BK104.out)) : gb104 ≠ gb113))
         have n9_ := Ae_q ((by rw [hg]; exact nG_q (blk_lt (g := gb104) (o := .cells #[.int .i64 0, .int .i64 0, .int .i64 0, .int .i64 0, .int .i64 0, .int .i64 0] 27 (0, 0)) (bup BK104.out)) : gb113 ≠ gb104))
         have n10_ := Ae_q ((by rw [hg]; exact nL_q (IsS81.lt (show IsS81 w0 _ g s0_0 t109 from by repeat (with_reducible first | exact HI0.out | apply i2_q | apply i1_q | apply i0_q | apply i3_q | refine i4_q ?_ NB0_104.out _))) : g ≠ gb113))
         have n11_ := Ae_q ((by rw [hg]; exact nG_q (IsS81.lt (show IsS81 w0 _ g s0_0 t109 from by repeat (with_reducible first | exact HI0.out | apply i2_q | apply i1_q | apply i0_q | apply i3_q | refine i4_q ?_ NB0_104.out _))) : gb113 ≠ g))
         clear HO107
         clear HI0
         clear BK104
         clear HK
         clear HB
         have HO107 := n0_
         have HI0 := n1_
         have BK104 := n2_
         have HK := n3_
         have HB := n4_
         have BK113 := n5_
         have GW113 := n6_
         have GE113 := n7_
         have NB104_113 := n8_
         have NB113_104 := n9_
         have NB0_113 := n10_
         have NB113_0 := n11_
         clear n0_ n1_ n2_ n3_ n4_ n5_ n6_ n7_ n8_ n9_ n10_ n11_
         clear hb hbox hg
         refine hK.out _ _ trivial (fun hHeld => ?_)
         clear hK K
         refine norm_ (a' := ?_) ?_ ?_
         rotate_left
         ·show Act.put _ (some 5) _ = _
          simp only [pS_q]
          rfl
         exact norm_ (by first | (simp only [putAll, Act.put, sA_q, sZ_q, sS_q]; first | done | rfl)) (hJ0_2_10 (.slice (some adz_v106) y105.length co20, adz_v106, gb113) _ ⟨(rup HO107.out), ⟨_, rfl⟩, (bup BK104.out), (bup BK113.out), GW113.out, GE113.out, NB0_113.out, NB113_0.out, NB104_113.out, NB113_104.out, (by repeat (with_reducible first | exact HI0.out | apply i2_q | apply i1_q | apply i0_q | apply i3_q | refine i4_q ?_ NB0_104.out _ | refine i4_q ?_ NB0_113.out _)), (by repeat (with_reducible first | exact HK.out | apply kS_q | apply kN_q | apply kD_q | apply kA_q | refine kF_q ?_ GW104.out _ | refine kF_q ?_ GW113.out _)), (by repeat (with_reducible first | exact HB.out | apply bA_q | apply pB_q | apply bD_q | refine bS_q ?_ (i5_q HI0.out) | refine bS_q ?_ GE104.out | refine bS_q ?_ GE113.out))⟩)
        skip
        rintro gb113 w18 ⟨h0_, h1_, h2_, h3_, h4_, h5_, h6_, h7_, h8_, h9_, h10_⟩
        have n0_ : Aside0 (w18.heap[gb104]? = some (.cells #[.int .i64 0, .int .i64 0, .int .i64 0, .int .i64 0, .int .i64 0, .int .i64 0] 27 (0, 0))) := ⟨h0_⟩
        have n1_ : Aside0 (w18.heap[gb113]? = some (.cells #[.int .i64 0, .int .i64 0, .int .i64 0, .int .i64 0, .int .i64 0, .int .i64 0] 27 (0, 0))) := ⟨h1_⟩
        have n2_ : Aside0 (w.heap.size ≤ gb113) := ⟨h2_⟩
        have n3_ : Aside0 (w0.heap.size ≤ gb113) := ⟨h3_⟩
        have n4_ : Aside0 (g ≠ gb113) := ⟨h4_⟩
        have n5_ : Aside0 (gb113 ≠ g) := ⟨h5_⟩
        have n6_ : Aside0 (gb104 ≠ gb113) := ⟨h6_⟩
        have n7_ : Aside0 (gb113 ≠ gb104) := ⟨h7_⟩
        have n8_ : Aside0 (IsS81 w0 w18 g s0_0 t112) := ⟨h8_⟩
        have n9_ : Aside0 (KeepBut w w18 g none) := ⟨h9_⟩
        have n10_ : Aside0 (Below w0.heap.size w0 w18) := ⟨h10_⟩
        clear BK104
        clear HI0
        clear HK
        clear HB
        clear h0_ h1_ h2_ h3_ h4_ h5_ h6_ h7_ h8_ h9_ h10_
        have BK104 := n0_
        have BK113 := n1_
        have GW113 := n2_
        have GE113 := n3_
        have NB0_113 := n4_
        have NB113_0 := n5_
        have NB104_113 := n6_
        have NB113_104 := n7_
        have HI0 := n8_
        have HK := n9_
        have HB := n10_
        clear n0_ n1_ n2_ n3_ n4_ n5_ n6_ n7_ n8_ n9_ n10_
        have hHeld := trivial
        refine norm_ (a' := ?_) ?_ ?_
        rotate_left
        ·simp only [putAll, Act.put, sA_q, sZ_q, sS_q]
         rfl
        refine one_ (i := 0) (N := some 6) #[true, true, true, false, false, true, true, true, true, false, true, false] rfl rfl (one_of HT_.out (by kernel_rfl)) (by decide) (fun K hK => ?_)
        refine rI_q kI_q _ 3 ?hg (N := 6) ?hd (xs := ([1, 2, 2, 2, 3] : List Int)) (inner := [.int .i64 1, .int .i64 2, .int .i64 2, .int .i64 2, .int .i64 3]) (ok := fun _ => True) (okp := fun _ => True) ?hr ?hp (fun _ hk => hk) trivial (bR_q _ _) (nR_q _) (by simp) ?_; (case hd => rfl); (case hg => rfl); (case hr => first | (go_simp; done) | (go_simp; rfl)); (case hp => exact (Reps.one (show Kd.M kI_q _ _ _ 1 [.int .i64 1] from rfl) (Reps.one (show Kd.M kI_q _ _ _ 2 [.int .i64 2] from rfl) (Reps.one (show Kd.M kI_q _ _ _ 2 [.int .i64 2] from rfl) (Reps.one (show Kd.M kI_q _ _ _ 2 [.int .i64 2] from rfl) (Reps.one (show Kd.M kI_q _ _ _ 3 [.int .i64 3] from rfl) (Reps.none _ _)))))))
        intro v106 w19 ho20 hb hg_ hnew_
        clear hg_ hnew_
        (first | rw [← Ny105.out] at ho20 | (simp only [Int.reduceToNat] at ho20; rw [← Ny105.out] at ho20))
        have n0_ := Ae_q (rL_q ho20 (keep_size (w := w) (g := g) (row := none) (by repeat (with_reducible first | exact HK.out | apply kS_q | apply kN_q | apply kD_q | apply kA_q | refine kF_q ?_ GW104.out _ | refine kF_q ?_ GW113.out _))))
        have n1_ := Ae_q (IsS81.below (by repeat (with_reducible first | exact HI0.out | apply i2_q | apply i1_q | apply i0_q | apply i3_q | refine i4_q ?_ NB0_104.out _ | refine i4_q ?_ NB0_113.out _)) hb)
        have n2_ := Ae_q (bB_q (g := gb104) (o := .cells #[.int .i64 0, .int .i64 0, .int .i64 0, .int .i64 0, .int .i64 0, .int .i64 0] 27 (0, 0)) (bup BK104.out) hb)
        have n3_ := Ae_q (bB_q (g := gb113) (o := .cells #[.int .i64 0, .int .i64 0, .int .i64 0, .int .i64 0, .int .i64 0, .int .i64 0] 27 (0, 0)) (bup BK113.out) hb)
        have n4_ := Ae_q (kT_q (by repeat (with_reducible first | exact HK.out | apply kS_q | apply kN_q | apply kD_q | apply kA_q | refine kF_q ?_ GW104.out _ | refine kF_q ?_ GW113.out _)) (kO_q hb g none) (.inl rfl))
        have n5_ := Ae_q (bT_q (by repeat (with_reducible first | exact HB.out | apply bA_q | apply pB_q | apply bD_q | refine bS_q ?_ (i5_q HI0.out) | refine bS_q ?_ GE104.out | refine bS_q ?_ GE113.out)) hb)
        clear HI0
        clear BK104
        clear BK113
        clear HK
        clear HB
        have HO107 := n0_
        have HI0 := n1_
        have BK104 := n2_
        have BK113 := n3_
        have HK := n4_
        have HB := n5_
        clear n0_ n1_ n2_ n3_ n4_ n5_
        clear hb ho20
        obtain ⟨Ao21, co21, eo21⟩ := rS_q HO107.out
        subst eo21
        obtain ⟨ado21, fo21, _⟩ := aI_q (rR_q HO107.out).2.2 0 (by decide) (by rw [Ny105.out]; simp)
        cases fo21
        refine hK.out _ _ trivial (fun hHeld => ?_)
        clear hK K
        refine norm_ (a' := ?_) ?_ ?_
        rotate_left
        ·show Act.put _ (some 6) _ = _
         simp only [pS_q]
         rfl
        refine pI (v := ?_) (a' := ?_) HT_ 3 9 rfl rfl (by kernel_rfl) (fun _ _ _ h => h) (by rfl) ?_ ?_ ?_
        rotate_left
        ·intro w'
         go_simp
         with_reducible rfl
        rotate_left
        ·simp only [pS_q]
         rfl
        exact norm_ (by first | (simp only [putAll, Act.put, sA_q, sZ_q, sS_q]; first | done | rfl)) (hJ0_2_7_10 (.slice (some ado21) y105.length co21, ado21, gb113) _ ⟨(rup HO107.out), ⟨_, rfl⟩, (bup BK104.out), (bup BK113.out), GW113.out, GE113.out, NB0_113.out, NB113_0.out, NB104_113.out, NB113_104.out, (by repeat (with_reducible first | exact HI0.out | apply i2_q | apply i1_q | apply i0_q | apply i3_q | refine i4_q ?_ NB0_104.out _ | refine i4_q ?_ NB0_113.out _)), (by repeat (with_reducible first | exact HK.out | apply kS_q | apply kN_q | apply kD_q | apply kA_q | refine kF_q ?_ GW104.out _ | refine kF_q ?_ GW113.out _)), (by repeat (with_reducible first | exact HB.out | apply bA_q | apply pB_q | apply bD_q | refine bS_q ?_ (i5_q HI0.out) | refine bS_q ?_ GE104.out | refine bS_q ?_ GE113.out))⟩)
       skip
       rintro ⟨v106, adz_v106, gb113⟩ w20 ⟨h0_, h1_, h2_, h3_, h4_, h5_, h6_, h7_, h8_, h9_, h10_, h11_, h12_⟩
       have n0_ : Aside0 (Kd.R kI_q 3 w20 w.heap.size (fun _ => True) v106 y105) := ⟨h0_⟩
       have n1_ : Aside0 (∃ c_, (v106 : Value) = .slice (some adz_v106) y105.length c_) := ⟨h1_⟩
       have n2_ : Aside0 (w20.heap[gb104]? = some (.cells #[.int .i64 0, .int .i64 0, .int .i64 0, .int .i64 0, .int .i64 0, .int .i64 0] 27 (0, 0))) := ⟨h2_⟩
       have n3_ : Aside0 (w20.heap[gb113]? = some (.cells #[.int .i64 0, .int .i64 0, .int .i64 0, .int .i64 0, .int .i64 0, .int .i64 0] 27 (0, 0))) := ⟨h3_⟩
       have n4_ : Aside0 (w.heap.size ≤ gb113) := ⟨h4_⟩
       have n5_ : Aside0 (w0.heap.size ≤ gb113) := ⟨h5_⟩
       have n6_ : Aside0 (g ≠ gb113) := ⟨h6_⟩
       have n7_ : Aside0 (gb113 ≠ g) := ⟨h7_⟩
       have n8_ : Aside0 (gb104 ≠ gb113) := ⟨h8_⟩
       have n9_ : Aside0 (gb113 ≠ gb104) := ⟨h9_⟩
       have n10_ : Aside0 (IsS81 w0 w20 g s0_0 t109) := ⟨h10_⟩
       have n11_ : Aside0 (KeepBut w w20 g none) := ⟨h11_⟩
       have n12_ : Aside0 (Below w0.heap.size w0 w20) := ⟨h12_⟩
       clear BK104
       clear HI0
       clear HK
       clear HB
       clear h0_ h1_ h2_ h3_ h4_ h5_ h6_ h7_ h8_ h9_ h10_ h11_ h12_
       have HO107 := n0_
       have HA_HO107 := n1_
       have BK104 := n2_
       have BK113 := n3_
       have GW113 := n4_
       have GE113 := n5_
       have NB0_113 := n6_
       have NB113_0 := n7_
       have NB104_113 := n8_
       have NB113_104 := n9_
       have HI0 := n10_
       have HK := n11_
       have HB := n12_
       clear n0_ n1_ n2_ n3_ n4_ n5_ n6_ n7_ n8_ n9_ n10_ n11_ n12_
       have hHeld := trivial
       obtain ⟨co21, eo21⟩ := HA_HO107.out
       clear HA_HO107
       subst eo21
       refine norm_ (a' := ?_) ?_ ?_
       rotate_left
       ·simp only [putAll, Act.put, sA_q, sZ_q, sS_q]
        rfl
       refine two_ (i := 4) (j := 7) (Ni := some 10) (Nj := some 13) #[true, true, true, true, true, true, true, false, false, false, true, false] #[true, true, true, true, false, true, true, true, false, false, true, false] rfl rfl rfl rfl (two_of HT_.out (by kernel_rfl)) (by decide) (by decide) (fun K hK => ?_) (fun K hK => ?_)
       ·skip
        (have p110 : 0 ≤ (t108 : Int) := oD_q (by assumption); have q110 : t108 < (y105.length : Int) := oD_q (by assumption); obtain ⟨ad110, e110, hx110_0⟩ := aI_q (rR_q HO107.out).2.2 t108 p110 q110; obtain rfl : adz_v106 = ad110 := (by injection e110))
        refine value_ (w1 := ?_) (v := ?_) (by rfl) rfl ?_ ?_
        rotate_left 2
        ·go_simp
         constructor
         ·rfl
         rfl
        clear hx110_0
        refine hK.out _ _ trivial (fun hHeld => ?_)
        clear hK K
        refine norm_ (a' := ?_) ?_ ?_
        rotate_left
        ·show Act.put _ (some 10) _ = _
         simp only [pS_q]
         rfl
        exact norm_ (by first | (simp only [putAll, Act.put, sA_q, sZ_q, sS_q]; first | done | rfl)) (hJ0_2_4_10 (.slice (some adz_v106) y105.length co21, adz_v106, gb113) _ ⟨(rup HO107.out), ⟨_, rfl⟩, (bup BK104.out), (bup BK113.out), GW113.out, GE113.out, NB0_113.out, NB113_0.out, NB104_113.out, NB113_104.out, (by repeat (with_reducible first | exact HI0.out | apply i2_q | apply i1_q | apply i0_q | apply i3_q | refine i4_q ?_ NB0_104.out _ | refine i4_q ?_ NB0_113.out _)), (by repeat (with_reducible first | exact HK.out | apply kS_q | apply kN_q | apply kD_q | apply kA_q | refine kF_q ?_ GW104.out _ | refine kF_q ?_ GW113.out _)), (by repeat (with_reducible first | exact HB.out | apply bA_q | apply pB_q | apply bD_q | refine bS_q ?_ (i5_q HI0.out) | refine bS_q ?_ GE104.out | refine bS_q ?_ GE113.out))⟩)
       skip
       refine goes_ Try.func49 (by kernel_rfl) rfl #[.pointer (some ⟨g, 0, none⟩), .int .i64 4] (by rfl) rfl rfl (by (try simp only [lM_q, lC_q, lN_q]); first | done | rfl | (simp only [lD_q, lT_q]; rfl)) ?_
       with_reducible refine (spec_l6Rd_pick.calls k g s0_0 t109 4 t111 t112 w0 _ ?side1 ?side2 A6.out).mono ?_
       (case side1 => repeat (with_reducible first | exact HI0.out | apply i2_q | apply i1_q | apply i0_q | apply i3_q | refine i4_q ?_ NB0_104.out _ | refine i4_q ?_ NB0_113.out _))
       (case side2 => repeat (with_reducible first | exact HB.out | apply bA_q | apply pB_q | apply bD_q | refine bS_q ?_ (i5_q HI0.out) | refine bS_q ?_ GE104.out | refine bS_q ?_ GE113.out))
       rintro e w22 ⟨rfl, hi, hb, hk⟩
       refine ⟨_, rfl, ?_⟩
       have n0_ := Ae_q (kB_q hk (g' := gb104) (o := .cells #[.int .i64 0, .int .i64 0, .int .i64 0, .int .i64 0, .int .i64 0, .int .i64 0] 27 (0, 0)) (bup BK104.out) NB104_0.out (by simp))
       have n1_ := Ae_q (rM_q (rK_q (i6_q (show IsS81 w0 _ g s0_0 t109 from by repeat (with_reducible first | exact HI0.out | apply i2_q | apply i1_q | apply i0_q | apply i3_q | refine i4_q ?_ NB0_104.out _ | refine i4_q ?_ NB0_113.out _)) (rup HO107.out) (by decide)) hk (fun _ h => h.2)) (fun _ h => h.1))
       have n2_ := Ae_q (kB_q hk (g' := gb113) (o := .cells #[.int .i64 0, .int .i64 0, .int .i64 0, .int .i64 0, .int .i64 0, .int .i64 0] 27 (0, 0)) (bup BK113.out) NB113_0.out (by simp))
       have n3_ := Ae_q (kT_q (by repeat (with_reducible first | exact HK.out | apply kS_q | apply kN_q | apply kD_q | apply kA_q | refine kF_q ?_ GW104.out _ | refine kF_q ?_ GW113.out _)) hk (.inl rfl))
       have n4_ := Ae_q (hb)
       have n5_ := Ae_q (hi)
       clear BK104
       clear HO107
       clear BK113
       clear HK
       clear HB
       clear HI0
       have BK104 := n0_
       have HO107 := n1_
       have BK113 := n2_
       have HK := n3_
       have HB := n4_
       have HI0 := n5_
       clear n0_ n1_ n2_ n3_ n4_ n5_
       (try clear hb)
       (try clear hb2)
       (try clear hk)
       (try clear hi)
       refine hK.out _ _ trivial (fun hHeld => ?_)
       clear hK K
       refine norm_ (a' := ?_) ?_ ?_
       rotate_left
       ·show Act.put _ (some 13) _ = _
        simp only [pS_q]
        rfl
       refine pI (v := ?_) (a' := ?_) HT_ 8 14 rfl rfl (by kernel_rfl) (fun _ _ _ h => h) (by rfl) ?_ ?_ ?_
       rotate_left
       ·intro w'
        go_simp
        with_reducible rfl
       rotate_left
       ·simp only [pS_q]
        rfl
       exact norm_ (by first | (simp only [putAll, Act.put, sA_q, sZ_q, sS_q]; first | done | rfl)) (hJ0_2_7_10 (.slice (some adz_v106) y105.length co21, adz_v106, gb113) _ ⟨(rup HO107.out), ⟨_, rfl⟩, (bup BK104.out), (bup BK113.out), GW113.out, GE113.out, NB0_113.out, NB113_0.out, NB104_113.out, NB113_104.out, (by repeat (with_reducible first | exact HI0.out | apply i2_q | apply i1_q | apply i0_q | apply i3_q | refine i4_q ?_ NB0_104.out _ | refine i4_q ?_ NB0_113.out _)), (by repeat (with_reducible first | exact HK.out | apply kS_q | apply kN_q | apply kD_q | apply kA_q | refine kF_q ?_ GW104.out _ | refine kF_q ?_ GW113.out _)), (by repeat (with_reducible first | exact HB.out | apply bA_q | apply pB_q | apply bD_q | refine bS_q ?_ (i5_q HI0.out) | refine bS_q ?_ GE104.out | refine bS_q ?_ GE113.out))⟩)
      skip
      rintro ⟨v106, adz_v106⟩ w20 ⟨h0_, h1_, h2_, h3_, h4_, h5_⟩
      have n0_ : Aside0 (Kd.R kI_q 3 w20 w.heap.size (fun _ => True) v106 y105) := ⟨h0_⟩
      have n1_ : Aside0 (∃ c_, (v106 : Value) = .slice (some adz_v106) y105.length c_) := ⟨h1_⟩
      have n2_ : Aside0 (w20.heap[gb104]? = some (.cells #[.int .i64 0, .int .i64 0, .int .i64 0, .int .i64 0, .int .i64 0, .int .i64 0] 27 (0, 0))) := ⟨h2_⟩
      have n3_ : Aside0 (IsS81 w0 w20 g s0_0 t112) := ⟨h3_⟩
      have n4_ : Aside0 (KeepBut w w20 g none) := ⟨h4_⟩
      have n5_ : Aside0 (Below w0.heap.size w0 w20) := ⟨h5_⟩
      clear BK104
      clear HI0
      clear HK
      clear HB
      clear h0_ h1_ h2_ h3_ h4_ h5_
      have HO107 := n0_
      have HA_HO107 := n1_
      have BK104 := n2_
      have HI0 := n3_
      have HK := n4_
      have HB := n5_
      clear n0_ n1_ n2_ n3_ n4_ n5_
      have hHeld := trivial
      obtain ⟨co21, eo21⟩ := HA_HO107.out
      clear HA_HO107
      subst eo21
      refine norm_ (a' := ?_) ?_ ?_
      rotate_left
      ·simp only [putAll, Act.put, sA_q, sZ_q, sS_q]
       rfl
      refine two_ (i := 4) (j := 10) (Ni := some 10) (Nj := some 5) #[true, true, true, true, true, true, true, true, true, false, false, false] #[true, true, true, true, false, true, true, true, true, false, true, false] rfl rfl rfl rfl (two_of HT_.out (by kernel_rfl)) (by decide) (by decide) (fun K hK => ?_) (fun K hK => ?_)
      ·skip
       (have p110 : 0 ≤ (t108 : Int) := oD_q (by assumption); have q110 : t108 < (y105.length : Int) := oD_q (by assumption); obtain ⟨ad110, e110, hx110_0⟩ := aI_q (rR_q HO107.out).2.2 t108 p110 q110; obtain rfl : adz_v106 = ad110 := (by injection e110))
       refine value_ (w1 := ?_) (v := ?_) (by rfl) rfl ?_ ?_
       rotate_left 2
       ·go_simp
        constructor
        ·rfl
        rfl
       clear hx110_0
       refine hK.out _ _ trivial (fun hHeld => ?_)
       clear hK K
       refine norm_ (a' := ?_) ?_ ?_
       rotate_left
       ·show Act.put _ (some 10) _ = _
        simp only [pS_q]
        rfl
       refine pI (v := ?_) (a' := ?_) HT_ 9 15 rfl rfl (by kernel_rfl) (fun _ _ _ h => h) (by rfl) ?_ ?_ ?_
       rotate_left
       ·intro w'
        go_simp
        with_reducible rfl
       rotate_left
       ·simp only [pS_q]
        rfl
       exact norm_ (by first | (simp only [putAll, Act.put, sA_q, sZ_q, sS_q]; first | done | rfl)) (hJ0_2_4_7 (.slice (some adz_v106) y105.length co21, adz_v106) _ ⟨(rup HO107.out), ⟨_, rfl⟩, (bup BK104.out), (by repeat (with_reducible first | exact HI0.out | apply i2_q | apply i1_q | apply i0_q | apply i3_q | refine i4_q ?_ NB0_104.out _)), (by repeat (with_reducible first | exact HK.out | apply kS_q | apply kN_q | apply kD_q | apply kA_q | refine kF_q ?_ GW104.out _)), (by repeat (with_reducible first | exact HB.out | apply bA_q | apply pB_q | apply bD_q | refine bS_q ?_ (i5_q HI0.out) | refine bS_q ?_ GE104.out))⟩)
      skip
      refine box_step ?hg (N := 5) ?hd (cs := #[.int .i64 0, .int .i64 0, .int .i64 0, .int .i64 0, .int .i64 0, .int .i64 0]) (t := 27) ?hr ?_; (case hd => rfl); (case hg => rfl); (case hr => first | (go_simp; done) | (go_simp; rfl))
      intro gb113 hg w22 hbox hb
      have n0_ := Ae_q (rO_q (rup HO107.out) hb)
      have n1_ := Ae_q (IsS81.below (by repeat (with_reducible first | exact HI0.out | apply i2_q | apply i1_q | apply i0_q | apply i3_q | refine i4_q ?_ NB0_104.out _)) hb)
      have n2_ := Ae_q (bB_q (g := gb104) (o := .cells #[.int .i64 0, .int .i64 0, .int .i64 0, .int .i64 0, .int .i64 0, .int .i64 0] 27 (0, 0)) (bup BK104.out) hb)
      have n3_ := Ae_q (kT_q (by repeat (with_reducible first | exact HK.out | apply kS_q | apply kN_q | apply kD_q | apply kA_q | refine kF_q ?_ GW104.out _)) (kO_q hb g none) (.inl rfl))
      have n4_ := Ae_q (bT_q (by repeat (with_reducible first | exact HB.out | apply bA_q | apply pB_q | apply bD_q | refine bS_q ?_ (i5_q HI0.out) | refine bS_q ?_ GE104.out)) hb)
      have n5_ := Ae_q (hbox)
      have n6_ := Ae_q ((by rw [hg]; exact (keep_size (w := w) (g := g) (row := none) (by repeat (with_reducible first | exact HK.out | apply kS_q | apply kN_q | apply kD_q | apply kA_q | refine kF_q ?_ GW104.out _))) : w.heap.size ≤ gb113))
      have n7_ := Ae_q ((nT_q HW0.out (by rw [hg]; exact (keep_size (w := w) (g := g) (row := none) (by repeat (with_reducible first | exact HK.out | apply kS_q | apply kN_q | apply kD_q | apply kA_q | refine kF_q ?_ GW104.out _))) : w.heap.size ≤ gb113) : w0.heap.size ≤ gb113))
      have n8_ := Ae_q ((by rw [hg]; exact nL_q (blk_lt (g := gb104) (o := .cells #[.int .i64 0, .int .i64 0, .int .i64 0, .int .i64 0, .int .i64 0, .int .i64 0] 27 (0, 0)) (bup BK104.out)) : gb104 ≠ gb113))
      have n9_ := Ae_q ((by rw [hg]; exact nG_q (blk_lt (g := gb104) (o := .cells #[.int .i64 0, .int .i64 0, .int .i64 0, .int .i64 0, .int .i64 0, .int .i64 0] 27 (0, 0)) (bup BK104.out)) : gb113 ≠ gb104))
      have n10_ := Ae_q ((by rw [hg]; exact nL_q (IsS81.lt (show IsS81 w0 _ g s0_0 t112 from by repeat (with_reducible first | exact HI0.out | apply i2_q | apply i1_q | apply i0_q | apply i3_q | refine i4_q ?_ NB0_104.out _))) : g ≠ gb113))
      have n11_ := Ae_q ((by rw [hg]; exact nG_q (IsS81.lt (show IsS81 w0 _ g s0_0 t112 from by repeat (with_reducible first | exact HI0.out | apply i2_q | apply i1_q | apply i0_q | apply i3_q | refine i4_q ?_ NB0_104.out _))) : gb113 ≠ g))
      clear HO107
      clear HI0
      clear BK104
      clear HK
      clear HB
      have HO107 := n0_
      have HI0 := n1_
      have BK104 := n2_
      have HK := n3_
      have HB := n4_
      have BK113 := n5_
      have GW113 := n6_
      have GE113 := n7_
      have NB104_113 := n8_
      have NB113_104 := n9_
      have NB0_113 := n10_
      have NB113_0 := n11_
      clear n0_ n1_ n2_ n3_ n4_ n5_ n6_ n7_ n8_ n9_ n10_ n11_
      clear hb hbox hg
      refine hK.out _ _ trivial (fun hHeld => ?_)
      clear hK K
      refine norm_ (a' := ?_) ?_ ?_
      rotate_left
      ·show Act.put _ (some 5) _ = _
       simp only [pS_q]
       rfl
      exact norm_ (by first | (simp only [putAll, Act.put, sA_q, sZ_q, sS_q]; first | done | rfl)) (hJ0_2_7_10 (.slice (some adz_v106) y105.length co21, adz_v106, gb113) _ ⟨(rup HO107.out), ⟨_, rfl⟩, (bup BK104.out), (bup BK113.out), GW113.out, GE113.out, NB0_113.out, NB113_0.out, NB104_113.out, NB113_104.out, (by repeat (with_reducible first | exact HI0.out | apply i2_q | apply i1_q | apply i0_q | apply i3_q | refine i4_q ?_ NB0_104.out _ | refine i4_q ?_ NB0_113.out _)), (by repeat (with_reducible first | exact HK.out | apply kS_q | apply kN_q | apply kD_q | apply kA_q | refine kF_q ?_ GW104.out _ | refine kF_q ?_ GW113.out _)), (by repeat (with_reducible first | exact HB.out | apply bA_q | apply pB_q | apply bD_q | refine bS_q ?_ (i5_q HI0.out) | refine bS_q ?_ GE104.out | refine bS_q ?_ GE113.out))⟩)
     skip
     rintro ⟨v106, adz_v106⟩ w19 ⟨h0_, h1_, h2_, h3_, h4_, h5_⟩
     have n0_ : Aside0 (Kd.R kI_q 3 w19 w.heap.size (fun _ => True) v106 y105) := ⟨h0_⟩
     have n1_ : Aside0 (∃ c_, (v106 : Value) = .slice (some adz_v106) y105.length c_) := ⟨h1_⟩
     have n2_ : Aside0 (w19.heap[gb104]? = some (.cells #[.int .i64 0, .int .i64 0, .int .i64 0, .int .i64 0, .int .i64 0, .int .i64 0] 27 (0, 0))) := ⟨h2_⟩
     have n3_ : Aside0 (IsS81 w0 w19 g s0_0 t109) := ⟨h3_⟩
     have n4_ : Aside0 (KeepBut w w19 g none) := ⟨h4_⟩
     have n5_ : Aside0 (Below w0.heap.size w0 w19) := ⟨h5_⟩
     clear BK104
     clear HI0
     clear HK
     clear HB
     clear h0_ h1_ h2_ h3_ h4_ h5_
     have HO107 := n0_
     have HA_HO107 := n1_
     have BK104 := n2_
     have HI0 := n3_
     have HK := n4_
     have HB := n5_
     clear n0_ n1_ n2_ n3_ n4_ n5_
     have hHeld := trivial
     obtain ⟨co20, eo20⟩ := HA_HO107.out
     clear HA_HO107
     subst eo20
     refine norm_ (a' := ?_) ?_ ?_
     rotate_left
     ·simp only [putAll, Act.put, sA_q, sZ_q, sS_q]
      rfl
     refine two_ (i := 7) (j := 10) (Ni := some 13) (Nj := some 5) #[true, true, true, true, true, true, true, true, false, false, false, false] #[true, true, true, true, true, true, true, false, false, false, true, false] rfl rfl rfl rfl (two_of HT_.out (by kernel_rfl)) (by decide) (by decide) (fun K hK => ?_) (fun K hK => ?_)
     ·skip
      refine goes_ Try.func49 (by kernel_rfl) rfl #[.pointer (some ⟨g, 0, none⟩), .int .i64 4] (by rfl) rfl rfl (by (try simp only [lM_q, lC_q, lN_q]); first | done | rfl | (simp only [lD_q, lT_q]; rfl)) ?_
      with_reducible refine (spec_l6Rd_pick.calls k g s0_0 t109 4 t111 t112 w0 _ ?side1 ?side2 A6.out).mono ?_
      (case side1 => repeat (with_reducible first | exact HI0.out | apply i2_q | apply i1_q | apply i0_q | apply i3_q | refine i4_q ?_ NB0_104.out _))
      (case side2 => repeat (with_reducible first | exact HB.out | apply bA_q | apply pB_q | apply bD_q | refine bS_q ?_ (i5_q HI0.out) | refine bS_q ?_ GE104.out))
      rintro e w21 ⟨rfl, hi, hb, hk⟩
      refine ⟨_, rfl, ?_⟩
      have n0_ := Ae_q (kB_q hk (g' := gb104) (o := .cells #[.int .i64 0, .int .i64 0, .int .i64 0, .int .i64 0, .int .i64 0, .int .i64 0] 27 (0, 0)) (bup BK104.out) NB104_0.out (by simp))
      have n1_ := Ae_q (rM_q (rK_q (i6_q (show IsS81 w0 _ g s0_0 t109 from by repeat (with_reducible first | exact HI0.out | apply i2_q | apply i1_q | apply i0_q | apply i3_q | refine i4_q ?_ NB0_104.out _)) (rup HO107.out) (by decide)) hk (fun _ h => h.2)) (fun _ h => h.1))
      have n2_ := Ae_q (kT_q (by repeat (with_reducible first | exact HK.out | apply kS_q | apply kN_q | apply kD_q | apply kA_q | refine kF_q ?_ GW104.out _)) hk (.inl rfl))
      have n3_ := Ae_q (hb)
      have n4_ := Ae_q (hi)
      clear BK104
      clear HO107
      clear HK
      clear HB
      clear HI0
      have BK104 := n0_
      have HO107 := n1_
      have HK := n2_
      have HB := n3_
      have HI0 := n4_
      clear n0_ n1_ n2_ n3_ n4_
      (try clear hb)
      (try clear hb2)
      (try clear hk)
      (try clear hi)
      refine hK.out _ _ trivial (fun hHeld => ?_)
      clear hK K
      refine norm_ (a' := ?_) ?_ ?_
      rotate_left
      ·show Act.put _ (some 13) _ = _
       simp only [pS_q]
       rfl
      refine pI (v := ?_) (a' := ?_) HT_ 8 14 rfl rfl (by kernel_rfl) (fun _ _ _ h => h) (by rfl) ?_ ?_ ?_
      rotate_left
      ·intro w'
       go_simp
       with_reducible rfl
      rotate_left
      ·simp only [pS_q]
       rfl
      refine pI (v := ?_) (a' := ?_) HT_ 9 15 rfl rfl (by kernel_rfl) (fun _ _ _ h => h) (by rfl) ?_ ?_ ?_
      rotate_left
      ·intro w'
       go_simp
       with_reducible rfl
      rotate_left
      ·simp only [pS_q]
       rfl
      exact norm_ (by first | (simp only [putAll, Act.put, sA_q, sZ_q, sS_q]; first | done | rfl)) (hJ0_2_4_7 (.slice (some adz_v106) y105.length co20, adz_v106) _ ⟨(rup HO107.out), ⟨_, rfl⟩, (bup BK104.out), (by repeat (with_reducible first | exact HI0.out | apply i2_q | apply i1_q | apply i0_q | apply i3_q | refine i4_q ?_ NB0_104.out _)), (by repeat (with_reducible first | exact HK.out | apply kS_q | apply kN_q | apply kD_q | apply kA_q | refine kF_q ?_ GW104.out _)), (by repeat (with_reducible first | exact HB.out | apply bA_q | apply pB_q | apply bD_q | refine bS_q ?_ (i5_q HI0.out) | refine bS_q ?_ GE104.out))⟩)
     skip
     refine box_step ?hg (N := 5) ?hd (cs := #[.int .i64 0, .int .i64 0, .int .i64 0, .int .i64 0, .int .i64 0, .int .i64 0]) (t := 27) ?hr ?_; (case hd => rfl); (case hg => rfl); (case hr => first | (go_simp; done) | (go_simp; rfl))
     intro gb113 hg w21 hbox hb
     have n0_ := Ae_q (rO_q (rup HO107.out) hb)
     have n1_ := Ae_q (IsS81.below (by repeat (with_reducible first | exact HI0.out | apply i2_q | apply i1_q | apply i0_q | apply i3_q | refine i4_q ?_ NB0_104.out _)) hb)
     have n2_ := Ae_q (bB_q (g := gb104) (o := .cells #[.int .i64 0, .int .i64 0, .int .i64 0, .int .i64 0, .int .i64 0, .int .i64 0] 27 (0, 0)) (bup BK104.out) hb)
     have n3_ := Ae_q (kT_q (by repeat (with_reducible first | exact HK.out | apply kS_q | apply kN_q | apply kD_q | apply kA_q | refine kF_q ?_ GW104.out _)) (kO_q hb g none) (.inl rfl))
     have n4_ := Ae_q (bT_q (by repeat (with_reducible first | exact HB.out | apply bA_q | apply pB_q | apply bD_q | refine bS_q ?_ (i5_q HI0.out) | refine bS_q ?_ GE104.out)) hb)
     have n5_ := Ae_q (hbox)
     have n6_ := Ae_q ((by rw [hg]; exact (keep_size (w := w) (g := g) (row := none) (by repeat (with_reducible first | exact HK.out | apply kS_q | apply kN_q | apply kD_q | apply kA_q | refine kF_q ?_ GW104.out _))) : w.heap.size ≤ gb113))
     have n7_ := Ae_q ((nT_q HW0.out (by rw [hg]; exact (keep_size (w := w) (g := g) (row := none) (by repeat (with_reducible first | exact HK.out | apply kS_q | apply kN_q | apply kD_q | apply kA_q | refine kF_q ?_ GW104.out _))) : w.heap.size ≤ gb113) : w0.heap.size ≤ gb113))
     have n8_ := Ae_q ((by rw [hg]; exact nL_q (blk_lt (g := gb104) (o := .cells #[.int .i64 0, .int .i64 0, .int .i64 0, .int .i64 0, .int .i64 0, .int .i64 0] 27 (0, 0)) (bup BK104.out)) : gb104 ≠ gb113))
     have n9_ := Ae_q ((by rw [hg]; exact nG_q (blk_lt (g := gb104) (o := .cells #[.int .i64 0, .int .i64 0, .int .i64 0, .int .i64 0, .int .i64 0, .int .i64 0] 27 (0, 0)) (bup BK104.out)) : gb113 ≠ gb104))
     have n10_ := Ae_q ((by rw [hg]; exact nL_q (IsS81.lt (show IsS81 w0 _ g s0_0 t109 from by repeat (with_reducible first | exact HI0.out | apply i2_q | apply i1_q | apply i0_q | apply i3_q | refine i4_q ?_ NB0_104.out _))) : g ≠ gb113))
     have n11_ := Ae_q ((by rw [hg]; exact nG_q (IsS81.lt (show IsS81 w0 _ g s0_0 t109 from by repeat (with_reducible first | exact HI0.out | apply i2_q | apply i1_q | apply i0_q | apply i3_q | refine i4_q ?_ NB0_104.out _))) : gb113 ≠ g))
     clear HO107
     clear HI0
     clear BK104
     clear HK
     clear HB
     have HO107 := n0_
     have HI0 := n1_
     have BK104 := n2_
     have HK := n3_
     have HB := n4_
     have BK113 := n5_
     have GW113 := n6_
     have GE113 := n7_
     have NB104_113 := n8_
     have NB113_104 := n9_
     have NB0_113 := n10_
     have NB113_0 := n11_
     clear n0_ n1_ n2_ n3_ n4_ n5_ n6_ n7_ n8_ n9_ n10_ n11_
     clear hb hbox hg
     refine hK.out _ _ trivial (fun hHeld => ?_)
     clear hK K
     refine norm_ (a' := ?_) ?_ ?_
     rotate_left
     ·show Act.put _ (some 5) _ = _
      simp only [pS_q]
      rfl
     exact norm_ (by first | (simp only [putAll, Act.put, sA_q, sZ_q, sS_q]; first | done | rfl)) (hJ0_2_4_10 (.slice (some adz_v106) y105.length co20, adz_v106, gb113) _ ⟨(rup HO107.out), ⟨_, rfl⟩, (bup BK104.out), (bup BK113.out), GW113.out, GE113.out, NB0_113.out, NB113_0.out, NB104_113.out, NB113_104.out, (by repeat (with_reducible first | exact HI0.out | apply i2_q | apply i1_q | apply i0_q | apply i3_q | refine i4_q ?_ NB0_104.out _ | refine i4_q ?_ NB0_113.out _)), (by repeat (with_reducible first | exact HK.out | apply kS_q | apply kN_q | apply kD_q | apply kA_q | refine kF_q ?_ GW104.out _ | refine kF_q ?_ GW113.out _)), (by repeat (with_reducible first | exact HB.out | apply bA_q | apply pB_q | apply bD_q | refine bS_q ?_ (i5_q HI0.out) | refine bS_q ?_ GE104.out | refine bS_q ?_ GE113.out))⟩)
    skip
    rintro ⟨v106, adz_v106, gb113⟩ w21 ⟨h0_, h1_, h2_, h3_, h4_, h5_, h6_, h7_, h8_, h9_, h10_, h11_, h12_⟩
    have n0_ : Aside0 (Kd.R kI_q 3 w21 w.heap.size (fun _ => True) v106 y105) := ⟨h0_⟩
    have n1_ : Aside0 (∃ c_, (v106 : Value) = .slice (some adz_v106) y105.length c_) := ⟨h1_⟩
    have n2_ : Aside0 (w21.heap[gb104]? = some (.cells #[.int .i64 0, .int .i64 0, .int .i64 0, .int .i64 0, .int .i64 0, .int .i64 0] 27 (0, 0))) := ⟨h2_⟩
    have n3_ : Aside0 (w21.heap[gb113]? = some (.cells #[.int .i64 0, .int .i64 0, .int .i64 0, .int .i64 0, .int .i64 0, .int .i64 0] 27 (0, 0))) := ⟨h3_⟩
    have n4_ : Aside0 (w.heap.size ≤ gb113) := ⟨h4_⟩
    have n5_ : Aside0 (w0.heap.size ≤ gb113) := ⟨h5_⟩
    have n6_ : Aside0 (g ≠ gb113) := ⟨h6_⟩
    have n7_ : Aside0 (gb113 ≠ g) := ⟨h7_⟩
    have n8_ : Aside0 (gb104 ≠ gb113) := ⟨h8_⟩
    have n9_ : Aside0 (gb113 ≠ gb104) := ⟨h9_⟩
    have n10_ : Aside0 (IsS81 w0 w21 g s0_0 t112) := ⟨h10_⟩
    have n11_ : Aside0 (KeepBut w w21 g none) := ⟨h11_⟩
    have n12_ : Aside0 (Below w0.heap.size w0 w21) := ⟨h12_⟩
    clear BK104
    clear HI0
    clear HK
    clear HB
    clear h0_ h1_ h2_ h3_ h4_ h5_ h6_ h7_ h8_ h9_ h10_ h11_ h12_
    have HO107 := n0_
    have HA_HO107 := n1_
    have BK104 := n2_
    have BK113 := n3_
    have GW113 := n4_
    have GE113 := n5_
    have NB0_113 := n6_
    have NB113_0 := n7_
    have NB104_113 := n8_
    have NB113_104 := n9_
    have HI0 := n10_
    have HK := n11_
    have HB := n12_
    clear n0_ n1_ n2_ n3_ n4_ n5_ n6_ n7_ n8_ n9_ n10_ n11_ n12_
    have hHeld := trivial
    obtain ⟨co22, eo22⟩ := HA_HO107.out
    clear HA_HO107
    subst eo22
    refine norm_ (a' := ?_) ?_ ?_
    rotate_left
    ·simp only [putAll, Act.put, sA_q, sZ_q, sS_q]
     rfl
    refine one_ (i := 4) (N := some 10) #[true, true, true, true, true, true, true, true, true, false, true, false] rfl rfl (one_of HT_.out (by kernel_rfl)) (by decide) (fun K hK => ?_)
    (have p110 : 0 ≤ (t108 : Int) := oD_q (by assumption); have q110 : t108 < (y105.length : Int) := oD_q (by assumption); obtain ⟨ad110, e110, hx110_0⟩ := aI_q (rR_q HO107.out).2.2 t108 p110 q110; obtain rfl : adz_v106 = ad110 := (by injection e110))
    refine value_ (w1 := ?_) (v := ?_) (by rfl) rfl ?_ ?_
    rotate_left 2
    ·go_simp
     constructor
     ·rfl
     rfl
    clear hx110_0
    refine hK.out _ _ trivial (fun hHeld => ?_)
    clear hK K
    refine norm_ (a' := ?_) ?_ ?_
    rotate_left
    ·show Act.put _ (some 10) _ = _
     simp only [pS_q]
     rfl
    refine pI (v := ?_) (a' := ?_) HT_ 9 15 rfl rfl (by kernel_rfl) (fun _ _ _ h => h) (by rfl) ?_ ?_ ?_
    rotate_left
    ·intro w'
     go_simp
     with_reducible rfl
    rotate_left
    ·simp only [pS_q]
     rfl
    exact norm_ (by first | (simp only [putAll, Act.put, sA_q, sZ_q, sS_q]; first | done | rfl)) (hJ0_2_4_7_10 (.slice (some adz_v106) y105.length co22, adz_v106, gb113) _ ⟨(rup HO107.out), ⟨_, rfl⟩, (bup BK104.out), (bup BK113.out), GW113.out, GE113.out, NB0_113.out, NB113_0.out, NB104_113.out, NB113_104.out, (by repeat (with_reducible first | exact HI0.out | apply i2_q | apply i1_q | apply i0_q | apply i3_q | refine i4_q ?_ NB0_104.out _ | refine i4_q ?_ NB0_113.out _)), (by repeat (with_reducible first | exact HK.out | apply kS_q | apply kN_q | apply kD_q | apply kA_q | refine kF_q ?_ GW104.out _ | refine kF_q ?_ GW113.out _)), (by repeat (with_reducible first | exact HB.out | apply bA_q | apply pB_q | apply bD_q | refine bS_q ?_ (i5_q HI0.out) | refine bS_q ?_ GE104.out | refine bS_q ?_ GE113.out))⟩)
   skip
   rintro ⟨v106, adz_v106, gb113⟩ w20 ⟨h0_, h1_, h2_, h3_, h4_, h5_, h6_, h7_, h8_, h9_, h10_, h11_, h12_⟩
   have n0_ : Aside0 (Kd.R kI_q 3 w20 w.heap.size (fun _ => True) v106 y105) := ⟨h0_⟩
   have n1_ : Aside0 (∃ c_, (v106 : Value) = .slice (some adz_v106) y105.length c_) := ⟨h1_⟩
   have n2_ : Aside0 (w20.heap[gb104]? = some (.cells #[.int .i64 0, .int .i64 0, .int .i64 0, .int .i64 0, .int .i64 0, .int .i64 0] 27 (0, 0))) := ⟨h2_⟩
   have n3_ : Aside0 (w20.heap[gb113]? = some (.cells #[.int .i64 0, .int .i64 0, .int .i64 0, .int .i64 0, .int .i64 0, .int .i64 0] 27 (0, 0))) := ⟨h3_⟩
   have n4_ : Aside0 (w.heap.size ≤ gb113) := ⟨h4_⟩
   have n5_ : Aside0 (w0.heap.size ≤ gb113) := ⟨h5_⟩
   have n6_ : Aside0 (g ≠ gb113) := ⟨h6_⟩
   have n7_ : Aside0 (gb113 ≠ g) := ⟨h7_⟩
   have n8_ : Aside0 (gb104 ≠ gb113) := ⟨h8_⟩
   have n9_ : Aside0 (gb113 ≠ gb104) := ⟨h9_⟩
   have n10_ : Aside0 (IsS81 w0 w20 g s0_0 t109) := ⟨h10_⟩
   have n11_ : Aside0 (KeepBut w w20 g none) := ⟨h11_⟩
   have n12_ : Aside0 (Below w0.heap.size w0 w20) := ⟨h12_⟩
   clear BK104
   clear HI0
   clear HK
   clear HB
   clear h0_ h1_ h2_ h3_ h4_ h5_ h6_ h7_ h8_ h9_ h10_ h11_ h12_
   have HO107 := n0_
   have HA_HO107 := n1_
   have BK104 := n2_
   have BK113 := n3_
   have GW113 := n4_
   have GE113 := n5_
   have NB0_113 := n6_
   have NB113_0 := n7_
   have NB104_113 := n8_
   have NB113_104 := n9_
   have HI0 := n10_
   have HK := n11_
   have HB := n12_
   clear n0_ n1_ n2_ n3_ n4_ n5_ n6_ n7_ n8_ n9_ n10_ n11_ n12_
   have hHeld := trivial
   obtain ⟨co21, eo21⟩ := HA_HO107.out
   clear HA_HO107
   subst eo21
   refine norm_ (a' := ?_) ?_ ?_
   rotate_left
   ·simp only [putAll, Act.put, sA_q, sZ_q, sS_q]
    rfl
   refine one_ (i := 7) (N := some 13) #[true, true, true, true, true, true, true, true, false, false, true, false] rfl rfl (one_of HT_.out (by kernel_rfl)) (by decide) (fun K hK => ?_)
   refine goes_ Try.func49 (by kernel_rfl) rfl #[.pointer (some ⟨g, 0, none⟩), .int .i64 4] (by rfl) rfl rfl (by (try simp only [lM_q, lC_q, lN_q]); first | done | rfl | (simp only [lD_q, lT_q]; rfl)) ?_
   with_reducible refine (spec_l6Rd_pick.calls k g s0_0 t109 4 t111 t112 w0 _ ?side1 ?side2 A6.out).mono ?_
   (case side1 => repeat (with_reducible first | exact HI0.out | apply i2_q | apply i1_q | apply i0_q | apply i3_q | refine i4_q ?_ NB0_104.out _ | refine i4_q ?_ NB0_113.out _))
   (case side2 => repeat (with_reducible first | exact HB.out | apply bA_q | apply pB_q | apply bD_q | refine bS_q ?_ (i5_q HI0.out) | refine bS_q ?_ GE104.out | refine bS_q ?_ GE113.out))
   rintro e w22 ⟨rfl, hi, hb, hk⟩
   refine ⟨_, rfl, ?_⟩
   have n0_ := Ae_q (kB_q hk (g' := gb104) (o := .cells #[.int .i64 0, .int .i64 0, .int .i64 0, .int .i64 0, .int .i64 0, .int .i64 0] 27 (0, 0)) (bup BK104.out) NB104_0.out (by simp))
   have n1_ := Ae_q (rM_q (rK_q (i6_q (show IsS81 w0 _ g s0_0 t109 from by repeat (with_reducible first | exact HI0.out | apply i2_q | apply i1_q | apply i0_q | apply i3_q | refine i4_q ?_ NB0_104.out _ | refine i4_q ?_ NB0_113.out _)) (rup HO107.out) (by decide)) hk (fun _ h => h.2)) (fun _ h => h.1))
   have n2_ := Ae_q (kB_q hk (g' := gb113) (o := .cells #[.int .i64 0, .int .i64 0, .int .i64 0, .int .i64 0, .int .i64 0, .int .i64 0] 27 (0, 0)) (bup BK113.out) NB113_0.out (by simp))
   have n3_ := Ae_q (kT_q (by repeat (with_reducible first | exact HK.out | apply kS_q | apply kN_q | apply kD_q | apply kA_q | refine kF_q ?_ GW104.out _ | refine kF_q ?_ GW113.out _)) hk (.inl rfl))
   have n4_ := Ae_q (hb)
   have n5_ := Ae_q (hi)
   clear BK104
   clear HO107
   clear BK113
   clear HK
   clear HB
   clear HI0
   have BK104 := n0_
   have HO107 := n1_
   have BK113 := n2_
   have HK := n3_
   have HB := n4_
   have HI0 := n5_
   clear n0_ n1_ n2_ n3_ n4_ n5_
   (try clear hb)
   (try clear hb2)
   (try clear hk)
   (try clear hi)
   refine hK.out _ _ trivial (fun hHeld => ?_)
   clear hK K
   refine norm_ (a' := ?_) ?_ ?_
   rotate_left
   ·show Act.put _ (some 13) _ = _
    simp only [pS_q]
    rfl
   refine pI (v := ?_) (a' := ?_) HT_ 8 14 rfl rfl (by kernel_rfl) (fun _ _ _ h => h) (by rfl) ?_ ?_ ?_
   rotate_left
   ·intro w'
    go_simp
    with_reducible rfl
   rotate_left
   ·simp only [pS_q]
    rfl
   refine pI (v := ?_) (a' := ?_) HT_ 9 15 rfl rfl (by kernel_rfl) (fun _ _ _ h => h) (by rfl) ?_ ?_ ?_
   rotate_left
   ·intro w'
    go_simp
    with_reducible rfl
   rotate_left
   ·simp only [pS_q]
    rfl
   exact norm_ (by first | (simp only [putAll, Act.put, sA_q, sZ_q, sS_q]; first | done | rfl)) (hJ0_2_4_7_10 (.slice (some adz_v106) y105.length co21, adz_v106, gb113) _ ⟨(rup HO107.out), ⟨_, rfl⟩, (bup BK104.out), (bup BK113.out), GW113.out, GE113.out, NB0_113.out, NB113_0.out, NB104_113.out, NB113_104.out, (by repeat (with_reducible first | exact HI0.out | apply i2_q | apply i1_q | apply i0_q | apply i3_q | refine i4_q ?_ NB0_104.out _ | refine i4_q ?_ NB0_113.out _)), (by repeat (with_reducible first | exact HK.out | apply kS_q | apply kN_q | apply kD_q | apply kA_q | refine kF_q ?_ GW104.out _ | refine kF_q ?_ GW113.out _)), (by repeat (with_reducible first | exact HB.out | apply bA_q | apply pB_q | apply bD_q | refine bS_q ?_ (i5_q HI0.out) | refine bS_q ?_ GE104.out | refine bS_q ?_ GE113.out))⟩)
  skip
  rintro ⟨v106, adz_v106⟩ w20 ⟨h0_, h1_, h2_, h3_, h4_, h5_⟩
  have n0_ : Aside0 (Kd.R kI_q 3 w20 w.heap.size (fun _ => True) v106 y105) := ⟨h0_⟩
  have n1_ : Aside0 (∃ c_, (v106 : Value) = .slice (some adz_v106) y105.length c_) := ⟨h1_⟩
  have n2_ : Aside0 (w20.heap[gb104]? = some (.cells #[.int .i64 0, .int .i64 0, .int .i64 0, .int .i64 0, .int .i64 0, .int .i64 0] 27 (0, 0))) := ⟨h2_⟩
  have n3_ : Aside0 (IsS81 w0 w20 g s0_0 t112) := ⟨h3_⟩
  have n4_ : Aside0 (KeepBut w w20 g none) := ⟨h4_⟩
  have n5_ : Aside0 (Below w0.heap.size w0 w20) := ⟨h5_⟩
  clear BK104
  clear HI0
  clear HK
  clear HB
  clear h0_ h1_ h2_ h3_ h4_ h5_
  have HO107 := n0_
  have HA_HO107 := n1_
  have BK104 := n2_
  have HI0 := n3_
  have HK := n4_
  have HB := n5_
  clear n0_ n1_ n2_ n3_ n4_ n5_
  have hHeld := trivial
  obtain ⟨co21, eo21⟩ := HA_HO107.out
  clear HA_HO107
  subst eo21
  refine norm_ (a' := ?_) ?_ ?_
  rotate_left
  ·simp only [putAll, Act.put, sA_q, sZ_q, sS_q]
   rfl
  refine one_ (i := 10) (N := some 5) #[true, true, true, true, true, true, true, true, true, true, true, false] rfl rfl (one_of HT_.out (by kernel_rfl)) (by decide) (fun K hK => ?_)
  refine box_step ?hg (N := 5) ?hd (cs := #[.int .i64 0, .int .i64 0, .int .i64 0, .int .i64 0, .int .i64 0, .int .i64 0]) (t := 27) ?hr ?_; (case hd => rfl); (case hg => rfl); (case hr => first | (go_simp; done) | (go_simp; rfl))
  intro gb113 hg w22 hbox hb
  have n0_ := Ae_q (rO_q (rup HO107.out) hb)
  have n1_ := Ae_q (IsS81.below (by repeat (with_reducible first | exact HI0.out | apply i2_q | apply i1_q | apply i0_q | apply i3_q | refine i4_q ?_ NB0_104.out _)) hb)
  have n2_ := Ae_q (bB_q (g := gb104) (o := .cells #[.int .i64 0, .int .i64 0, .int .i64 0, .int .i64 0, .int .i64 0, .int .i64 0] 27 (0, 0)) (bup BK104.out) hb)
  have n3_ := Ae_q (kT_q (by repeat (with_reducible first | exact HK.out | apply kS_q | apply kN_q | apply kD_q | apply kA_q | refine kF_q ?_ GW104.out _)) (kO_q hb g none) (.inl rfl))
  have n4_ := Ae_q (bT_q (by repeat (with_reducible first | exact HB.out | apply bA_q | apply pB_q | apply bD_q | refine bS_q ?_ (i5_q HI0.out) | refine bS_q ?_ GE104.out)) hb)
  have n5_ := Ae_q (hbox)
  have n6_ := Ae_q ((by rw [hg]; exact (keep_size (w := w) (g := g) (row := none) (by repeat (with_reducible first | exact HK.out | apply kS_q | apply kN_q | apply kD_q | apply kA_q | refine kF_q ?_ GW104.out _))) : w.heap.size ≤ gb113))
  have n7_ := Ae_q ((nT_q HW0.out (by rw [hg]; exact (keep_size (w := w) (g := g) (row := none) (by repeat (with_reducible first | exact HK.out | apply kS_q | apply kN_q | apply kD_q | apply kA_q | refine kF_q ?_ GW104.out _))) : w.heap.size ≤ gb113) : w0.heap.size ≤ gb113))
  have n8_ := Ae_q ((by rw [hg]; exact nL_q (blk_lt (g := gb104) (o := .cells #[.int .i64 0, .int .i64 0, .int .i64 0, .int .i64 0, .int .i64 0, .int .i64 0] 27 (0, 0)) (bup BK104.out)) : gb104 ≠ gb113))
  have n9_ := Ae_q ((by rw [hg]; exact nG_q (blk_lt (g := gb104) (o := .cells #[.int .i64 0, .int .i64 0, .int .i64 0, .int .i64 0, .int .i64 0, .int .i64 0] 27 (0, 0)) (bup BK104.out)) : gb113 ≠ gb104))
  have n10_ := Ae_q ((by rw [hg]; exact nL_q (IsS81.lt (show IsS81 w0 _ g s0_0 t112 from by repeat (with_reducible first | exact HI0.out | apply i2_q | apply i1_q | apply i0_q | apply i3_q | refine i4_q ?_ NB0_104.out _))) : g ≠ gb113))
  have n11_ := Ae_q ((by rw [hg]; exact nG_q (IsS81.lt (show IsS81 w0 _ g s0_0 t112 from by repeat (with_reducible first | exact HI0.out | apply i2_q | apply i1_q | apply i0_q | apply i3_q | refine i4_q ?_ NB0_104.out _))) : gb113 ≠ g))
  clear HO107
  clear HI0
  clear BK104
  clear HK
  clear HB
  have HO107 := n0_
  have HI0 := n1_
  have BK104 := n2_
  have HK := n3_
  have HB := n4_
  have BK113 := n5_
  have GW113 := n6_
  have GE113 := n7_
  have NB104_113 := n8_
  have NB113_104 := n9_
  have NB0_113 := n10_
  have NB113_0 := n11_
  clear n0_ n1_ n2_ n3_ n4_ n5_ n6_ n7_ n8_ n9_ n10_ n11_
  clear hb hbox hg
  refine hK.out _ _ trivial (fun hHeld => ?_)
  clear hK K
  refine norm_ (a' := ?_) ?_ ?_
  rotate_left
  ·show Act.put _ (some 5) _ = _
   simp only [pS_q]
   rfl
  exact norm_ (by first | (simp only [putAll, Act.put, sA_q, sZ_q, sS_q]; first | done | rfl)) (hJ0_2_4_7_10 (.slice (some adz_v106) y105.length co21, adz_v106, gb113) _ ⟨(rup HO107.out), ⟨_, rfl⟩, (bup BK104.out), (bup BK113.out), GW113.out, GE113.out, NB0_113.out, NB113_0.out, NB104_113.out, NB113_104.out, (by repeat (with_reducible first | exact HI0.out | apply i2_q | apply i1_q | apply i0_q | apply i3_q | refine i4_q ?_ NB0_104.out _ | refine i4_q ?_ NB0_113.out _)), (by repeat (with_reducible first | exact HK.out | apply kS_q | apply kN_q | apply kD_q | apply kA_q | refine kF_q ?_ GW104.out _ | refine kF_q ?_ GW113.out _)), (by repeat (with_reducible first | exact HB.out | apply bA_q | apply pB_q | apply bD_q | refine bS_q ?_ (i5_q HI0.out) | refine bS_q ?_ GE104.out | refine bS_q ?_ GE113.out))⟩)
 rintro ⟨v106, adz_v106, gb113⟩ w21 ⟨h0_, h1_, h2_, h3_, h4_, h5_, h6_, h7_, h8_, h9_, h10_, h11_, h12_⟩
 have n0_ : Aside0 (Kd.R kI_q 3 w21 w.heap.size (fun _ => True) v106 y105) := ⟨h0_⟩
 have n1_ : Aside0 (∃ c_, (v106 : Value) = .slice (some adz_v106) y105.length c_) := ⟨h1_⟩
 have n2_ : Aside0 (w21.heap[gb104]? = some (.cells #[.int .i64 0, .int .i64 0, .int .i64 0, .int .i64 0, .int .i64 0, .int .i64 0] 27 (0, 0))) := ⟨h2_⟩
 have n3_ : Aside0 (w21.heap[gb113]? = some (.cells #[.int .i64 0, .int .i64 0, .int .i64 0, .int .i64 0, .int .i64 0, .int .i64 0] 27 (0, 0))) := ⟨h3_⟩
 have n4_ : Aside0 (w.heap.size ≤ gb113) := ⟨h4_⟩
 have n5_ : Aside0 (w0.heap.size ≤ gb113) := ⟨h5_⟩
 have n6_ : Aside0 (g ≠ gb113) := ⟨h6_⟩
 have n7_ : Aside0 (gb113 ≠ g) := ⟨h7_⟩
 have n8_ : Aside0 (gb104 ≠ gb113) := ⟨h8_⟩
 have n9_ : Aside0 (gb113 ≠ gb104) := ⟨h9_⟩
 have n10_ : Aside0 (IsS81 w0 w21 g s0_0 t112) := ⟨h10_⟩
 have n11_ : Aside0 (KeepBut w w21 g none) := ⟨h11_⟩
 have n12_ : Aside0 (Below w0.heap.size w0 w21) := ⟨h12_⟩
 clear BK104
 clear HI0
 clear HK
 clear HB
 clear h0_ h1_ h2_ h3_ h4_ h5_ h6_ h7_ h8_ h9_ h10_ h11_ h12_
 have HO107 := n0_
 have HA_HO107 := n1_
 have BK104 := n2_
 have BK113 := n3_
 have GW113 := n4_
 have GE113 := n5_
 have NB0_113 := n6_
 have NB113_0 := n7_
 have NB104_113 := n8_
 have NB113_104 := n9_
 have HI0 := n10_
 have HK := n11_
 have HB := n12_
 clear n0_ n1_ n2_ n3_ n4_ n5_ n6_ n7_ n8_ n9_ n10_ n11_ n12_
 have hHeld := trivial
 obtain ⟨co22, eo22⟩ := HA_HO107.out
 clear HA_HO107
 subst eo22
 refine norm_ (a' := ?_) ?_ ?_
 rotate_left
 ·simp only [putAll, Act.put, sA_q, sZ_q, sS_q]
  rfl
 refine one_ (i := 11) (N := none) #[true, true, true, true, true, true, true, true, true, true, true, true] rfl rfl (one_of HT_.out (by kernel_rfl)) (by decide) (fun K hK => ?_)
 have hs23 : cI w21 gb113 0 0 := cZ BK113 0 rfl
 have hfs23 := bF_q BK113.out 0
 have hns23_0 := NB104_113.out
 have hms23_0 := NB113_104.out
 have hs24 : cI w21 gb113 1 0 := cZ BK113 1 rfl
 have hfs24 := bF_q BK113.out 1
 have hns24_0 := NB104_113.out
 have hms24_0 := NB113_104.out
 have hs25 : cI w21 gb113 2 0 := cZ BK113 2 rfl
 have hfs25 := bF_q BK113.out 2
 have hns25_0 := NB104_113.out
 have hms25_0 := NB113_104.out
 have hs26 : cI w21 gb113 3 0 := cZ BK113 3 rfl
 have hfs26 := bF_q BK113.out 3
 have hns26_0 := NB104_113.out
 have hms26_0 := NB113_104.out
 have hs27 : cI w21 gb113 4 0 := cZ BK113 4 rfl
 have hfs27 := bF_q BK113.out 4
 have hns27_0 := NB104_113.out
 have hms27_0 := NB113_104.out
 have hs28 : cI w21 gb113 5 0 := cZ BK113 5 rfl
 have hfs28 := bF_q BK113.out 5
 have hns28_0 := NB104_113.out
 have hms28_0 := NB113_104.out
 refine skip_ (w1 := ?_) (by rfl) rfl ?_ ?_
 rotate_left
 ·go_simp
  rfl
 refine hK.out _ _ trivial (fun hHeld => ?_)
 clear hK K
 refine done_ (done_of HT_.out (by kernel_rfl)) ?_
 have H := HCsr_.out
 clear HCsr_
 by_cases c7 : (rd y105 t108) = 1
 rotate_left
 ·rw [if_neg c7] at H
  have c7b0 : ((rd y105 t108) == 1) = false := fN_q.mpr c7
  have c7b1 : ((rd y105 t108) != 1) = true := nI_q.mpr c7
  by_cases c64 : (rd y105 t108) = 2
  rotate_left
  ·rw [if_neg c64] at H
   have c64b0 : ((rd y105 t108) == 2) = false := fN_q.mpr c64
   have c64b1 : ((rd y105 t108) != 2) = true := nI_q.mpr c64
   simp only [oE_q, pE_q] at H
   obtain ⟨rfl, rfl, rfl, rfl, rfl, rfl, rfl⟩ := H
   have hnb105 := NB113_104.out
   have hnc105 := NB104_113.out
   have hnb106 := NB113_0.out
   have hnc106 := NB0_113.out
   have hcz107_0 : cI w21 gb113 0 0 := cZ BK113 0 rfl
   have hcz107_1 : cI w21 gb113 1 0 := cZ BK113 1 rfl
   have hcz107_2 : cI w21 gb113 2 0 := cZ BK113 2 rfl
   have hcz107_3 : cI w21 gb113 3 0 := cZ BK113 3 rfl
   have hcz107_4 : cI w21 gb113 4 0 := cZ BK113 4 rfl
   have hcz107_5 : cI w21 gb113 5 0 := cZ BK113 5 rfl
   have hfz107_0 := bF_q BK113.out 0
   have hfz107_1 := bF_q BK113.out 1
   have hfz107_2 := bF_q BK113.out 2
   have hfz107_3 := bF_q BK113.out 3
   have hfz107_4 := bF_q BK113.out 4
   have hfz107_5 := bF_q BK113.out 5
   have hnb108 := NB104_0.out
   have hnc108 := NB0_104.out
   have hcz109_0 : cI w21 gb104 0 0 := cZ BK104 0 rfl
   have hcz109_1 : cI w21 gb104 1 0 := cZ BK104 1 rfl
   have hcz109_2 : cI w21 gb104 2 0 := cZ BK104 2 rfl
   have hcz109_3 : cI w21 gb104 3 0 := cZ BK104 3 rfl
   have hcz109_4 : cI w21 gb104 4 0 := cZ BK104 4 rfl
   have hcz109_5 : cI w21 gb104 5 0 := cZ BK104 5 rfl
   have hfz109_0 := bF_q BK104.out 0
   have hfz109_1 := bF_q BK104.out 1
   have hfz109_2 := bF_q BK104.out 2
   have hfz109_3 := bF_q BK104.out 3
   have hfz109_4 := bF_q BK104.out 4
   have hfz109_5 := bF_q BK104.out 5
   try go_wp2
   refine bodyPost_ret (results_cell_row rfl _ _ gb104 27 #[.int .i64 (rd y105 t108), .int .i64 a1, .int .i64 (wrap64 (1 + t111)), .int .i64 0, .int .i64 0, .int .i64 0] (0, 0) _ rfl (by (with_reducible repeat (first | refine bN_q ?_ _ | refine bW_q ?_ | refine bL_q ?_ _)); refine blk_put (cs := #[.int .i64 (rd y105 t108), .int .i64 a1, .int .i64 (wrap64 (1 + t111)), .int .i64 0, .int .i64 0, .int .i64 0]) ?_ 5 _ rfl; (with_reducible repeat (first | refine bN_q ?_ _ | refine bW_q ?_ | refine bL_q ?_ _)); refine blk_put (cs := #[.int .i64 (rd y105 t108), .int .i64 a1, .int .i64 (wrap64 (1 + t111)), .int .i64 0, .int .i64 0, .int .i64 0]) ?_ 4 _ rfl; (with_reducible repeat (first | refine bN_q ?_ _ | refine bW_q ?_ | refine bL_q ?_ _)); refine blk_put (cs := #[.int .i64 (rd y105 t108), .int .i64 a1, .int .i64 (wrap64 (1 + t111)), .int .i64 0, .int .i64 0, .int .i64 0]) ?_ 3 _ rfl; (with_reducible repeat (first | refine bN_q ?_ _ | refine bW_q ?_ | refine bL_q ?_ _)); refine blk_put (cs := #[.int .i64 (rd y105 t108), .int .i64 a1, .int .i64 0, .int .i64 0, .int .i64 0, .int .i64 0]) ?_ 2 _ rfl; (with_reducible repeat (first | refine bN_q ?_ _ | refine bW_q ?_ | refine bL_q ?_ _)); refine blk_put (cs := #[.int .i64 (rd y105 t108), .int .i64 0, .int .i64 0, .int .i64 0, .int .i64 0, .int .i64 0]) ?_ 1 _ rfl; (with_reducible repeat (first | refine bN_q ?_ _ | refine bW_q ?_ | refine bL_q ?_ _)); refine blk_put (cs := #[.int .i64 0, .int .i64 0, .int .i64 0, .int .i64 0, .int .i64 0, .int .i64 0]) ?_ 0 _ rfl; (with_reducible repeat (first | refine bN_q ?_ _ | refine bW_q ?_ | refine bL_q ?_ _)); refine blk_far ?_ NB104_113.out _; (with_reducible repeat (first | refine bN_q ?_ _ | refine bW_q ?_ | refine bL_q ?_ _)); refine blk_far ?_ NB104_113.out _; (with_reducible repeat (first | refine bN_q ?_ _ | refine bW_q ?_ | refine bL_q ?_ _)); refine blk_far ?_ NB104_113.out _; (with_reducible repeat (first | refine bN_q ?_ _ | refine bW_q ?_ | refine bL_q ?_ _)); refine blk_far ?_ NB104_113.out _; (with_reducible repeat (first | refine bN_q ?_ _ | refine bW_q ?_ | refine bL_q ?_ _)); refine blk_far ?_ NB104_113.out _; (with_reducible repeat (first | refine bN_q ?_ _ | refine bW_q ?_ | refine bL_q ?_ _)); refine blk_far ?_ NB104_113.out _; (with_reducible repeat (first | refine bN_q ?_ _ | refine bW_q ?_ | refine bL_q ?_ _)); exact BK104.out) Try.underlying27 rfl (by kernel_rfl)) rfl ?_
   exact ⟨by first | rfl | (simp [eN_q, eS_q] <;> rfl) | (simp [*, eN_q, eS_q] <;> rfl), by repeat (with_reducible first | exact HI0.out | apply i2_q | apply i1_q | apply i0_q | apply i3_q | refine i4_q ?_ NB0_104.out _ | refine i4_q ?_ NB0_113.out _), by repeat (with_reducible first | exact HB.out | apply bA_q | apply pB_q | apply bD_q | refine bS_q ?_ (i5_q HI0.out) | refine bS_q ?_ GE104.out | refine bS_q ?_ GE113.out), by repeat (with_reducible first | exact HK.out | apply kS_q | apply kN_q | apply kD_q | apply kA_q | refine kF_q ?_ GW104.out _ | refine kF_q ?_ GW113.out _)⟩
  rw [if_pos c64] at H
  have c64b0 : ((rd y105 t108) == 2) = true := beq_iff_eq.mpr c64
  have c64b1 : ((rd y105 t108) != 2) = false := nE_q.mpr c64
  clear c64
  replace H := oB_q.mp H
  obtain ⟨⟨t121, t122⟩, A650, H⟩ := H
  replace H : (some (rd y105 t108, a1, wrap64 (1 + t111), wrap64 (1 + t121), 0, 0, t122)) = some (r1, r2, r3, r4, r5, r6, r7) := H
  have A65 := Ae_q A650
  clear A650
  simp only [oE_q, pE_q] at H
  obtain ⟨rfl, rfl, rfl, rfl, rfl, rfl, rfl⟩ := H
  have hnb82 := NB113_104.out
  have hnc82 := NB104_113.out
  have hnb83 := NB113_0.out
  have hnc83 := NB0_113.out
  have hcz84_0 : cI w21 gb113 0 0 := cZ BK113 0 rfl
  have hcz84_1 : cI w21 gb113 1 0 := cZ BK113 1 rfl
  have hcz84_2 : cI w21 gb113 2 0 := cZ BK113 2 rfl
  have hcz84_3 : cI w21 gb113 3 0 := cZ BK113 3 rfl
  have hcz84_4 : cI w21 gb113 4 0 := cZ BK113 4 rfl
  have hcz84_5 : cI w21 gb113 5 0 := cZ BK113 5 rfl
  have hfz84_0 := bF_q BK113.out 0
  have hfz84_1 := bF_q BK113.out 1
  have hfz84_2 := bF_q BK113.out 2
  have hfz84_3 := bF_q BK113.out 3
  have hfz84_4 := bF_q BK113.out 4
  have hfz84_5 := bF_q BK113.out 5
  try go_wp2_with (first | ((with_reducible refine gC_q (f := 49) rfl ?_); refine gL_q (some 34) rfl rfl Try.func49 (by kernel_rfl) rfl #[.pointer (some ⟨g, 0, none⟩), .int .i64 8] rfl (by (try simp only [lM_q, lC_q, lN_q]); first | done | rfl | (simp only [lD_q, lT_q]; rfl)) ?_; (with_reducible refine (spec_l6Rd_pick.calls k g s0_0 t112 8 t121 t122 w0 _ ?side1 ?side2 A65.out).mono ?_); (case side1 => repeat (with_reducible first | exact HI0.out | apply i2_q | apply i1_q | apply i0_q | apply i3_q | refine i4_q ?_ NB0_104.out _ | refine i4_q ?_ NB0_113.out _)); (case side2 => repeat (with_reducible first | exact HB.out | apply bA_q | apply pB_q | apply bD_q | refine bS_q ?_ (i5_q HI0.out) | refine bS_q ?_ GE104.out | refine bS_q ?_ GE113.out)); rintro e w85 ⟨rfl, hi, hb, hk⟩; refine ⟨_, rfl, ?_⟩; have n0_ := Ae_q (kB_q hk (g' := gb104) (o := .cells #[.int .i64 0, .int .i64 0, .int .i64 0, .int .i64 0, .int .i64 0, .int .i64 0] 27 (0, 0)) (by (with_reducible repeat (first | refine bN_q ?_ _ | refine bW_q ?_ | refine bL_q ?_ _)); refine blk_far ?_ NB104_113.out _; (with_reducible repeat (first | refine bN_q ?_ _ | refine bW_q ?_ | refine bL_q ?_ _)); refine blk_far ?_ NB104_113.out _; (with_reducible repeat (first | refine bN_q ?_ _ | refine bW_q ?_ | refine bL_q ?_ _)); refine blk_far ?_ NB104_113.out _; (with_reducible repeat (first | refine bN_q ?_ _ | refine bW_q ?_ | refine bL_q ?_ _)); refine blk_far ?_ NB104_113.out _; (with_reducible repeat (first | refine bN_q ?_ _ | refine bW_q ?_ | refine bL_q ?_ _)); refine blk_far ?_ NB104_113.out _; (with_reducible repeat (first | refine bN_q ?_ _ | refine bW_q ?_ | refine bL_q ?_ _)); refine blk_far ?_ NB104_113.out _; (with_reducible repeat (first | refine bN_q ?_ _ | refine bW_q ?_ | refine bL_q ?_ _)); exact BK104.out) NB104_0.out (by simp)); have n1_ := Ae_q (rM_q (rK_q (i6_q (show IsS81 w0 _ g s0_0 t112 from by repeat (with_reducible first | exact HI0.out | apply i2_q | apply i1_q | apply i0_q | apply i3_q | refine i4_q ?_ NB0_104.out _ | refine i4_q ?_ NB0_113.out _)) (by (with_reducible repeat (first | apply rA_q | apply rN_q | apply rD_q)); exact (rM_q (Kd.R_far (p := ⟨gb113, 5, none⟩) (Kd.R_far (p := ⟨gb113, 4, none⟩) (Kd.R_far (p := ⟨gb113, 3, none⟩) (Kd.R_far (p := ⟨gb113, 2, none⟩) (Kd.R_far (p := ⟨gb113, 1, none⟩) (Kd.R_far (p := ⟨gb113, 0, none⟩) (Kd.R_types HO107.out BK113.out (by decide)) (fun _ hk => hk.2) (.int .i64 (rd y105 t108))) (fun _ hk => hk.2) (.int .i64 a1)) (fun _ hk => hk.2) (.int .i64 (wrap64 (1 + t111)))) (fun _ hk => hk.2) (.int .i64 0)) (fun _ hk => hk.2) (.int .i64 0)) (fun _ hk => hk.2) (.int .i64 0)) (fun _ h_ => h_.1))) (by decide)) hk (fun _ h => h.2)) (fun _ h => h.1)); have n2_ := Ae_q (kB_q hk (g' := gb113) (o := .cells #[.int .i64 (rd y105 t108), .int .i64 a1, .int .i64 (wrap64 (1 + t111)), .int .i64 0, .int .i64 0, .int .i64 0] 27 (0, 0)) (by (with_reducible repeat (first | refine bN_q ?_ _ | refine bW_q ?_ | refine bL_q ?_ _)); refine blk_put (cs := #[.int .i64 (rd y105 t108), .int .i64 a1, .int .i64 (wrap64 (1 + t111)), .int .i64 0, .int .i64 0, .int .i64 0]) ?_ 5 _ rfl; (with_reducible repeat (first | refine bN_q ?_ _ | refine bW_q ?_ | refine bL_q ?_ _)); refine blk_put (cs := #[.int .i64 (rd y105 t108), .int .i64 a1, .int .i64 (wrap64 (1 + t111)), .int .i64 0, .int .i64 0, .int .i64 0]) ?_ 4 _ rfl; (with_reducible repeat (first | refine bN_q ?_ _ | refine bW_q ?_ | refine bL_q ?_ _)); refine blk_put (cs := #[.int .i64 (rd y105 t108), .int .i64 a1, .int .i64 (wrap64 (1 + t111)), .int .i64 0, .int .i64 0, .int .i64 0]) ?_ 3 _ rfl; (with_reducible repeat (first | refine bN_q ?_ _ | refine bW_q ?_ | refine bL_q ?_ _)); refine blk_put (cs := #[.int .i64 (rd y105 t108), .int .i64 a1, .int .i64 0, .int .i64 0, .int .i64 0, .int .i64 0]) ?_ 2 _ rfl; (with_reducible repeat (first | refine bN_q ?_ _ | refine bW_q ?_ | refine bL_q ?_ _)); refine blk_put (cs := #[.int .i64 (rd y105 t108), .int .i64 0, .int .i64 0, .int .i64 0, .int .i64 0, .int .i64 0]) ?_ 1 _ rfl; (with_reducible repeat (first | refine bN_q ?_ _ | refine bW_q ?_ | refine bL_q ?_ _)); refine blk_put (cs := #[.int .i64 0, .int .i64 0, .int .i64 0, .int .i64 0, .int .i64 0, .int .i64 0]) ?_ 0 _ rfl; (with_reducible repeat (first | refine bN_q ?_ _ | refine bW_q ?_ | refine bL_q ?_ _)); exact BK113.out) NB113_0.out (by simp)); have n3_ := Ae_q (kT_q (by repeat (with_reducible first | exact HK.out | apply kS_q | apply kN_q | apply kD_q | apply kA_q | refine kF_q ?_ GW104.out _ | refine kF_q ?_ GW113.out _)) hk (.inl rfl)); have n4_ := Ae_q (hb); have n5_ := Ae_q (hi); clear BK104; clear HO107; clear BK113; clear HK; clear HB; clear HI0; have BK104 := n0_; have HO107 := n1_; have BK113 := n2_; have HK := n3_; have HB := n4_; have HI0 := n5_; clear n0_ n1_ n2_ n3_ n4_ n5_; (try clear hb); (try clear hb2); (try clear hk); (try clear hi); have hcz86_0 : cI w85 gb113 0 (rd y105 t108) := cZ BK113 0 rfl; have hcz86_1 : cI w85 gb113 1 a1 := cZ BK113 1 rfl; have hcz86_2 : cI w85 gb113 2 (wrap64 (1 + t111)) := cZ BK113 2 rfl; have hcz86_3 : cI w85 gb113 3 0 := cZ BK113 3 rfl; have hcz86_4 : cI w85 gb113 4 0 := cZ BK113 4 rfl; have hcz86_5 : cI w85 gb113 5 0 := cZ BK113 5 rfl; have hfz86_0 := bF_q BK113.out 0; have hfz86_1 := bF_q BK113.out 1; have hfz86_2 := bF_q BK113.out 2; have hfz86_3 := bF_q BK113.out 3; have hfz86_4 := bF_q BK113.out 4; have hfz86_5 := bF_q BK113.out 5; have hnb87 := NB104_0.out; have hnc87 := NB0_104.out; have hcz88_0 : cI w85 gb104 0 0 := cZ BK104 0 rfl; have hcz88_1 : cI w85 gb104 1 0 := cZ BK104 1 rfl; have hcz88_2 : cI w85 gb104 2 0 := cZ BK104 2 rfl; have hcz88_3 : cI w85 gb104 3 0 := cZ BK104 3 rfl; have hcz88_4 : cI w85 gb104 4 0 := cZ BK104 4 rfl; have hcz88_5 : cI w85 gb104 5 0 := cZ BK104 5 rfl; have hfz88_0 := bF_q BK104.out 0; have hfz88_1 := bF_q BK104.out 1; have hfz88_2 := bF_q BK104.out 2; have hfz88_3 := bF_q BK104.out 3; have hfz88_4 := bF_q BK104.out 4; have hfz88_5 := bF_q BK104.out 5))
  refine bodyPost_ret (results_cell_row rfl _ _ gb104 27 #[.int .i64 (rd y105 t108), .int .i64 a1, .int .i64 (wrap64 (1 + t111)), .int .i64 (wrap64 (1 + t121)), .int .i64 0, .int .i64 0] (0, 0) _ rfl (by (with_reducible repeat (first | refine bN_q ?_ _ | refine bW_q ?_ | refine bL_q ?_ _)); refine blk_put (cs := #[.int .i64 (rd y105 t108), .int .i64 a1, .int .i64 (wrap64 (1 + t111)), .int .i64 (wrap64 (1 + t121)), .int .i64 0, .int .i64 0]) ?_ 5 _ rfl; (with_reducible repeat (first | refine bN_q ?_ _ | refine bW_q ?_ | refine bL_q ?_ _)); refine blk_put (cs := #[.int .i64 (rd y105 t108), .int .i64 a1, .int .i64 (wrap64 (1 + t111)), .int .i64 (wrap64 (1 + t121)), .int .i64 0, .int .i64 0]) ?_ 4 _ rfl; (with_reducible repeat (first | refine bN_q ?_ _ | refine bW_q ?_ | refine bL_q ?_ _)); refine blk_put (cs := #[.int .i64 (rd y105 t108), .int .i64 a1, .int .i64 (wrap64 (1 + t111)), .int .i64 0, .int .i64 0, .int .i64 0]) ?_ 3 _ rfl; (with_reducible repeat (first | refine bN_q ?_ _ | refine bW_q ?_ | refine bL_q ?_ _)); refine blk_put (cs := #[.int .i64 (rd y105 t108), .int .i64 a1, .int .i64 0, .int .i64 0, .int .i64 0, .int .i64 0]) ?_ 2 _ rfl; (with_reducible repeat (first | refine bN_q ?_ _ | refine bW_q ?_ | refine bL_q ?_ _)); refine blk_put (cs := #[.int .i64 (rd y105 t108), .int .i64 0, .int .i64 0, .int .i64 0, .int .i64 0, .int .i64 0]) ?_ 1 _ rfl; (with_reducible repeat (first | refine bN_q ?_ _ | refine bW_q ?_ | refine bL_q ?_ _)); refine blk_put (cs := #[.int .i64 0, .int .i64 0, .int .i64 0, .int .i64 0, .int .i64 0, .int .i64 0]) ?_ 0 _ rfl; (with_reducible repeat (first | refine bN_q ?_ _ | refine bW_q ?_ | refine bL_q ?_ _)); refine blk_far ?_ NB104_113.out _; (with_reducible repeat (first | refine bN_q ?_ _ | refine bW_q ?_ | refine bL_q ?_ _)); exact BK104.out) Try.underlying27 rfl (by kernel_rfl)) rfl ?_
  exact ⟨by first | rfl | (simp [eN_q, eS_q] <;> rfl) | (simp [*, eN_q, eS_q] <;> rfl), by repeat (with_reducible first | exact HI0.out | apply i2_q | apply i1_q | apply i0_q | apply i3_q | refine i4_q ?_ NB0_104.out _ | refine i4_q ?_ NB0_113.out _), by repeat (with_reducible first | exact HB.out | apply bA_q | apply pB_q | apply bD_q | refine bS_q ?_ (i5_q HI0.out) | refine bS_q ?_ GE104.out | refine bS_q ?_ GE113.out), by repeat (with_reducible first | exact HK.out | apply kS_q | apply kN_q | apply kD_q | apply kA_q | refine kF_q ?_ GW104.out _ | refine kF_q ?_ GW113.out _)⟩
 rw [if_pos c7] at H
 have c7b0 : ((rd y105 t108) == 1) = true := beq_iff_eq.mpr c7
 have c7b1 : ((rd y105 t108) != 1) = false := nE_q.mpr c7
 clear c7
 replace H := oB_q.mp H
 obtain ⟨⟨t114, t115⟩, A80, H⟩ := H
 replace H : ((spec_l6Rd_pick.f k s0_0 t115 2).bind fun bt116 => (if bt116.1 = 0 then ((spec_l6Rd_pick.f k s0_0 bt116.2 8).bind fun bt118 => ((spec_l3Weight.f k bt118.1).bind fun t120 => (some (rd y105 t108, a1, wrap64 (1 + t111), 0, t120, wrap64 (1 + t114), bt118.2)))) else (some (rd y105 t108, a1, wrap64 (1 + t111), 0, 0, wrap64 (1 + t114), bt116.2)))) = some (r1, r2, r3, r4, r5, r6, r7) := H
 have A8 := Ae_q A80
 clear A80
 replace H := oB_q.mp H
 obtain ⟨⟨t116, t117⟩, A90, H⟩ := H
 replace H : (if t116 = 0 then ((spec_l6Rd_pick.f k s0_0 t117 8).bind fun bt118 => ((spec_l3Weight.f k bt118.1).bind fun t120 => (some (rd y105 t108, a1, wrap64 (1 + t111), 0, t120, wrap64 (1 + t114), bt118.2)))) else (some (rd y105 t108, a1, wrap64 (1 + t111), 0, 0, wrap64 (1 + t114), t117))) = some (r1, r2, r3, r4, r5, r6, r7) := H
 have A9 := Ae_q A90
 clear A90
 by_cases c10 : t116 = 0
 rotate_left
 ·rw [if_neg c10] at H
  have c10b0 : (t116 == 0) = false := fN_q.mpr c10
  have c10b1 : (t116 != 0) = true := nI_q.mpr c10
  simp only [oE_q, pE_q] at H
  obtain ⟨rfl, rfl, rfl, rfl, rfl, rfl, rfl⟩ := H
  have hnb55 := NB113_104.out
  have hnc55 := NB104_113.out
  have hnb56 := NB113_0.out
  have hnc56 := NB0_113.out
  have hcz57_0 : cI w21 gb113 0 0 := cZ BK113 0 rfl
  have hcz57_1 : cI w21 gb113 1 0 := cZ BK113 1 rfl
  have hcz57_2 : cI w21 gb113 2 0 := cZ BK113 2 rfl
  have hcz57_3 : cI w21 gb113 3 0 := cZ BK113 3 rfl
  have hcz57_4 : cI w21 gb113 4 0 := cZ BK113 4 rfl
  have hcz57_5 : cI w21 gb113 5 0 := cZ BK113 5 rfl
  have hfz57_0 := bF_q BK113.out 0
  have hfz57_1 := bF_q BK113.out 1
  have hfz57_2 := bF_q BK113.out 2
  have hfz57_3 := bF_q BK113.out 3
  have hfz57_4 := bF_q BK113.out 4
  have hfz57_5 := bF_q BK113.out 5
  try go_wp2_with (first | ((with_reducible refine gC_q (f := 49) rfl ?_); refine gL_q (some 21) rfl rfl Try.func49 (by kernel_rfl) rfl #[.pointer (some ⟨g, 0, none⟩), .int .i64 5] rfl (by (try simp only [lM_q, lC_q, lN_q]); first | done | rfl | (simp only [lD_q, lT_q]; rfl)) ?_; (with_reducible refine (spec_l6Rd_pick.calls k g s0_0 t112 5 t114 t115 w0 _ ?side1 ?side2 A8.out).mono ?_); (case side1 => repeat (with_reducible first | exact HI0.out | apply i2_q | apply i1_q | apply i0_q | apply i3_q | refine i4_q ?_ NB0_104.out _ | refine i4_q ?_ NB0_113.out _)); (case side2 => repeat (with_reducible first | exact HB.out | apply bA_q | apply pB_q | apply bD_q | refine bS_q ?_ (i5_q HI0.out) | refine bS_q ?_ GE104.out | refine bS_q ?_ GE113.out)); rintro e w58 ⟨rfl, hi, hb, hk⟩; refine ⟨_, rfl, ?_⟩; have n0_ := Ae_q (kB_q hk (g' := gb104) (o := .cells #[.int .i64 0, .int .i64 0, .int .i64 0, .int .i64 0, .int .i64 0, .int .i64 0] 27 (0, 0)) (by (with_reducible repeat (first | refine bN_q ?_ _ | refine bW_q ?_ | refine bL_q ?_ _)); refine blk_far ?_ NB104_113.out _; (with_reducible repeat (first | refine bN_q ?_ _ | refine bW_q ?_ | refine bL_q ?_ _)); refine blk_far ?_ NB104_113.out _; (with_reducible repeat (first | refine bN_q ?_ _ | refine bW_q ?_ | refine bL_q ?_ _)); refine blk_far ?_ NB104_113.out _; (with_reducible repeat (first | refine bN_q ?_ _ | refine bW_q ?_ | refine bL_q ?_ _)); refine blk_far ?_ NB104_113.out _; (with_reducible repeat (first | refine bN_q ?_ _ | refine bW_q ?_ | refine bL_q ?_ _)); refine blk_far ?_ NB104_113.out _; (with_reducible repeat (first | refine bN_q ?_ _ | refine bW_q ?_ | refine bL_q ?_ _)); refine blk_far ?_ NB104_113.out _; (with_reducible repeat (first | refine bN_q ?_ _ | refine bW_q ?_ | refine bL_q ?_ _)); exact BK104.out) NB104_0.out (by simp)); have n1_ := Ae_q (rM_q (rK_q (i6_q (show IsS81 w0 _ g s0_0 t112 from by repeat (with_reducible first | exact HI0.out | apply i2_q | apply i1_q | apply i0_q | apply i3_q | refine i4_q ?_ NB0_104.out _ | refine i4_q ?_ NB0_113.out _)) (by (with_reducible repeat (first | apply rA_q | apply rN_q | apply rD_q)); exact (rM_q (Kd.R_far (p := ⟨gb113, 5, none⟩) (Kd.R_far (p := ⟨gb113, 4, none⟩) (Kd.R_far (p := ⟨gb113, 3, none⟩) (Kd.R_far (p := ⟨gb113, 2, none⟩) (Kd.R_far (p := ⟨gb113, 1, none⟩) (Kd.R_far (p := ⟨gb113, 0, none⟩) (Kd.R_types HO107.out BK113.out (by decide)) (fun _ hk => hk.2) (.int .i64 (rd y105 t108))) (fun _ hk => hk.2) (.int .i64 a1)) (fun _ hk => hk.2) (.int .i64 (wrap64 (1 + t111)))) (fun _ hk => hk.2) (.int .i64 0)) (fun _ hk => hk.2) (.int .i64 0)) (fun _ hk => hk.2) (.int .i64 0)) (fun _ h_ => h_.1))) (by decide)) hk (fun _ h => h.2)) (fun _ h => h.1)); have n2_ := Ae_q (kB_q hk (g' := gb113) (o := .cells #[.int .i64 (rd y105 t108), .int .i64 a1, .int .i64 (wrap64 (1 + t111)), .int .i64 0, .int .i64 0, .int .i64 0] 27 (0, 0)) (by (with_reducible repeat (first | refine bN_q ?_ _ | refine bW_q ?_ | refine bL_q ?_ _)); refine blk_put (cs := #[.int .i64 (rd y105 t108), .int .i64 a1, .int .i64 (wrap64 (1 + t111)), .int .i64 0, .int .i64 0, .int .i64 0]) ?_ 5 _ rfl; (with_reducible repeat (first | refine bN_q ?_ _ | refine bW_q ?_ | refine bL_q ?_ _)); refine blk_put (cs := #[.int .i64 (rd y105 t108), .int .i64 a1, .int .i64 (wrap64 (1 + t111)), .int .i64 0, .int .i64 0, .int .i64 0]) ?_ 4 _ rfl; (with_reducible repeat (first | refine bN_q ?_ _ | refine bW_q ?_ | refine bL_q ?_ _)); refine blk_put (cs := #[.int .i64 (rd y105 t108), .int .i64 a1, .int .i64 (wrap64 (1 + t111)), .int .i64 0, .int .i64 0, .int .i64 0]) ?_ 3 _ rfl; (with_reducible repeat (first | refine bN_q ?_ _ | refine bW_q ?_ | refine bL_q ?_ _)); refine blk_put (cs := #[.int .i64 (rd y105 t108), .int .i64 a1, .int .i64 0, .int .i64 0, .int .i64 0, .int .i64 0]) ?_ 2 _ rfl; (with_reducible repeat (first | refine bN_q ?_ _ | refine bW_q ?_ | refine bL_q ?_ _)); refine blk_put (cs := #[.int .i64 (rd y105 t108), .int .i64 0, .int .i64 0, .int .i64 0, .int .i64 0, .int .i64 0]) ?_ 1 _ rfl; (with_reducible repeat (first | refine bN_q ?_ _ | refine bW_q ?_ | refine bL_q ?_ _)); refine blk_put (cs := #[.int .i64 0, .int .i64 0, .int .i64 0, .int .i64 0, .int .i64 0, .int .i64 0]) ?_ 0 _ rfl; (with_reducible repeat (first | refine bN_q ?_ _ | refine bW_q ?_ | refine bL_q ?_ _)); exact BK113.out) NB113_0.out (by simp)); have n3_ := Ae_q (kT_q (by repeat (with_reducible first | exact HK.out | apply kS_q | apply kN_q | apply kD_q | apply kA_q | refine kF_q ?_ GW104.out _ | refine kF_q ?_ GW113.out _)) hk (.inl rfl)); have n4_ := Ae_q (hb); have n5_ := Ae_q (hi); clear BK104; clear HO107; clear BK113; clear HK; clear HB; clear HI0; have BK104 := n0_; have HO107 := n1_; have BK113 := n2_; have HK := n3_; have HB := n4_; have HI0 := n5_; clear n0_ n1_ n2_ n3_ n4_ n5_; (try clear hb); (try clear hb2); (try clear hk); (try clear hi); have hcz59_0 : cI w58 gb113 0 (rd y105 t108) := cZ BK113 0 rfl; have hcz59_1 : cI w58 gb113 1 a1 := cZ BK113 1 rfl; have hcz59_2 : cI w58 gb113 2 (wrap64 (1 + t111)) := cZ BK113 2 rfl; have hcz59_3 : cI w58 gb113 3 0 := cZ BK113 3 rfl; have hcz59_4 : cI w58 gb113 4 0 := cZ BK113 4 rfl; have hcz59_5 : cI w58 gb113 5 0 := cZ BK113 5 rfl; have hfz59_0 := bF_q BK113.out 0; have hfz59_1 := bF_q BK113.out 1; have hfz59_2 := bF_q BK113.out 2; have hfz59_3 := bF_q BK113.out 3; have hfz59_4 := bF_q BK113.out 4; have hfz59_5 := bF_q BK113.out 5) | ((with_reducible refine gC_q (f := 49) rfl ?_); refine gL_q (some 25) rfl rfl Try.func49 (by kernel_rfl) rfl #[.pointer (some ⟨g, 0, none⟩), .int .i64 2] rfl (by (try simp only [lM_q, lC_q, lN_q]); first | done | rfl | (simp only [lD_q, lT_q]; rfl)) ?_; (with_reducible refine (spec_l6Rd_pick.calls k g s0_0 t115 2 t116 t117 w0 _ ?side1 ?side2 A9.out).mono ?_); (case side1 => repeat (with_reducible first | exact HI0.out | apply i2_q | apply i1_q | apply i0_q | apply i3_q | refine i4_q ?_ NB0_104.out _ | refine i4_q ?_ NB0_113.out _)); (case side2 => repeat (with_reducible first | exact HB.out | apply bA_q | apply pB_q | apply bD_q | refine bS_q ?_ (i5_q HI0.out) | refine bS_q ?_ GE104.out | refine bS_q ?_ GE113.out)); rintro e w60 ⟨rfl, hi, hb, hk⟩; refine ⟨_, rfl, ?_⟩; have n0_ := Ae_q (kB_q hk (g' := gb104) (o := .cells #[.int .i64 0, .int .i64 0, .int .i64 0, .int .i64 0, .int .i64 0, .int .i64 0] 27 (0, 0)) (by (with_reducible repeat (first | refine bN_q ?_ _ | refine bW_q ?_ | refine bL_q ?_ _)); refine blk_far ?_ NB104_113.out _; (with_reducible repeat (first | refine bN_q ?_ _ | refine bW_q ?_ | refine bL_q ?_ _)); exact BK104.out) NB104_0.out (by simp)); have n1_ := Ae_q (rM_q (rK_q (i6_q (show IsS81 w0 _ g s0_0 t115 from by repeat (with_reducible first | exact HI0.out | apply i2_q | apply i1_q | apply i0_q | apply i3_q | refine i4_q ?_ NB0_104.out _ | refine i4_q ?_ NB0_113.out _)) (by (with_reducible repeat (first | apply rA_q | apply rN_q | apply rD_q)); exact (rM_q (Kd.R_far (p := ⟨gb113, 5, none⟩) (Kd.R_types HO107.out BK113.out (by decide)) (fun _ hk => hk.2) (.int .i64 (wrap64 (1 + t114)))) (fun _ h_ => h_.1))) (by decide)) hk (fun _ h => h.2)) (fun _ h => h.1)); have n2_ := Ae_q (kB_q hk (g' := gb113) (o := .cells #[.int .i64 (rd y105 t108), .int .i64 a1, .int .i64 (wrap64 (1 + t111)), .int .i64 0, .int .i64 0, .int .i64 (wrap64 (1 + t114))] 27 (0, 0)) (by (with_reducible repeat (first | refine bN_q ?_ _ | refine bW_q ?_ | refine bL_q ?_ _)); refine blk_put (cs := #[.int .i64 (rd y105 t108), .int .i64 a1, .int .i64 (wrap64 (1 + t111)), .int .i64 0, .int .i64 0, .int .i64 0]) ?_ 5 _ rfl; (with_reducible repeat (first | refine bN_q ?_ _ | refine bW_q ?_ | refine bL_q ?_ _)); exact BK113.out) NB113_0.out (by simp)); have n3_ := Ae_q (kT_q (by repeat (with_reducible first | exact HK.out | apply kS_q | apply kN_q | apply kD_q | apply kA_q | refine kF_q ?_ GW104.out _ | refine kF_q ?_ GW113.out _)) hk (.inl rfl)); have n4_ := Ae_q (hb); have n5_ := Ae_q (hi); clear BK104; clear HO107; clear BK113; clear HK; clear HB; clear HI0; have BK104 := n0_; have HO107 := n1_; have BK113 := n2_; have HK := n3_; have HB := n4_; have HI0 := n5_; clear n0_ n1_ n2_ n3_ n4_ n5_; (try clear hb); (try clear hb2); (try clear hk); (try clear hi); have hcz61_0 : cI w60 gb113 0 (rd y105 t108) := cZ BK113 0 rfl; have hcz61_1 : cI w60 gb113 1 a1 := cZ BK113 1 rfl; have hcz61_2 : cI w60 gb113 2 (wrap64 (1 + t111)) := cZ BK113 2 rfl; have hcz61_3 : cI w60 gb113 3 0 := cZ BK113 3 rfl; have hcz61_4 : cI w60 gb113 4 0 := cZ BK113 4 rfl; have hcz61_5 : cI w60 gb113 5 (wrap64 (1 + t114)) := cZ BK113 5 rfl; have hfz61_0 := bF_q BK113.out 0; have hfz61_1 := bF_q BK113.out 1; have hfz61_2 := bF_q BK113.out 2; have hfz61_3 := bF_q BK113.out 3; have hfz61_4 := bF_q BK113.out 4; have hfz61_5 := bF_q BK113.out 5; have hnb62 := NB104_0.out; have hnc62 := NB0_104.out; have hcz63_0 : cI w60 gb104 0 0 := cZ BK104 0 rfl; have hcz63_1 : cI w60 gb104 1 0 := cZ BK104 1 rfl; have hcz63_2 : cI w60 gb104 2 0 := cZ BK104 2 rfl; have hcz63_3 : cI w60 gb104 3 0 := cZ BK104 3 rfl; have hcz63_4 : cI w60 gb104 4 0 := cZ BK104 4 rfl; have hcz63_5 : cI w60 gb104 5 0 := cZ BK104 5 rfl; have hfz63_0 := bF_q BK104.out 0; have hfz63_1 := bF_q BK104.out 1; have hfz63_2 := bF_q BK104.out 2; have hfz63_3 := bF_q BK104.out 3; have hfz63_4 := bF_q BK104.out 4; have hfz63_5 := bF_q BK104.out 5))
  refine bodyPost_ret (results_cell_row rfl _ _ gb104 27 #[.int .i64 (rd y105 t108), .int .i64 a1, .int .i64 (wrap64 (1 + t111)), .int .i64 0, .int .i64 0, .int .i64 (wrap64 (1 + t114))] (0, 0) _ rfl (by (with_reducible repeat (first | refine bN_q ?_ _ | refine bW_q ?_ | refine bL_q ?_ _)); refine blk_put (cs := #[.int .i64 (rd y105 t108), .int .i64 a1, .int .i64 (wrap64 (1 + t111)), .int .i64 0, .int .i64 0, .int .i64 0]) ?_ 5 _ rfl; (with_reducible repeat (first | refine bN_q ?_ _ | refine bW_q ?_ | refine bL_q ?_ _)); refine blk_put (cs := #[.int .i64 (rd y105 t108), .int .i64 a1, .int .i64 (wrap64 (1 + t111)), .int .i64 0, .int .i64 0, .int .i64 0]) ?_ 4 _ rfl; (with_reducible repeat (first | refine bN_q ?_ _ | refine bW_q ?_ | refine bL_q ?_ _)); refine blk_put (cs := #[.int .i64 (rd y105 t108), .int .i64 a1, .int .i64 (wrap64 (1 + t111)), .int .i64 0, .int .i64 0, .int .i64 0]) ?_ 3 _ rfl; (with_reducible repeat (first | refine bN_q ?_ _ | refine bW_q ?_ | refine bL_q ?_ _)); refine blk_put (cs := #[.int .i64 (rd y105 t108), .int .i64 a1, .int .i64 0, .int .i64 0, .int .i64 0, .int .i64 0]) ?_ 2 _ rfl; (with_reducible repeat (first | refine bN_q ?_ _ | refine bW_q ?_ | refine bL_q ?_ _)); refine blk_put (cs := #[.int .i64 (rd y105 t108), .int .i64 0, .int .i64 0, .int .i64 0, .int .i64 0, .int .i64 0]) ?_ 1 _ rfl; (with_reducible repeat (first | refine bN_q ?_ _ | refine bW_q ?_ | refine bL_q ?_ _)); refine blk_put (cs := #[.int .i64 0, .int .i64 0, .int .i64 0, .int .i64 0, .int .i64 0, .int .i64 0]) ?_ 0 _ rfl; (with_reducible repeat (first | refine bN_q ?_ _ | refine bW_q ?_ | refine bL_q ?_ _)); exact BK104.out) Try.underlying27 rfl (by kernel_rfl)) rfl ?_
  exact ⟨by first | rfl | (simp [eN_q, eS_q] <;> rfl) | (simp [*, eN_q, eS_q] <;> rfl), by repeat (with_reducible first | exact HI0.out | apply i2_q | apply i1_q | apply i0_q | apply i3_q | refine i4_q ?_ NB0_104.out _ | refine i4_q ?_ NB0_113.out _), by repeat (with_reducible first | exact HB.out | apply bA_q | apply pB_q | apply bD_q | refine bS_q ?_ (i5_q HI0.out) | refine bS_q ?_ GE104.out | refine bS_q ?_ GE113.out), by repeat (with_reducible first | exact HK.out | apply kS_q | apply kN_q | apply kD_q | apply kA_q | refine kF_q ?_ GW104.out _ | refine kF_q ?_ GW113.out _)⟩
 rw [if_pos c10] at H
 have c10b0 : (t116 == 0) = true := beq_iff_eq.mpr c10
 have c10b1 : (t116 != 0) = false := nE_q.mpr c10
 clear c10
 replace H := oB_q.mp H
 obtain ⟨⟨t118, t119⟩, A110, H⟩ := H
 replace H : ((spec_l3Weight.f k t118).bind fun t120 => (some (rd y105 t108, a1, wrap64 (1 + t111), 0, t120, wrap64 (1 + t114), t119))) = some (r1, r2, r3, r4, r5, r6, r7) := H
 have A11 := Ae_q A110
 clear A110
 replace H := oB_q.mp H
 obtain ⟨t120, A120, H⟩ := H
 replace H : (some (rd y105 t108, a1, wrap64 (1 + t111), 0, t120, wrap64 (1 + t114), t119)) = some (r1, r2, r3, r4, r5, r6, r7) := H
 have A12 := Ae_q A120
 clear A120
 simp only [oE_q, pE_q] at H
 obtain ⟨rfl, rfl, rfl, rfl, rfl, rfl, rfl⟩ := H
 have hnb29 := NB113_104.out
 have hnc29 := NB104_113.out
 have hnb30 := NB113_0.out
 have hnc30 := NB0_113.out
 have hcz31_0 : cI w21 gb113 0 0 := cZ BK113 0 rfl
 have hcz31_1 : cI w21 gb113 1 0 := cZ BK113 1 rfl
 have hcz31_2 : cI w21 gb113 2 0 := cZ BK113 2 rfl
 have hcz31_3 : cI w21 gb113 3 0 := cZ BK113 3 rfl
 have hcz31_4 : cI w21 gb113 4 0 := cZ BK113 4 rfl
 have hcz31_5 : cI w21 gb113 5 0 := cZ BK113 5 rfl
 have hfz31_0 := bF_q BK113.out 0
 have hfz31_1 := bF_q BK113.out 1
 have hfz31_2 := bF_q BK113.out 2
 have hfz31_3 := bF_q BK113.out 3
 have hfz31_4 := bF_q BK113.out 4
 have hfz31_5 := bF_q BK113.out 5
 try go_wp2_with (first | ((with_reducible refine gC_q (f := 49) rfl ?_); refine gL_q (some 21) rfl rfl Try.func49 (by kernel_rfl) rfl #[.pointer (some ⟨g, 0, none⟩), .int .i64 5] rfl (by (try simp only [lM_q, lC_q, lN_q]); first | done | rfl | (simp only [lD_q, lT_q]; rfl)) ?_; (with_reducible refine (spec_l6Rd_pick.calls k g s0_0 t112 5 t114 t115 w0 _ ?side1 ?side2 A8.out).mono ?_); (case side1 => repeat (with_reducible first | exact HI0.out | apply i2_q | apply i1_q | apply i0_q | apply i3_q | refine i4_q ?_ NB0_104.out _ | refine i4_q ?_ NB0_113.out _)); (case side2 => repeat (with_reducible first | exact HB.out | apply bA_q | apply pB_q | apply bD_q | refine bS_q ?_ (i5_q HI0.out) | refine bS_q ?_ GE104.out | refine bS_q ?_ GE113.out)); rintro e w32 ⟨rfl, hi, hb, hk⟩; refine ⟨_, rfl, ?_⟩; have n0_ := Ae_q (kB_q hk (g' := gb104) (o := .cells #[.int .i64 0, .int .i64 0, .int .i64 0, .int .i64 0, .int .i64 0, .int .i64 0] 27 (0, 0)) (by (with_reducible repeat (first | refine bN_q ?_ _ | refine bW_q ?_ | refine bL_q ?_ _)); refine blk_far ?_ NB104_113.out _; (with_reducible repeat (first | refine bN_q ?_ _ | refine bW_q ?_ | refine bL_q ?_ _)); refine blk_far ?_ NB104_113.out _; (with_reducible repeat (first | refine bN_q ?_ _ | refine bW_q ?_ | refine bL_q ?_ _)); refine blk_far ?_ NB104_113.out _; (with_reducible repeat (first | refine bN_q ?_ _ | refine bW_q ?_ | refine bL_q ?_ _)); refine blk_far ?_ NB104_113.out _; (with_reducible repeat (first | refine bN_q ?_ _ | refine bW_q ?_ | refine bL_q ?_ _)); refine blk_far ?_ NB104_113.out _; (with_reducible repeat (first | refine bN_q ?_ _ | refine bW_q ?_ | refine bL_q ?_ _)); refine blk_far ?_ NB104_113.out _; (with_reducible repeat (first | refine bN_q ?_ _ | refine bW_q ?_ | refine bL_q ?_ _)); exact BK104.out) NB104_0.out (by simp)); have n1_ := Ae_q (rM_q (rK_q (i6_q (show IsS81 w0 _ g s0_0 t112 from by repeat (with_reducible first | exact HI0.out | apply i2_q | apply i1_q | apply i0_q | apply i3_q | refine i4_q ?_ NB0_104.out _ | refine i4_q ?_ NB0_113.out _)) (by (with_reducible repeat (first | apply rA_q | apply rN_q | apply rD_q)); exact (rM_q (Kd.R_far (p := ⟨gb113, 5, none⟩) (Kd.R_far (p := ⟨gb113, 4, none⟩) (Kd.R_far (p := ⟨gb113, 3, none⟩) (Kd.R_far (p := ⟨gb113, 2, none⟩) (Kd.R_far (p := ⟨gb113, 1, none⟩) (Kd.R_far (p := ⟨gb113, 0, none⟩) (Kd.R_types HO107.out BK113.out (by decide)) (fun _ hk => hk.2) (.int .i64 (rd y105 t108))) (fun _ hk => hk.2) (.int .i64 a1)) (fun _ hk => hk.2) (.int .i64 (wrap64 (1 + t111)))) (fun _ hk => hk.2) (.int .i64 0)) (fun _ hk => hk.2) (.int .i64 0)) (fun _ hk => hk.2) (.int .i64 0)) (fun _ h_ => h_.1))) (by decide)) hk (fun _ h => h.2)) (fun _ h => h.1)); have n2_ := Ae_q (kB_q hk (g' := gb113) (o := .cells #[.int .i64 (rd y105 t108), .int .i64 a1, .int .i64 (wrap64 (1 + t111)), .int .i64 0, .int .i64 0, .int .i64 0] 27 (0, 0)) (by (with_reducible repeat (first | refine bN_q ?_ _ | refine bW_q ?_ | refine bL_q ?_ _)); refine blk_put (cs := #[.int .i64 (rd y105 t108), .int .i64 a1, .int .i64 (wrap64 (1 + t111)), .int .i64 0, .int .i64 0, .int .i64 0]) ?_ 5 _ rfl; (with_reducible repeat (first | refine bN_q ?_ _ | refine bW_q ?_ | refine bL_q ?_ _)); refine blk_put (cs := #[.int .i64 (rd y105 t108), .int .i64 a1, .int .i64 (wrap64 (1 + t111)), .int .i64 0, .int .i64 0, .int .i64 0]) ?_ 4 _ rfl; (with_reducible repeat (first | refine bN_q ?_ _ | refine bW_q ?_ | refine bL_q ?_ _)); refine blk_put (cs := #[.int .i64 (rd y105 t108), .int .i64 a1, .int .i64 (wrap64 (1 + t111)), .int .i64 0, .int .i64 0, .int .i64 0]) ?_ 3 _ rfl; (with_reducible repeat (first | refine bN_q ?_ _ | refine bW_q ?_ | refine bL_q ?_ _)); refine blk_put (cs := #[.int .i64 (rd y105 t108), .int .i64 a1, .int .i64 0, .int .i64 0, .int .i64 0, .int .i64 0]) ?_ 2 _ rfl; (with_reducible repeat (first | refine bN_q ?_ _ | refine bW_q ?_ | refine bL_q ?_ _)); refine blk_put (cs := #[.int .i64 (rd y105 t108), .int .i64 0, .int .i64 0, .int .i64 0, .int .i64 0, .int .i64 0]) ?_ 1 _ rfl; (with_reducible repeat (first | refine bN_q ?_ _ | refine bW_q ?_ | refine bL_q ?_ _)); refine blk_put (cs := #[.int .i64 0, .int .i64 0, .int .i64 0, .int .i64 0, .int .i64 0, .int .i64 0]) ?_ 0 _ rfl; (with_reducible repeat (first | refine bN_q ?_ _ | refine bW_q ?_ | refine bL_q ?_ _)); exact BK113.out) NB113_0.out (by simp)); have n3_ := Ae_q (kT_q (by repeat (with_reducible first | exact HK.out | apply kS_q | apply kN_q | apply kD_q | apply kA_q | refine kF_q ?_ GW104.out _ | refine kF_q ?_ GW113.out _)) hk (.inl rfl)); have n4_ := Ae_q (hb); have n5_ := Ae_q (hi); clear BK104; clear HO107; clear BK113; clear HK; clear HB; clear HI0; have BK104 := n0_; have HO107 := n1_; have BK113 := n2_; have HK := n3_; have HB := n4_; have HI0 := n5_; clear n0_ n1_ n2_ n3_ n4_ n5_; (try clear hb); (try clear hb2); (try clear hk); (try clear hi); have hcz33_0 : cI w32 gb113 0 (rd y105 t108) := cZ BK113 0 rfl; have hcz33_1 : cI w32 gb113 1 a1 := cZ BK113 1 rfl; have hcz33_2 : cI w32 gb113 2 (wrap64 (1 + t111)) := cZ BK113 2 rfl; have hcz33_3 : cI w32 gb113 3 0 := cZ BK113 3 rfl; have hcz33_4 : cI w32 gb113 4 0 := cZ BK113 4 rfl; have hcz33_5 : cI w32 gb113 5 0 := cZ BK113 5 rfl; have hfz33_0 := bF_q BK113.out 0; have hfz33_1 := bF_q BK113.out 1; have hfz33_2 := bF_q BK113.out 2; have hfz33_3 := bF_q BK113.out 3; have hfz33_4 := bF_q BK113.out 4; have hfz33_5 := bF_q BK113.out 5) | ((with_reducible refine gC_q (f := 49) rfl ?_); refine gL_q (some 25) rfl rfl Try.func49 (by kernel_rfl) rfl #[.pointer (some ⟨g, 0, none⟩), .int .i64 2] rfl (by (try simp only [lM_q, lC_q, lN_q]); first | done | rfl | (simp only [lD_q, lT_q]; rfl)) ?_; (with_reducible refine (spec_l6Rd_pick.calls k g s0_0 t115 2 t116 t117 w0 _ ?side1 ?side2 A9.out).mono ?_); (case side1 => repeat (with_reducible first | exact HI0.out | apply i2_q | apply i1_q | apply i0_q | apply i3_q | refine i4_q ?_ NB0_104.out _ | refine i4_q ?_ NB0_113.out _)); (case side2 => repeat (with_reducible first | exact HB.out | apply bA_q | apply pB_q | apply bD_q | refine bS_q ?_ (i5_q HI0.out) | refine bS_q ?_ GE104.out | refine bS_q ?_ GE113.out)); rintro e w34 ⟨rfl, hi, hb, hk⟩; refine ⟨_, rfl, ?_⟩; have n0_ := Ae_q (kB_q hk (g' := gb104) (o := .cells #[.int .i64 0, .int .i64 0, .int .i64 0, .int .i64 0, .int .i64 0, .int .i64 0] 27 (0, 0)) (by (with_reducible repeat (first | refine bN_q ?_ _ | refine bW_q ?_ | refine bL_q ?_ _)); refine blk_far ?_ NB104_113.out _; (with_reducible repeat (first | refine bN_q ?_ _ | refine bW_q ?_ | refine bL_q ?_ _)); exact BK104.out) NB104_0.out (by simp)); have n1_ := Ae_q (rM_q (rK_q (i6_q (show IsS81 w0 _ g s0_0 t115 from by repeat (with_reducible first | exact HI0.out | apply i2_q | apply i1_q | apply i0_q | apply i3_q | refine i4_q ?_ NB0_104.out _ | refine i4_q ?_ NB0_113.out _)) (by (with_reducible repeat (first | apply rA_q | apply rN_q | apply rD_q)); exact (rM_q (Kd.R_far (p := ⟨gb113, 5, none⟩) (Kd.R_types HO107.out BK113.out (by decide)) (fun _ hk => hk.2) (.int .i64 (wrap64 (1 + t114)))) (fun _ h_ => h_.1))) (by decide)) hk (fun _ h => h.2)) (fun _ h => h.1)); have n2_ := Ae_q (kB_q hk (g' := gb113) (o := .cells #[.int .i64 (rd y105 t108), .int .i64 a1, .int .i64 (wrap64 (1 + t111)), .int .i64 0, .int .i64 0, .int .i64 (wrap64 (1 + t114))] 27 (0, 0)) (by (with_reducible repeat (first | refine bN_q ?_ _ | refine bW_q ?_ | refine bL_q ?_ _)); refine blk_put (cs := #[.int .i64 (rd y105 t108), .int .i64 a1, .int .i64 (wrap64 (1 + t111)), .int .i64 0, .int .i64 0, .int .i64 0]) ?_ 5 _ rfl; (with_reducible repeat (first | refine bN_q ?_ _ | refine bW_q ?_ | refine bL_q ?_ _)); exact BK113.out) NB113_0.out (by simp)); have n3_ := Ae_q (kT_q (by repeat (with_reducible first | exact HK.out | apply kS_q | apply kN_q | apply kD_q | apply kA_q | refine kF_q ?_ GW104.out _ | refine kF_q ?_ GW113.out _)) hk (.inl rfl)); have n4_ := Ae_q (hb); have n5_ := Ae_q (hi); clear BK104; clear HO107; clear BK113; clear HK; clear HB; clear HI0; have BK104 := n0_; have HO107 := n1_; have BK113 := n2_; have HK := n3_; have HB := n4_; have HI0 := n5_; clear n0_ n1_ n2_ n3_ n4_ n5_; (try clear hb); (try clear hb2); (try clear hk); (try clear hi)) | ((with_reducible refine gC_q (f := 49) rfl ?_); refine gL_q (some 28) rfl rfl Try.func49 (by kernel_rfl) rfl #[.pointer (some ⟨g, 0, none⟩), .int .i64 8] rfl (by (try simp only [lM_q, lC_q, lN_q]); first | done | rfl | (simp only [lD_q, lT_q]; rfl)) ?_; (with_reducible refine (spec_l6Rd_pick.calls k g s0_0 t117 8 t118 t119 w0 _ ?side1 ?side2 A11.out).mono ?_); (case side1 => repeat (with_reducible first | exact HI0.out | apply i2_q | apply i1_q | apply i0_q | apply i3_q | refine i4_q ?_ NB0_104.out _ | refine i4_q ?_ NB0_113.out _)); (case side2 => repeat (with_reducible first | exact HB.out | apply bA_q | apply pB_q | apply bD_q | refine bS_q ?_ (i5_q HI0.out) | refine bS_q ?_ GE104.out | refine bS_q ?_ GE113.out)); rintro e w35 ⟨rfl, hi, hb, hk⟩; refine ⟨_, rfl, ?_⟩; have n0_ := Ae_q (kB_q hk (g' := gb104) (o := .cells #[.int .i64 0, .int .i64 0, .int .i64 0, .int .i64 0, .int .i64 0, .int .i64 0] 27 (0, 0)) (bup BK104.out) NB104_0.out (by simp)); have n1_ := Ae_q (rM_q (rK_q (i6_q (show IsS81 w0 _ g s0_0 t117 from by repeat (with_reducible first | exact HI0.out | apply i2_q | apply i1_q | apply i0_q | apply i3_q | refine i4_q ?_ NB0_104.out _ | refine i4_q ?_ NB0_113.out _)) (rup HO107.out) (by decide)) hk (fun _ h => h.2)) (fun _ h => h.1)); have n2_ := Ae_q (kB_q hk (g' := gb113) (o := .cells #[.int .i64 (rd y105 t108), .int .i64 a1, .int .i64 (wrap64 (1 + t111)), .int .i64 0, .int .i64 0, .int .i64 (wrap64 (1 + t114))] 27 (0, 0)) (bup BK113.out) NB113_0.out (by simp)); have n3_ := Ae_q (kT_q (by repeat (with_reducible first | exact HK.out | apply kS_q | apply kN_q | apply kD_q | apply kA_q | refine kF_q ?_ GW104.out _ | refine kF_q ?_ GW113.out _)) hk (.inl rfl)); have n4_ := Ae_q (hb); have n5_ := Ae_q (hi); clear BK104; clear HO107; clear BK113; clear HK; clear HB; clear HI0; have BK104 := n0_; have HO107 := n1_; have BK113 := n2_; have HK := n3_; have HB := n4_; have HI0 := n5_; clear n0_ n1_ n2_ n3_ n4_ n5_; (try clear hb); (try clear hb2); (try clear hk); (try clear hi)) | ((with_reducible refine gC_q (f := 73) rfl ?_); refine gL_q (some 29) rfl rfl Try.func73 (by kernel_rfl) rfl #[.int .i64 t118] rfl (by (try simp only [lM_q, lC_q, lN_q]); first | done | rfl | (simp only [lD_q, lT_q]; rfl)) ?_; (with_reducible refine (spec_l3Weight.calls k t118 t120 _ A12.out).mono ?_); rintro e w' ⟨rfl, ⟨nd, rfl⟩⟩; refine ⟨_, rfl, ?_⟩; (try (rw [drewN_self w35]; generalize hq_ : World.drewN w35 _ = w35; have n0_ : Aside0 (Kd.R kI_q 3 w35 w.heap.size (fun _ => True) (.slice (some adz_v106) y105.length co22) y105) := ⟨by rw [← hq_]; exact (rup HO107.out)⟩; have n1_ : Aside0 (w35.heap[gb104]? = some (.cells #[.int .i64 0, .int .i64 0, .int .i64 0, .int .i64 0, .int .i64 0, .int .i64 0] 27 (0, 0))) := ⟨by rw [← hq_]; exact (bup BK104.out)⟩; have n2_ : Aside0 (w35.heap[gb113]? = some (.cells #[.int .i64 (rd y105 t108), .int .i64 a1, .int .i64 (wrap64 (1 + t111)), .int .i64 0, .int .i64 0, .int .i64 (wrap64 (1 + t114))] 27 (0, 0))) := ⟨by rw [← hq_]; exact (bup BK113.out)⟩; have n3_ : Aside0 (IsS81 w0 w35 g s0_0 t119) := ⟨by rw [← hq_]; exact (by repeat (with_reducible first | exact HI0.out | apply i2_q | apply i1_q | apply i0_q | apply i3_q | refine i4_q ?_ NB0_104.out _ | refine i4_q ?_ NB0_113.out _))⟩; have n4_ : Aside0 (KeepBut w w35 g none) := ⟨by rw [← hq_]; exact (by repeat (with_reducible first | exact HK.out | apply kS_q | apply kN_q | apply kD_q | apply kA_q | refine kF_q ?_ GW104.out _ | refine kF_q ?_ GW113.out _))⟩; have n5_ : Aside0 (Below w0.heap.size w0 w35) := ⟨by rw [← hq_]; exact (by repeat (with_reducible first | exact HB.out | apply bA_q | apply pB_q | apply bD_q | refine bS_q ?_ (i5_q HI0.out) | refine bS_q ?_ GE104.out | refine bS_q ?_ GE113.out))⟩; clear HO107 BK104 BK113 HI0 HK HB hq_; have HO107 := n0_; have BK104 := n1_; have BK113 := n2_; have HI0 := n3_; have HK := n4_; have HB := n5_; clear n0_ n1_ n2_ n3_ n4_ n5_)); have hcz36_0 : cI w35 gb113 0 (rd y105 t108) := cZ BK113 0 rfl; have hcz36_1 : cI w35 gb113 1 a1 := cZ BK113 1 rfl; have hcz36_2 : cI w35 gb113 2 (wrap64 (1 + t111)) := cZ BK113 2 rfl; have hcz36_3 : cI w35 gb113 3 0 := cZ BK113 3 rfl; have hcz36_4 : cI w35 gb113 4 0 := cZ BK113 4 rfl; have hcz36_5 : cI w35 gb113 5 (wrap64 (1 + t114)) := cZ BK113 5 rfl; have hfz36_0 := bF_q BK113.out 0; have hfz36_1 := bF_q BK113.out 1; have hfz36_2 := bF_q BK113.out 2; have hfz36_3 := bF_q BK113.out 3; have hfz36_4 := bF_q BK113.out 4; have hfz36_5 := bF_q BK113.out 5; have hnb37 := NB104_0.out; have hnc37 := NB0_104.out; have hcz38_0 : cI w35 gb104 0 0 := cZ BK104 0 rfl; have hcz38_1 : cI w35 gb104 1 0 := cZ BK104 1 rfl; have hcz38_2 : cI w35 gb104 2 0 := cZ BK104 2 rfl; have hcz38_3 : cI w35 gb104 3 0 := cZ BK104 3 rfl; have hcz38_4 : cI w35 gb104 4 0 := cZ BK104 4 rfl; have hcz38_5 : cI w35 gb104 5 0 := cZ BK104 5 rfl; have hfz38_0 := bF_q BK104.out 0; have hfz38_1 := bF_q BK104.out 1; have hfz38_2 := bF_q BK104.out 2; have hfz38_3 := bF_q BK104.out 3; have hfz38_4 := bF_q BK104.out 4; have hfz38_5 := bF_q BK104.out 5))
 refine bodyPost_ret (results_cell_row rfl _ _ gb104 27 #[.int .i64 (rd y105 t108), .int .i64 a1, .int .i64 (wrap64 (1 + t111)), .int .i64 0, .int .i64 t120, .int .i64 (wrap64 (1 + t114))] (0, 0) _ rfl (by (with_reducible repeat (first | refine bN_q ?_ _ | refine bW_q ?_ | refine bL_q ?_ _)); refine blk_put (cs := #[.int .i64 (rd y105 t108), .int .i64 a1, .int .i64 (wrap64 (1 + t111)), .int .i64 0, .int .i64 t120, .int .i64 0]) ?_ 5 _ rfl; (with_reducible repeat (first | refine bN_q ?_ _ | refine bW_q ?_ | refine bL_q ?_ _)); refine blk_put (cs := #[.int .i64 (rd y105 t108), .int .i64 a1, .int .i64 (wrap64 (1 + t111)), .int .i64 0, .int .i64 0, .int .i64 0]) ?_ 4 _ rfl; (with_reducible repeat (first | refine bN_q ?_ _ | refine bW_q ?_ | refine bL_q ?_ _)); refine blk_put (cs := #[.int .i64 (rd y105 t108), .int .i64 a1, .int .i64 (wrap64 (1 + t111)), .int .i64 0, .int .i64 0, .int .i64 0]) ?_ 3 _ rfl; (with_reducible repeat (first | refine bN_q ?_ _ | refine bW_q ?_ | refine bL_q ?_ _)); refine blk_put (cs := #[.int .i64 (rd y105 t108), .int .i64 a1, .int .i64 0, .int .i64 0, .int .i64 0, .int .i64 0]) ?_ 2 _ rfl; (with_reducible repeat (first | refine bN_q ?_ _ | refine bW_q ?_ | refine bL_q ?_ _)); refine blk_put (cs := #[.int .i64 (rd y105 t108), .int .i64 0, .int .i64 0, .int .i64 0, .int .i64 0, .int .i64 0]) ?_ 1 _ rfl; (with_reducible repeat (first | refine bN_q ?_ _ | refine bW_q ?_ | refine bL_q ?_ _)); refine blk_put (cs := #[.int .i64 0, .int .i64 0, .int .i64 0, .int .i64 0, .int .i64 0, .int .i64 0]) ?_ 0 _ rfl; (with_reducible repeat (first | refine bN_q ?_ _ | refine bW_q ?_ | refine bL_q ?_ _)); refine blk_far ?_ NB104_113.out _; (with_reducible repeat (first | refine bN_q ?_ _ | refine bW_q ?_ | refine bL_q ?_ _)); exact BK104.out) Try.underlying27 rfl (by kernel_rfl)) rfl ?_
 exact ⟨by first | rfl | (simp [eN_q, eS_q] <;> rfl) | (simp [*, eN_q, eS_q] <;> rfl), by repeat (with_reducible first | exact HI0.out | apply i2_q | apply i1_q | apply i0_q | apply i3_q | refine i4_q ?_ NB0_104.out _ | refine i4_q ?_ NB0_113.out _), by repeat (with_reducible first | exact HB.out | apply bA_q | apply pB_q | apply bD_q | refine bS_q ?_ (i5_q HI0.out) | refine bS_q ?_ GE104.out | refine bS_q ?_ GE113.out), by repeat (with_reducible first | exact HK.out | apply kS_q | apply kN_q | apply kD_q | apply kA_q | refine kF_q ?_ GW104.out _ | refine kF_q ?_ GW113.out _)⟩

end Go.Proofs.Ytnhenfmegpjigaa.PEv
