import Derived.Test.YtoaigcdoblnmhaaVePPnx0
import Derived.Test.YtoaigcdoblnmhaaVePPnx2
import Derived.Test.YtoaigcdoblnmhaaVePPnx6
import Derived.Test.YtoaigcdoblnmhaaVePPnx10
namespace Go.Proofs.Ytoaigcdoblnmhaa.PPn
open Go.RowKit Go.Proofs.YtoaigcdoblnmhaaW.PrintWords Go.Proofs.YtoaigcdoblnmhaaW.PrintLast Go.Proofs.YtoaigcdoblnmhaaW.PrintMore
attribute [local go_sem] max2_int min2_int max_two min_two max_three min_three max_four min_four
set_option linter.unusedVariables false
set_option linter.unusedSimpArgs false

mutual
def impl_useAt.l0 : Nat → List Int → Int → Int → List Int → List (S31) → Int → Int → Option (Int × List Int)
 | 0, _, _, _, _, _, _, _ => none
 | k + 1, x1, x2, x8, x9, x13, x14, x15 => if x15 < x14 then (if 0 ≤ x15 then (if x15 < (x13.length : Int) then (if x15 < (x1.length : Int) then (if (rd x1 x15) > x2 then (impl_useAt.j1 k x1 x2 x8 x9 x13 x14 x15 true ((rd_T31 x13 x15).f0) ((rd_T31 x13 x15).f1) ((rd_T31 x13 x15).f2) ((rd_T31 x13 x15).f3)) else (impl_useAt.j1 k x1 x2 x8 x9 x13 x14 x15 (decide (x2 ≥ (wrap64 ((rd x1 x15) + ((rd_T31 x13 x15).f0))))) ((rd_T31 x13 x15).f0) ((rd_T31 x13 x15).f1) ((rd_T31 x13 x15).f2) ((rd_T31 x13 x15).f3))) else (none)) else (none)) else (none)) else (some (x8, x9))
def impl_useAt.j1 : Nat → List Int → Int → Int → List Int → List (S31) → Int → Int → Bool → Int → Int → Int → List Int → Option (Int × List Int)
 | 0, _, _, _, _, _, _, _, _, _, _, _, _ => none
 | k + 1, x1, x2, x8, x9, x13, x14, x15, x36, x331000, x331001, x331002, x331003 => if x36 = true then (impl_useAt.l0 k x1 x2 x8 x9 x13 x14 (wrap64 (x15 + 1))) else (if x331002 > 0 then (if 0 ≤ (wrap64 (x331002 - 1)) then (if (wrap64 (x331002 - 1)) < (x9.length : Int) then (impl_useAt.l0 k x1 x2 (wrap64 (x8 + x331001)) (x9.set ((wrap64 (x331002 - 1)) : Int).toNat (wrap64 ((rd x9 (wrap64 (x331002 - 1))) + 1))) x13 x14 (wrap64 (x15 + 1))) else (none)) else (none)) else (impl_useAt.l0 k x1 x2 (wrap64 (x8 + x331001)) x9 x13 x14 (wrap64 (x15 + 1))))
end
def impl_useAt.f (k : Nat) (l0 : List (S31)) (l1 : List Int) (a2 : Int) : Option (Int × List Int) := if 4 ≤ 35184372088832 then (impl_useAt.l0 k l1 a2 0 (List.replicate 4 0) l0 (l0.length : Int) 0) else (none)
theorem impl_useAt.mono_l : ∀ k, (∀ y0 y1 y2 y3 y4 y5 y6, LeO (impl_useAt.l0 k y0 y1 y2 y3 y4 y5 y6) (impl_useAt.l0 (k + 1) y0 y1 y2 y3 y4 y5 y6)) ∧ (∀ y0 y1 y2 y3 y4 y5 y6 y7 y8 y9 y10 y11, LeO (impl_useAt.j1 k y0 y1 y2 y3 y4 y5 y6 y7 y8 y9 y10 y11) (impl_useAt.j1 (k + 1) y0 y1 y2 y3 y4 y5 y6 y7 y8 y9 y10 y11))
 | 0 => ⟨fun _ _ _ _ _ _ _ r h => by simp [impl_useAt.l0] at h, fun _ _ _ _ _ _ _ _ _ _ _ _ r h => by simp [impl_useAt.j1] at h⟩
 | k + 1 => by
  obtain ⟨ih0, ih1⟩ := impl_useAt.mono_l k
  refine ⟨?_, ?_⟩
  ·intro y0 y1 y2 y3 y4 y5 y6
   unfold impl_useAt.l0
   repeat' first
   | (with_reducible exact ih0 _ _ _ _ _ _ _)
   | (with_reducible exact ih1 _ _ _ _ _ _ _ _ _ _ _ _)
   | (with_reducible exact lR_q _)
   | (with_reducible exact lO_q _)
   | (with_reducible refine lI_q ?_ ?_)
   | (with_reducible refine lB_q ?_ (fun _ => ?_))
   | exact ih0 _ _ _ _ _ _ _
   | exact ih1 _ _ _ _ _ _ _ _ _ _ _ _
   | exact lO_q _
   | refine lI_q ?_ ?_
   | refine lB_q ?_ (fun _ => ?_)
  intro y0 y1 y2 y3 y4 y5 y6 y7 y8 y9 y10 y11
  unfold impl_useAt.j1
  repeat' first
  | (with_reducible exact ih0 _ _ _ _ _ _ _)
  | (with_reducible exact ih1 _ _ _ _ _ _ _ _ _ _ _ _)
  | (with_reducible exact lR_q _)
  | (with_reducible exact lO_q _)
  | (with_reducible refine lI_q ?_ ?_)
  | (with_reducible refine lB_q ?_ (fun _ => ?_))
  | exact ih0 _ _ _ _ _ _ _
  | exact ih1 _ _ _ _ _ _ _ _ _ _ _ _
  | exact lO_q _
  | refine lI_q ?_ ?_
  | refine lB_q ?_ (fun _ => ?_)
theorem impl_useAt.mono : ∀ a0 a1 a2 k, LeO (impl_useAt.f k a0 a1 a2) (impl_useAt.f (k + 1) a0 a1 a2) := by
 intro a0 a1 a2 k
 obtain ⟨ih0, ih1⟩ := impl_useAt.mono_l k
 unfold impl_useAt.f
 repeat' first
  | (with_reducible exact ih0 _ _ _ _ _ _ _)
  | (with_reducible exact ih1 _ _ _ _ _ _ _ _ _ _ _ _)
  | (with_reducible exact lR_q _)
  | (with_reducible exact lO_q _)
  | (with_reducible refine lI_q ?_ ?_)
  | (with_reducible refine lB_q ?_ (fun _ => ?_))
  | exact ih0 _ _ _ _ _ _ _
  | exact ih1 _ _ _ _ _ _ _ _ _ _ _ _
  | exact lO_q _
  | refine lI_q ?_ ?_
  | refine lB_q ?_ (fun _ => ?_)
def impl_useAt.T5 : Bool × List (List Nat × List Nat) := (true, [([], []), ([], []), ([0, 1], [0, 1]), ([2], [2]), ([], []), ([3, 4], [3, 4]), ([5], [5]), ([6], [6]), ([6], [6]), ([6], [6]), ([8, 9, 6], [6, 8, 9]), ([10, 6], [6, 10]), ([6], [6]), ([12, 6], [6, 12]), ([11, 13, 6], [6, 11, 13]), ([7, 14, 6], [6, 7, 14]), ([6, 15], [6, 15])])
def impl_useAt.B5 : List Nat := [0, 0, 3, 7, 0, 31, 63, 127, 127, 127, 895, 1919, 127, 4223, 16255, 32767, 65535]
theorem impl_useAt.tab5 : rtab .any (opsOf Try.f36 5) = impl_useAt.T5 := by kernel_rfl
theorem impl_useAt.bits5 : waitsOk impl_useAt.T5.2 impl_useAt.B5 = true := by kernel_rfl
set_option maxHeartbeats 8000000 in
set_option maxRecDepth 100000 in
theorem impl_useAt.calls (k : Nat) (A0 : Option Addr) (c0 : Nat) (l0 : List (S31)) (A1 : Option Addr) (c1 : Nat) (l1 : List Int) (a2 : Int) (r1 : Int) (r2 : List Int) (w : World) (hr0 : Kd.C k31 w A0 l0.length l0) (hc0 : l0.length ≤ c0) (hr1 : Kd.C kI_q w A1 l1.length l1) (hc1 : l1.length ≤ c1) (h : impl_useAt.f k l0 l1 a2 = some (r1, r2)) :
    Calls Try.prog 36 #[.slice A0 l0.length c0, .slice A1 l1.length c1, .int .i64 a2] w fun e w' => ∃ v1_ : Value, e = .returned (.tuple #[.int .i64 r1, v1_]) ∧ Kd.R kI_q 3 w' w.heap.size (fun _ => True) v1_ r2 ∧ Below w.heap.size w w' := by
 have hu31 := Try.underlying31
 have HR0 := Ae_q hr0
 have HC0 := Ae_q hc0
 clear hr0 hc0
 have HR1 := Ae_q hr1
 have HC1 := Ae_q hc1
 clear hr1 hc1
 have HB := Ae_q (bR_q w.heap.size w)
 have H : (if 4 ≤ 35184372088832 then (impl_useAt.l0 k l1 a2 0 (List.replicate 4 0) l0 (l0.length : Int) 0) else (none)) = some (r1, r2) := h
 clear h
 by_cases c4 : 4 ≤ 35184372088832
 ·rw [if_pos c4] at H
  have c4b0 := eq_true c4
  have c4b1 : decide (4 ≤ 35184372088832) = true := dT_q c4
  clear c4
  obtain ⟨y326, hy326⟩ : ∃ y_ : List Int, y_ = (List.replicate 4 0) := ⟨_, rfl⟩
  replace H : (impl_useAt.l0 k l1 a2 0 y326 l0 (l0.length : Int) 0) = some (r1, r2) := by first | (rw [hy326]; with_reducible exact H) | (have H2_ := (oS_q _ _).symm.trans H; rw [hy326]; with_reducible exact H2_) | (have H2_ := (oS_q _ _).symm.trans H; with_reducible exact H2_) | with_reducible exact H | (rw [hy326]; exact H) | exact H
  have Ny326 := Ae_q hy326
  clear hy326
  have H' := Ae_q H
  clear H
  go_enter Try.func36, Try.ntmps36
  try go_wp2
  have n0_ := Ae_q (bD_q HB.out)
  clear HB
  have HB := n0_
  clear n0_
  refine start_ (n := 3) (S := fun w' => True) (ds := []) #[false, false, false] (by kernel_rfl) rfl rfl trivial (fun hHeld => ?_)
  generalize w.drew = w5 at HB hHeld ⊢
  refine pure_ (i := 1) (N := some 8) (v := ?_) (a' := ?_) #[false, true, false] rfl rfl (by kernel_rfl) (fun _ _ _ h => h) (Or.inl ⟨by rfl, ?_⟩) ?_ ?_
  rotate_left
  ·intro w'
   go_simp
   with_reducible rfl
  rotate_left
  ·simp only [Act.put, sA_q, sZ_q, sS_q, i64_w, i32_w]
   rfl
  refine one_ (i := 0) (N := some 12) #[true, true, false] rfl rfl (by kernel_rfl) (by decide) (fun K hK => ?_)
  refine Kd.R_make_step kI_q _ 3 (by rfl) (N := 12) rfl 24 _ _ rfl 4 rfl rfl Try.underlying24 (.int .i64 0) 8 info3 rfl (by decide) (by omega) 0 (ok := fun _ => True) (okp := fun _ => True) rfl (fun _ hk => hk) trivial (by omega) (by omega) (bR_q _ _) (nR_q _) ?_
  intro v327 w6 ho7 hb hg_ hnew_
  clear hg_ hnew_
  (first | rw [← Ny326.out] at ho7 | (simp only [Int.reduceToNat] at ho7; rw [← Ny326.out] at ho7))
  have n0_ := Ae_q (rL_q ho7 (bZ_q (bel HB.out)))
  have n1_ := Ae_q (bT_q (bel HB.out) hb)
  clear HB
  have HO328 := n0_
  have HB := n1_
  clear n0_ n1_
  clear hb ho7
  refine hK.out _ _ trivial (fun hHeld => ?_)
  clear hK K
  refine norm_ (a' := ?_) ?_ ?_
  rotate_left
  ·show Act.put _ (some 12) _ = _
   simp only [Act.put, sA_q, sZ_q, sS_q, i64_w, i32_w]
   rfl
  refine pure_ (i := 2) (N := some 9) (v := ?_) (a' := ?_) #[true, true, true] rfl rfl (by kernel_rfl) (fun _ _ _ h => h) (Or.inl ⟨by rfl, ?_⟩) ?_ ?_
  rotate_left
  ·intro w'
   go_simp
   with_reducible rfl
  rotate_left
  ·simp only [Act.put, sA_q, sZ_q, sS_q, i64_w, i32_w]
   rfl
  refine done_ (by kernel_rfl) ?_
  try go_wp2
  go_loopg [8, 15] k (fun kq v8 v15 w' => ∃ (x8_1 : Int) (x9_1 : List Int) (x15_1 : Int), v8 = .int .i64 x8_1 ∧ v15 = .int .i64 x15_1 ∧ Aside0 (impl_useAt.l0 kq l1 a2 x8_1 x9_1 l0 (l0.length : Int) x15_1 = some (r1, r2)) ∧ Aside0 (kq ≤ k) ∧ Aside0 (Kd.R kI_q 3 w' w.heap.size (fun _ => True) v327 x9_1) ∧ Aside0 (Below w.heap.size w w'))
  case atStart => exact ⟨(0), (y326), (0), (by first | rfl | (simp; done) | (simp [*]; done)), (by first | rfl | (simp; done) | (simp [*]; done)), H', ⟨nR_q _⟩, ⟨by (with_reducible repeat (first | apply rA_q | apply rN_q | apply rD_q)); exact HO328.out⟩, ⟨bel HB.out⟩⟩
  case round =>
   clear H'
   try clear c1
   try clear p2
   try clear c3
   try clear c4
   try clear c4b0
   try clear c4b1
   obtain ⟨x8_1, x9_1, x15_1, rfl, rfl, HA, HK1, HO_9, HB⟩ := hrel
   cases gk with
   | zero => exact absurd HA.out (by simp [impl_useAt.l0])
   | succ k1 =>
    have H := HA.out
    clear HA
    simp only [impl_useAt.l0] at H
    by_cases c8 : x15_1 < (l0.length : Int)
    ·rw [if_pos c8] at H
     have c8b0 : decide (x15_1 < (l0.length : Int)) = true := dT_q c8
     clear c8
     by_cases c9 : 0 ≤ x15_1
     ·rw [if_pos c9] at H
      have c9b0 : decide (0 ≤ x15_1) = true := dT_q c9
      clear c9
      by_cases c10 : x15_1 < (l0.length : Int)
      ·rw [if_pos c10] at H
       have c10b0 : decide (x15_1 < (l0.length : Int)) = true := dT_q c10
       clear c10
       have HC11 := Ae_q H
       clear H
       have p329 : 0 ≤ (x15_1 : Int) := oD_q (by assumption)
       have q329 : x15_1 < (l0.length : Int) := oD_q (by assumption)
       obtain ⟨ad329, A329_3, c329_3, e329, hx329_0, hx329_1, hx329_2, hx329_3, hl329_3, hi329_3⟩ := at_T31 HR0.out x15_1 p329 q329
       cases e329
       replace hx329_0 := (HB.out.cell (wL_q w _ hx329_0)).trans hx329_0
       replace hx329_1 := (HB.out.cell (wL_q w _ hx329_1)).trans hx329_1
       replace hx329_2 := (HB.out.cell (wL_q w _ hx329_2)).trans hx329_2
       replace hx329_3 := (HB.out.cell (wL_q w _ hx329_3)).trans hx329_3
       have HR329_3 := Ae_q hi329_3
       have HC329_3 := Ae_q hl329_3
       clear hi329_3 hl329_3
       replace p329 := eq_true p329
       replace q329 := eq_true q329
       go_upto_region 5 with (first | ((with_reducible refine gD_q (N := 11) rfl ?_); refine bE_q ?hg (N := 11) ?hd (cs := #[.int .i64 0, .int .i64 0, .int .i64 0, .slice none 0 0]) (t := 31) ?hr ?_; (case hd => rfl); (case hg => rfl); (case hr => first | (go_simp; done) | (go_simp; rfl)); intro gb330 hg w12 hbox hb; have n0_ := Ae_q (rO_q (rup HO_9.out) hb); have n1_ := Ae_q (bT_q (bel HB.out) hb); have n2_ := Ae_q (hbox); have n3_ := Ae_q ((by rw [hg]; exact (bZ_q (bel HB.out)) : w.heap.size ≤ gb330)); have n4_ := Ae_q ((by rw [hg]; exact (bZ_q (bel HB.out)) : w.heap.size ≤ gb330)); clear HO_9; clear HB; have HO_9 := n0_; have HB := n1_; have BK330 := n2_; have GW330 := n3_; have GE330 := n4_; clear n0_ n1_ n2_ n3_ n4_; clear hb hbox hg; have hcz13_0 : w12.cell? ⟨gb330, 0, none⟩ = some (.int .i64 0) := (bC_q BK330.out 0).trans rfl; have hcz13_1 : w12.cell? ⟨gb330, 1, none⟩ = some (.int .i64 0) := (bC_q BK330.out 1).trans rfl; have hcz13_2 : w12.cell? ⟨gb330, 2, none⟩ = some (.int .i64 0) := (bC_q BK330.out 2).trans rfl; have hcz13_3 : w12.cell? ⟨gb330, 3, none⟩ = some (.slice none 0 0) := (bC_q BK330.out 3).trans rfl; have hfz13_0 := bF_q BK330.out 0; have hfz13_1 := bF_q BK330.out 1; have hfz13_2 := bF_q BK330.out 2; have hfz13_3 := bF_q BK330.out 3))
       (try simp only [Act.put, sA_q, sZ_q, sS_q])
       go_cut [36] (fun v36 wc => ∃ (kq : Nat) (x36_10 : Bool), v36 = .bool x36_10 ∧ Aside0 (impl_useAt.j1 kq l1 a2 x8_1 x9_1 l0 (l0.length : Int) x15_1 x36_10 ((rd_T31 l0 x15_1).f0) ((rd_T31 l0 x15_1).f1) ((rd_T31 l0 x15_1).f2) ((rd_T31 l0 x15_1).f3) = some (r1, r2)) ∧ Aside0 (kq ≤ k1) ∧ Aside0 (Kd.R kI_q 3 wc w.heap.size (fun _ => True) v327 x9_1) ∧ Aside0 (wc.heap[gb330]? = some (.cells #[.int .i64 ((rd_T31 l0 x15_1).f0), .int .i64 ((rd_T31 l0 x15_1).f1), .int .i64 ((rd_T31 l0 x15_1).f2), (.slice A329_3 ((rd_T31 l0 x15_1).f3).length c329_3)] 31 (0, 0))) ∧ Aside0 (Below w.heap.size w wc))
       case first =>
        have H := HC11.out
        clear HC11
        by_cases c14 : x15_1 < (l1.length : Int)
        ·rw [if_pos c14] at H
         have c14b0 : decide (x15_1 < (l1.length : Int)) = true := dT_q c14
         clear c14
         (first | rw [c14b0] | (simp only [i64_w, i32_w]; rw [c14b0]) | skip)
         by_cases c15 : (rd l1 x15_1) > a2
         ·rw [if_pos c15] at H
          have c15b0 : decide (a2 < (rd l1 x15_1)) = true := dT_q c15
          clear c15
          have H' := Ae_q H
          clear H
          try go_wp2
          have n0_ : Aside0 (Kd.R kI_q 3 ((((w12.setCell ⟨gb330, 0, none⟩ (.int .i64 ((rd_T31 l0 x15_1).f0))).setCell ⟨gb330, 1, none⟩ (.int .i64 ((rd_T31 l0 x15_1).f1))).setCell ⟨gb330, 2, none⟩ (.int .i64 ((rd_T31 l0 x15_1).f2))).setCell ⟨gb330, 3, none⟩ (.slice A329_3 ((rd_T31 l0 x15_1).f3).length c329_3)) w.heap.size (fun _ => True) v327 x9_1) := ⟨by (with_reducible repeat (first | apply rA_q | apply rN_q | apply rD_q)); exact rM_q (Kd.R_far (p := ⟨gb330, 3, none⟩) (Kd.R_far (p := ⟨gb330, 2, none⟩) (Kd.R_far (p := ⟨gb330, 1, none⟩) (Kd.R_far (p := ⟨gb330, 0, none⟩) (Kd.R_types HO_9.out BK330.out (by decide)) (fun _ hk => hk.2) (.int .i64 ((rd_T31 l0 x15_1).f0))) (fun _ hk => hk.2) (.int .i64 ((rd_T31 l0 x15_1).f1))) (fun _ hk => hk.2) (.int .i64 ((rd_T31 l0 x15_1).f2))) (fun _ hk => hk.2) (.slice A329_3 ((rd_T31 l0 x15_1).f3).length c329_3)) (fun _ hk => trivial)⟩
          have n1_ : Aside0 (((((w12.setCell ⟨gb330, 0, none⟩ (.int .i64 ((rd_T31 l0 x15_1).f0))).setCell ⟨gb330, 1, none⟩ (.int .i64 ((rd_T31 l0 x15_1).f1))).setCell ⟨gb330, 2, none⟩ (.int .i64 ((rd_T31 l0 x15_1).f2))).setCell ⟨gb330, 3, none⟩ (.slice A329_3 ((rd_T31 l0 x15_1).f3).length c329_3)).heap[gb330]? = some (.cells #[.int .i64 ((rd_T31 l0 x15_1).f0), .int .i64 ((rd_T31 l0 x15_1).f1), .int .i64 ((rd_T31 l0 x15_1).f2), .slice A329_3 ((rd_T31 l0 x15_1).f3).length c329_3] 31 (0, 0))) := ⟨by (with_reducible repeat (first | refine bN_q ?_ _ | refine bW_q ?_ | refine bL_q ?_ _)); refine blk_put (cs := #[.int .i64 ((rd_T31 l0 x15_1).f0), .int .i64 ((rd_T31 l0 x15_1).f1), .int .i64 ((rd_T31 l0 x15_1).f2), .slice none 0 0]) ?_ 3 _ rfl; (with_reducible repeat (first | refine bN_q ?_ _ | refine bW_q ?_ | refine bL_q ?_ _)); refine blk_put (cs := #[.int .i64 ((rd_T31 l0 x15_1).f0), .int .i64 ((rd_T31 l0 x15_1).f1), .int .i64 0, .slice none 0 0]) ?_ 2 _ rfl; (with_reducible repeat (first | refine bN_q ?_ _ | refine bW_q ?_ | refine bL_q ?_ _)); refine blk_put (cs := #[.int .i64 ((rd_T31 l0 x15_1).f0), .int .i64 0, .int .i64 0, .slice none 0 0]) ?_ 1 _ rfl; (with_reducible repeat (first | refine bN_q ?_ _ | refine bW_q ?_ | refine bL_q ?_ _)); refine blk_put (cs := #[.int .i64 0, .int .i64 0, .int .i64 0, .slice none 0 0]) ?_ 0 _ rfl; (with_reducible repeat (first | refine bN_q ?_ _ | refine bW_q ?_ | refine bL_q ?_ _)); exact BK330.out⟩
          have n2_ : Aside0 (Below w.heap.size w ((((w12.setCell ⟨gb330, 0, none⟩ (.int .i64 ((rd_T31 l0 x15_1).f0))).setCell ⟨gb330, 1, none⟩ (.int .i64 ((rd_T31 l0 x15_1).f1))).setCell ⟨gb330, 2, none⟩ (.int .i64 ((rd_T31 l0 x15_1).f2))).setCell ⟨gb330, 3, none⟩ (.slice A329_3 ((rd_T31 l0 x15_1).f3).length c329_3))) := ⟨by repeat (first | (with_reducible first | exact HB.out | apply bA_q | apply pB_q | apply bD_q | refine bS_q ?_ GE330.out) | exact HB.out)⟩
          (try clear HO_9)
          (try clear BK330)
          (try clear HB)
          generalize ((((w12.setCell ⟨gb330, 0, none⟩ (.int .i64 ((rd_T31 l0 x15_1).f0))).setCell ⟨gb330, 1, none⟩ (.int .i64 ((rd_T31 l0 x15_1).f1))).setCell ⟨gb330, 2, none⟩ (.int .i64 ((rd_T31 l0 x15_1).f2))).setCell ⟨gb330, 3, none⟩ (.slice A329_3 ((rd_T31 l0 x15_1).f3).length c329_3)) = w16 at n0_ n1_ n2_ ⊢
          have HO_9 := n0_
          have BK330 := n1_
          have HB := n2_
          clear n0_ n1_ n2_
          have n0_ := Ae_q (rD_q HO_9.out)
          have n1_ := Ae_q (bW_q BK330.out)
          have n2_ := Ae_q (bD_q HB.out)
          clear HO_9
          clear BK330
          clear HB
          have HO_9 := n0_
          have BK330 := n1_
          have HB := n2_
          clear n0_ n1_ n2_
          have p331 : 0 ≤ (x15_1 : Int) := oD_q (by assumption)
          have q331 : x15_1 < (l1.length : Int) := oD_q (by assumption)
          obtain ⟨ad331, e331, hx331_0⟩ := aI_q HR1.out x15_1 p331 q331
          have hw331_0 := hx331_0
          cases e331
          replace hx331_0 := (HB.out.cell (wL_q w _ hx331_0)).trans hx331_0
          replace p331 := eq_true p331
          replace q331 := eq_true q331
          refine start_ (n := 17) (S := fun w' => w'.cell? (ad331.add (x15_1).toNat) = some (.int .i64 (rd l1 x15_1))) (ds := []) #[false, false, false, false, false, false, false, false, false, false, false, false, false, false, false, false, false] (by kernel_rfl) rfl rfl ((cel HB.out hw331_0)) (fun hHeld => ?_); refine with_tabW impl_useAt.tab5 impl_useAt.bits5 (fun HT_ HW_ => ?_)
          generalize w16.drew = w17 at HO_9 BK330 HB hx331_0 hHeld ⊢
          refine pure_ (i := 0) (N := some 20) (v := ?_) (a' := ?_) #[true, false, false, false, false, false, false, false, false, false, false, false, false, false, false, false, false] rfl rfl (any_of HT_.out (by kernel_rfl)) (fun _ _ _ h => h) (Or.inl ⟨by rfl, ?_⟩) ?_ ?_
          rotate_left
          ·intro w'
           go_simp
           with_reducible rfl
          rotate_left
          ·simp only [Act.put, sA_q, sZ_q, sS_q, i64_w, i32_w]
           rfl
          refine pure_ (i := 1) (N := some 21) (v := ?_) (a' := ?_) #[true, true, false, false, false, false, false, false, false, false, false, false, false, false, false, false, false] rfl rfl (any_of HT_.out (by kernel_rfl)) (fun _ _ _ h => h) (Or.inl ⟨by rfl, ?_⟩) ?_ ?_
          rotate_left
          ·intro w'
           go_simp
           with_reducible rfl
          rotate_left
          ·simp only [Act.put, sA_q, sZ_q, sS_q, i64_w, i32_w]
           rfl
          refine pure_ (i := 2) (N := some 22) (v := ?_) (a' := ?_) #[true, true, true, false, false, false, false, false, false, false, false, false, false, false, false, false, false] rfl rfl (any_of HT_.out (by kernel_rfl)) (fun _ _ _ h => h) (Or.inl ⟨by rfl, ?_⟩) ?_ ?_
          rotate_left
          ·intro w'
           go_simp
           with_reducible rfl
          rotate_left
          ·simp only [Act.put, sA_q, sZ_q, sS_q, i64_w, i32_w]
           rfl
          refine pure_ (i := 4) (N := some 24) (v := ?_) (a' := ?_) #[true, true, true, false, true, false, false, false, false, false, false, false, false, false, false, false, false] rfl rfl (any_of HT_.out (by kernel_rfl)) (fun _ _ _ h => h) (Or.inl ⟨by rfl, ?_⟩) ?_ ?_
          rotate_left
          ·intro w'
           go_simp
           with_reducible rfl
          rotate_left
          ·simp only [Act.put, sA_q, sZ_q, sS_q, i64_w, i32_w]
           rfl
          refine take_ (i := 3) (N := some 23) (v := ?_) (a' := ?_) #[true, true, true, true, true, false, false, false, false, false, false, false, false, false, false, false, false] rfl rfl (take_ofW HT_.out HW_.out (by kernel_rfl)) (fun _ _ _ h => h) (Or.inl ⟨by rfl, ?_⟩) hHeld ?_ ?_
          rotate_left
          ·intro w' s0
           go_simp
           with_reducible rfl
          rotate_left
          ·simp only [Act.put, sA_q, sZ_q, sS_q, i64_w, i32_w]
           rfl
          refine pure_ (i := 5) (N := some 25) (v := ?_) (a' := ?_) #[true, true, true, true, true, true, false, false, false, false, false, false, false, false, false, false, false] rfl rfl (any_of HT_.out (by kernel_rfl)) (fun _ _ _ h => h) (Or.inl ⟨by rfl, ?_⟩) ?_ ?_
          rotate_left
          ·intro w'
           go_simp
           with_reducible rfl
          rotate_left
          ·simp only [Act.put, sA_q, sZ_q, sS_q, i64_w, i32_w]
           rfl
          refine pure_ (i := 6) (N := some 26) (v := ?_) (a' := ?_) #[true, true, true, true, true, true, true, false, false, false, false, false, false, false, false, false, false] rfl rfl (any_of HT_.out (by kernel_rfl)) (fun _ _ _ h => h) (Or.inl ⟨by rfl, ?_⟩) ?_ ?_
          rotate_left
          ·intro w'
           go_simp
           with_reducible rfl
          rotate_left
          ·simp only [Act.put, sA_q, sZ_q, sS_q, i64_w, i32_w]
           rfl
          refine pure_ (i := 7) (N := some 27) (v := undef) (a' := ?_) #[true, true, true, true, true, true, true, true, false, false, false, false, false, false, false, false, false] rfl rfl (any_of HT_.out (by kernel_rfl)) (fun _ _ _ h => h) (Or.inr ⟨by rfl, rfl⟩) ?_ ?_
          rotate_left
          ·simp only [Act.put, sA_q, sZ_q, sS_q, i64_w, i32_w]
           rfl
          refine pure_ (i := 8) (N := some 28) (v := undef) (a' := ?_) #[true, true, true, true, true, true, true, true, true, false, false, false, false, false, false, false, false] rfl rfl (any_of HT_.out (by kernel_rfl)) (fun _ _ _ h => h) (Or.inr ⟨by rfl, rfl⟩) ?_ ?_
          rotate_left
          ·simp only [Act.put, sA_q, sZ_q, sS_q, i64_w, i32_w]
           rfl
          refine pure_ (i := 9) (N := some 29) (v := undef) (a' := ?_) #[true, true, true, true, true, true, true, true, true, true, false, false, false, false, false, false, false] rfl rfl (any_of HT_.out (by kernel_rfl)) (fun _ _ _ h => h) (Or.inr ⟨by rfl, rfl⟩) ?_ ?_
          rotate_left
          ·simp only [Act.put, sA_q, sZ_q, sS_q, i64_w, i32_w]
           rfl
          refine pure_ (i := 10) (N := some 30) (v := undef) (a' := ?_) #[true, true, true, true, true, true, true, true, true, true, true, false, false, false, false, false, false] rfl rfl (any_of HT_.out (by kernel_rfl)) (fun _ _ _ h => h) (Or.inr ⟨by rfl, rfl⟩) ?_ ?_
          rotate_left
          ·simp only [Act.put, sA_q, sZ_q, sS_q, i64_w, i32_w]
           rfl
          refine pure_ (i := 11) (N := some 31) (v := undef) (a' := ?_) #[true, true, true, true, true, true, true, true, true, true, true, true, false, false, false, false, false] rfl rfl (any_of HT_.out (by kernel_rfl)) (fun _ _ _ h => h) (Or.inr ⟨by rfl, rfl⟩) ?_ ?_
          rotate_left
          ·simp only [Act.put, sA_q, sZ_q, sS_q, i64_w, i32_w]
           rfl
          refine pure_ (i := 12) (N := some 32) (v := undef) (a' := ?_) #[true, true, true, true, true, true, true, true, true, true, true, true, true, false, false, false, false] rfl rfl (any_of HT_.out (by kernel_rfl)) (fun _ _ _ h => h) (Or.inr ⟨by rfl, rfl⟩) ?_ ?_
          rotate_left
          ·simp only [Act.put, sA_q, sZ_q, sS_q, i64_w, i32_w]
           rfl
          refine pure_ (i := 13) (N := some 33) (v := undef) (a' := ?_) #[true, true, true, true, true, true, true, true, true, true, true, true, true, true, false, false, false] rfl rfl (any_of HT_.out (by kernel_rfl)) (fun _ _ _ h => h) (Or.inr ⟨by rfl, rfl⟩) ?_ ?_
          rotate_left
          ·simp only [Act.put, sA_q, sZ_q, sS_q, i64_w, i32_w]
           rfl
          refine pure_ (i := 14) (N := some 34) (v := undef) (a' := ?_) #[true, true, true, true, true, true, true, true, true, true, true, true, true, true, true, false, false] rfl rfl (any_of HT_.out (by kernel_rfl)) (fun _ _ _ h => h) (Or.inr ⟨by rfl, rfl⟩) ?_ ?_
          rotate_left
          ·simp only [Act.put, sA_q, sZ_q, sS_q, i64_w, i32_w]
           rfl
          refine pure_ (i := 15) (N := some 35) (v := undef) (a' := ?_) #[true, true, true, true, true, true, true, true, true, true, true, true, true, true, true, true, false] rfl rfl (any_of HT_.out (by kernel_rfl)) (fun _ _ _ h => h) (Or.inr ⟨by rfl, rfl⟩) ?_ ?_
          rotate_left
          ·simp only [Act.put, sA_q, sZ_q, sS_q, i64_w, i32_w]
           rfl
          refine pure_ (i := 16) (N := some 36) (v := ?_) (a' := ?_) #[true, true, true, true, true, true, true, true, true, true, true, true, true, true, true, true, true] rfl rfl (any_of HT_.out (by kernel_rfl)) (fun _ _ _ h => h) (Or.inl ⟨by rfl, ?_⟩) ?_ ?_
          rotate_left
          ·intro w'
           go_simp
           with_reducible rfl
          rotate_left
          ·simp only [Act.put, sA_q, sZ_q, sS_q, i64_w, i32_w]
           rfl
          refine done_ (done_of HT_.out (by kernel_rfl)) ?_
          try go_wp2
          go_meet
          case rel => exact ⟨_, (true), (by first | rfl | (simp; done) | (simp [*]; done)), H', ⟨by have := HK1.out; first | omega | exact nR_q _⟩, ⟨by (with_reducible repeat (first | apply rA_q | apply rN_q | apply rD_q)); exact HO_9.out⟩, ⟨by (with_reducible repeat (first | refine bN_q ?_ _ | refine bW_q ?_ | refine bL_q ?_ _)); exact BK330.out⟩, ⟨by repeat (first | (with_reducible first | exact HB.out | apply bA_q | apply pB_q | apply bD_q | refine bS_q ?_ GE330.out) | exact HB.out)⟩⟩
         rw [if_neg c15] at H
         have c15b0 : decide (a2 < (rd l1 x15_1)) = false := dF_q c15
         clear c15
         have H' := Ae_q H
         clear H
         try go_wp2
         have n0_ : Aside0 (Kd.R kI_q 3 ((((w12.setCell ⟨gb330, 0, none⟩ (.int .i64 ((rd_T31 l0 x15_1).f0))).setCell ⟨gb330, 1, none⟩ (.int .i64 ((rd_T31 l0 x15_1).f1))).setCell ⟨gb330, 2, none⟩ (.int .i64 ((rd_T31 l0 x15_1).f2))).setCell ⟨gb330, 3, none⟩ (.slice A329_3 ((rd_T31 l0 x15_1).f3).length c329_3)) w.heap.size (fun _ => True) v327 x9_1) := ⟨by (with_reducible repeat (first | apply rA_q | apply rN_q | apply rD_q)); exact rM_q (Kd.R_far (p := ⟨gb330, 3, none⟩) (Kd.R_far (p := ⟨gb330, 2, none⟩) (Kd.R_far (p := ⟨gb330, 1, none⟩) (Kd.R_far (p := ⟨gb330, 0, none⟩) (Kd.R_types HO_9.out BK330.out (by decide)) (fun _ hk => hk.2) (.int .i64 ((rd_T31 l0 x15_1).f0))) (fun _ hk => hk.2) (.int .i64 ((rd_T31 l0 x15_1).f1))) (fun _ hk => hk.2) (.int .i64 ((rd_T31 l0 x15_1).f2))) (fun _ hk => hk.2) (.slice A329_3 ((rd_T31 l0 x15_1).f3).length c329_3)) (fun _ hk => trivial)⟩
         have n1_ : Aside0 (((((w12.setCell ⟨gb330, 0, none⟩ (.int .i64 ((rd_T31 l0 x15_1).f0))).setCell ⟨gb330, 1, none⟩ (.int .i64 ((rd_T31 l0 x15_1).f1))).setCell ⟨gb330, 2, none⟩ (.int .i64 ((rd_T31 l0 x15_1).f2))).setCell ⟨gb330, 3, none⟩ (.slice A329_3 ((rd_T31 l0 x15_1).f3).length c329_3)).heap[gb330]? = some (.cells #[.int .i64 ((rd_T31 l0 x15_1).f0), .int .i64 ((rd_T31 l0 x15_1).f1), .int .i64 ((rd_T31 l0 x15_1).f2), .slice A329_3 ((rd_T31 l0 x15_1).f3).length c329_3] 31 (0, 0))) := ⟨by (with_reducible repeat (first | refine bN_q ?_ _ | refine bW_q ?_ | refine bL_q ?_ _)); refine blk_put (cs := #[.int .i64 ((rd_T31 l0 x15_1).f0), .int .i64 ((rd_T31 l0 x15_1).f1), .int .i64 ((rd_T31 l0 x15_1).f2), .slice none 0 0]) ?_ 3 _ rfl; (with_reducible repeat (first | refine bN_q ?_ _ | refine bW_q ?_ | refine bL_q ?_ _)); refine blk_put (cs := #[.int .i64 ((rd_T31 l0 x15_1).f0), .int .i64 ((rd_T31 l0 x15_1).f1), .int .i64 0, .slice none 0 0]) ?_ 2 _ rfl; (with_reducible repeat (first | refine bN_q ?_ _ | refine bW_q ?_ | refine bL_q ?_ _)); refine blk_put (cs := #[.int .i64 ((rd_T31 l0 x15_1).f0), .int .i64 0, .int .i64 0, .slice none 0 0]) ?_ 1 _ rfl; (with_reducible repeat (first | refine bN_q ?_ _ | refine bW_q ?_ | refine bL_q ?_ _)); refine blk_put (cs := #[.int .i64 0, .int .i64 0, .int .i64 0, .slice none 0 0]) ?_ 0 _ rfl; (with_reducible repeat (first | refine bN_q ?_ _ | refine bW_q ?_ | refine bL_q ?_ _)); exact BK330.out⟩
         have n2_ : Aside0 (Below w.heap.size w ((((w12.setCell ⟨gb330, 0, none⟩ (.int .i64 ((rd_T31 l0 x15_1).f0))).setCell ⟨gb330, 1, none⟩ (.int .i64 ((rd_T31 l0 x15_1).f1))).setCell ⟨gb330, 2, none⟩ (.int .i64 ((rd_T31 l0 x15_1).f2))).setCell ⟨gb330, 3, none⟩ (.slice A329_3 ((rd_T31 l0 x15_1).f3).length c329_3))) := ⟨by repeat (first | (with_reducible first | exact HB.out | apply bA_q | apply pB_q | apply bD_q | refine bS_q ?_ GE330.out) | exact HB.out)⟩
         (try clear HO_9)
         (try clear BK330)
         (try clear HB)
         generalize ((((w12.setCell ⟨gb330, 0, none⟩ (.int .i64 ((rd_T31 l0 x15_1).f0))).setCell ⟨gb330, 1, none⟩ (.int .i64 ((rd_T31 l0 x15_1).f1))).setCell ⟨gb330, 2, none⟩ (.int .i64 ((rd_T31 l0 x15_1).f2))).setCell ⟨gb330, 3, none⟩ (.slice A329_3 ((rd_T31 l0 x15_1).f3).length c329_3)) = w18 at n0_ n1_ n2_ ⊢
         have HO_9 := n0_
         have BK330 := n1_
         have HB := n2_
         clear n0_ n1_ n2_
         have n0_ := Ae_q (rD_q HO_9.out)
         have n1_ := Ae_q (bW_q BK330.out)
         have n2_ := Ae_q (bD_q HB.out)
         clear HO_9
         clear BK330
         clear HB
         have HO_9 := n0_
         have BK330 := n1_
         have HB := n2_
         clear n0_ n1_ n2_
         have p331 : 0 ≤ (x15_1 : Int) := oD_q (by assumption)
         have q331 : x15_1 < (l1.length : Int) := oD_q (by assumption)
         obtain ⟨ad331, e331, hx331_0⟩ := aI_q HR1.out x15_1 p331 q331
         have hw331_0 := hx331_0
         cases e331
         replace hx331_0 := (HB.out.cell (wL_q w _ hx331_0)).trans hx331_0
         replace p331 := eq_true p331
         replace q331 := eq_true q331
         have p332 : 0 ≤ (x15_1 : Int) := oD_q (by assumption)
         have q332 : x15_1 < (l1.length : Int) := oD_q (by assumption)
         obtain ⟨ad332, e332, hx332_0⟩ := aI_q HR1.out x15_1 p332 q332
         have hw332_0 := hx332_0
         obtain rfl : ad331 = ad332 := (by injection e332)
         replace hx332_0 := (HB.out.cell (wL_q w _ hx332_0)).trans hx332_0
         replace p332 := eq_true p332
         replace q332 := eq_true q332
         refine start_ (n := 17) (S := fun w' => w'.cell? ⟨gb330, 0, none⟩ = some (.int .i64 ((rd_T31 l0 x15_1).f0)) ∧ w'.cell? ⟨gb330, 1, none⟩ = some (.int .i64 ((rd_T31 l0 x15_1).f1)) ∧ w'.cell? ⟨gb330, 2, none⟩ = some (.int .i64 ((rd_T31 l0 x15_1).f2)) ∧ w'.cell? ⟨gb330, 3, none⟩ = some (.slice A329_3 ((rd_T31 l0 x15_1).f3).length c329_3) ∧ w'.cell? (ad331.add (x15_1).toNat) = some (.int .i64 (rd l1 x15_1)) ∧ w'.cell? (ad331.add (x15_1).toNat) = some (.int .i64 (rd l1 x15_1))) (ds := []) #[false, false, false, false, false, false, false, false, false, false, false, false, false, false, false, false, false] (by kernel_rfl) rfl rfl ⟨(bC_q BK330.out 0).trans rfl, (bC_q BK330.out 1).trans rfl, (bC_q BK330.out 2).trans rfl, (bC_q BK330.out 3).trans rfl, (cel HB.out hw331_0), (cel HB.out hw332_0)⟩ (fun hHeld => ?_); refine with_tabW impl_useAt.tab5 impl_useAt.bits5 (fun HT_ HW_ => ?_)
         generalize w18.drew = w19 at HO_9 BK330 HB hx331_0 hx332_0 hHeld ⊢
         refine pure_ (i := 0) (N := some 20) (v := ?_) (a' := ?_) #[true, false, false, false, false, false, false, false, false, false, false, false, false, false, false, false, false] rfl rfl (any_of HT_.out (by kernel_rfl)) (fun _ _ _ h => h) (Or.inl ⟨by rfl, ?_⟩) ?_ ?_
         rotate_left
         ·intro w'
          go_simp
          with_reducible rfl
         rotate_left
         ·simp only [Act.put, sA_q, sZ_q, sS_q, i64_w, i32_w]
          rfl
         refine pure_ (i := 1) (N := some 21) (v := ?_) (a' := ?_) #[true, true, false, false, false, false, false, false, false, false, false, false, false, false, false, false, false] rfl rfl (any_of HT_.out (by kernel_rfl)) (fun _ _ _ h => h) (Or.inl ⟨by rfl, ?_⟩) ?_ ?_
         rotate_left
         ·intro w'
          go_simp
          with_reducible rfl
         rotate_left
         ·simp only [Act.put, sA_q, sZ_q, sS_q, i64_w, i32_w]
          rfl
         refine pure_ (i := 2) (N := some 22) (v := ?_) (a' := ?_) #[true, true, true, false, false, false, false, false, false, false, false, false, false, false, false, false, false] rfl rfl (any_of HT_.out (by kernel_rfl)) (fun _ _ _ h => h) (Or.inl ⟨by rfl, ?_⟩) ?_ ?_
         rotate_left
         ·intro w'
          go_simp
          with_reducible rfl
         rotate_left
         ·simp only [Act.put, sA_q, sZ_q, sS_q, i64_w, i32_w]
          rfl
         refine pure_ (i := 4) (N := some 24) (v := ?_) (a' := ?_) #[true, true, true, false, true, false, false, false, false, false, false, false, false, false, false, false, false] rfl rfl (any_of HT_.out (by kernel_rfl)) (fun _ _ _ h => h) (Or.inl ⟨by rfl, ?_⟩) ?_ ?_
         rotate_left
         ·intro w'
          go_simp
          with_reducible rfl
         rotate_left
         ·simp only [Act.put, sA_q, sZ_q, sS_q, i64_w, i32_w]
          rfl
         refine take_ (i := 3) (N := some 23) (v := ?_) (a' := ?_) #[true, true, true, true, true, false, false, false, false, false, false, false, false, false, false, false, false] rfl rfl (take_ofW HT_.out HW_.out (by kernel_rfl)) (fun _ _ _ h => h) (Or.inl ⟨by rfl, ?_⟩) hHeld ?_ ?_
         rotate_left
         ·rintro w' ⟨s0, s1, s2, s3, s4, s5⟩
          go_simp
          with_reducible rfl
         rotate_left
         ·simp only [Act.put, sA_q, sZ_q, sS_q, i64_w, i32_w]
          rfl
         refine pure_ (i := 5) (N := some 25) (v := ?_) (a' := ?_) #[true, true, true, true, true, true, false, false, false, false, false, false, false, false, false, false, false] rfl rfl (any_of HT_.out (by kernel_rfl)) (fun _ _ _ h => h) (Or.inl ⟨by rfl, ?_⟩) ?_ ?_
         rotate_left
         ·intro w'
          go_simp
          with_reducible rfl
         rotate_left
         ·simp only [Act.put, sA_q, sZ_q, sS_q, i64_w, i32_w]
          rfl
         refine pure_ (i := 6) (N := some 26) (v := ?_) (a' := ?_) #[true, true, true, true, true, true, true, false, false, false, false, false, false, false, false, false, false] rfl rfl (any_of HT_.out (by kernel_rfl)) (fun _ _ _ h => h) (Or.inl ⟨by rfl, ?_⟩) ?_ ?_
         rotate_left
         ·intro w'
          go_simp
          with_reducible rfl
         rotate_left
         ·simp only [Act.put, sA_q, sZ_q, sS_q, i64_w, i32_w]
          rfl
         refine pure_ (i := 7) (N := some 27) (v := ?_) (a' := ?_) #[true, true, true, true, true, true, true, true, false, false, false, false, false, false, false, false, false] rfl rfl (any_of HT_.out (by kernel_rfl)) (fun _ _ _ h => h) (Or.inl ⟨by rfl, ?_⟩) ?_ ?_
         rotate_left
         ·intro w'
          go_simp
          with_reducible rfl
         rotate_left
         ·simp only [Act.put, sA_q, sZ_q, sS_q, i64_w, i32_w]
          rfl
         refine pure_ (i := 8) (N := some 28) (v := ?_) (a' := ?_) #[true, true, true, true, true, true, true, true, true, false, false, false, false, false, false, false, false] rfl rfl (any_of HT_.out (by kernel_rfl)) (fun _ _ _ h => h) (Or.inl ⟨by rfl, ?_⟩) ?_ ?_
         rotate_left
         ·intro w'
          go_simp
          with_reducible rfl
         rotate_left
         ·simp only [Act.put, sA_q, sZ_q, sS_q, i64_w, i32_w]
          rfl
         refine pure_ (i := 9) (N := some 29) (v := ?_) (a' := ?_) #[true, true, true, true, true, true, true, true, true, true, false, false, false, false, false, false, false] rfl rfl (any_of HT_.out (by kernel_rfl)) (fun _ _ _ h => h) (Or.inl ⟨by rfl, ?_⟩) ?_ ?_
         rotate_left
         ·intro w'
          go_simp
          with_reducible rfl
         rotate_left
         ·simp only [Act.put, sA_q, sZ_q, sS_q, i64_w, i32_w]
          rfl
         refine pure_ (i := 10) (N := some 30) (v := ?_) (a' := ?_) #[true, true, true, true, true, true, true, true, true, true, true, false, false, false, false, false, false] rfl rfl (any_of HT_.out (by kernel_rfl)) (fun _ _ _ h => h) (Or.inl ⟨by rfl, ?_⟩) ?_ ?_
         rotate_left
         ·intro w'
          go_simp
          with_reducible rfl
         rotate_left
         ·simp only [Act.put, sA_q, sZ_q, sS_q, i64_w, i32_w]
          rfl
         refine pure_ (i := 12) (N := some 32) (v := ?_) (a' := ?_) #[true, true, true, true, true, true, true, true, true, true, true, false, true, false, false, false, false] rfl rfl (any_of HT_.out (by kernel_rfl)) (fun _ _ _ h => h) (Or.inl ⟨by rfl, ?_⟩) ?_ ?_
         rotate_left
         ·intro w'
          go_simp
          with_reducible rfl
         rotate_left
         ·simp only [Act.put, sA_q, sZ_q, sS_q, i64_w, i32_w]
          rfl
         refine take_ (i := 11) (N := some 31) (v := ?_) (a' := ?_) #[true, true, true, true, true, true, true, true, true, true, true, true, true, false, false, false, false] rfl rfl (take_ofW HT_.out HW_.out (by kernel_rfl)) (fun _ _ _ h => h) (Or.inl ⟨by rfl, ?_⟩) hHeld ?_ ?_
         rotate_left
         ·rintro w' ⟨s0, s1, s2, s3, s4, s5⟩
          go_simp
          with_reducible rfl
         rotate_left
         ·simp only [Act.put, sA_q, sZ_q, sS_q, i64_w, i32_w]
          rfl
         refine take_ (i := 13) (N := some 33) (v := ?_) (a' := ?_) #[true, true, true, true, true, true, true, true, true, true, true, true, true, true, false, false, false] rfl rfl (take_ofW HT_.out HW_.out (by kernel_rfl)) (fun _ _ _ h => h) (Or.inl ⟨by rfl, ?_⟩) hHeld ?_ ?_
         rotate_left
         ·rintro w' ⟨s0, s1, s2, s3, s4, s5⟩
          go_simp
          with_reducible rfl
         rotate_left
         ·simp only [Act.put, sA_q, sZ_q, sS_q, i64_w, i32_w]
          rfl
         refine pure_ (i := 14) (N := some 34) (v := ?_) (a' := ?_) #[true, true, true, true, true, true, true, true, true, true, true, true, true, true, true, false, false] rfl rfl (any_of HT_.out (by kernel_rfl)) (fun _ _ _ h => h) (Or.inl ⟨by rfl, ?_⟩) ?_ ?_
         rotate_left
         ·intro w'
          go_simp
          with_reducible rfl
         rotate_left
         ·simp only [Act.put, sA_q, sZ_q, sS_q, i64_w, i32_w]
          rfl
         refine pure_ (i := 15) (N := some 35) (v := ?_) (a' := ?_) #[true, true, true, true, true, true, true, true, true, true, true, true, true, true, true, true, false] rfl rfl (any_of HT_.out (by kernel_rfl)) (fun _ _ _ h => h) (Or.inl ⟨by rfl, ?_⟩) ?_ ?_
         rotate_left
         ·intro w'
          go_simp
          with_reducible rfl
         rotate_left
         ·simp only [Act.put, sA_q, sZ_q, sS_q, i64_w, i32_w]
          rfl
         refine pure_ (i := 16) (N := some 36) (v := ?_) (a' := ?_) #[true, true, true, true, true, true, true, true, true, true, true, true, true, true, true, true, true] rfl rfl (any_of HT_.out (by kernel_rfl)) (fun _ _ _ h => h) (Or.inl ⟨by rfl, ?_⟩) ?_ ?_
         rotate_left
         ·intro w'
          go_simp
          with_reducible rfl
         rotate_left
         ·simp only [Act.put, sA_q, sZ_q, sS_q, i64_w, i32_w]
          rfl
         refine done_ (done_of HT_.out (by kernel_rfl)) ?_
         try go_wp2
         go_meet
         case rel => exact ⟨_, (decide (a2 ≥ (wrap64 ((rd l1 x15_1) + ((rd_T31 l0 x15_1).f0))))), (by first | rfl | (simp; done) | (simp [*]; done)), H', ⟨by have := HK1.out; first | omega | exact nR_q _⟩, ⟨by (with_reducible repeat (first | apply rA_q | apply rN_q | apply rD_q)); exact HO_9.out⟩, ⟨by (with_reducible repeat (first | refine bN_q ?_ _ | refine bW_q ?_ | refine bL_q ?_ _)); exact BK330.out⟩, ⟨by repeat (first | (with_reducible first | exact HB.out | apply bA_q | apply pB_q | apply bD_q | refine bS_q ?_ GE330.out) | exact HB.out)⟩⟩
        rw [if_neg c14] at H
        exact absurd H (by simp)
       case rest =>
        clear HC11
        try clear c1
        try clear p2
        try clear c3
        try clear p3
        try clear q3
        try clear hx3
        try clear c4
        try clear c4b0
        try clear c4b1
        try clear p6
        try clear c8
        try clear c8b0
        try clear c9
        try clear c9b0
        try clear c10
        try clear c10b0
        try clear c14
        try clear c14b0
        try clear c15
        try clear c15b0
        try clear hcz13_0
        try clear hcz13_1
        try clear hcz13_2
        try clear hcz13_3
        try clear hfz13_0
        try clear hfz13_1
        try clear hfz13_2
        try clear hfz13_3
        try clear hx329_0
        try clear hx329_1
        try clear hx329_2
        try clear hx329_3
        try clear hx331_0
        try clear hx332_0
        try clear p2
        try clear p329
        try clear p331
        try clear p332
        try clear q329
        try clear q331
        try clear q332
        obtain ⟨kq, x36_10, rfl, HA, HJ10, HO_9, BK330, HB⟩ := hcut
        cases kq with
        | zero => exact absurd HA.out (by simp [impl_useAt.j1])
        | succ kj10 =>
         have H := HA.out
         clear HA
         simp only [impl_useAt.j1] at H
         by_cases c20 : x36_10 = true
         ·subst c20
          have H1 : (impl_useAt.l0 kj10 l1 a2 x8_1 x9_1 l0 (l0.length : Int) (wrap64 (x15_1 + 1))) = some (r1, r2) := by rw [if_pos rfl] at H; exact H
          clear H
          have H := H1
          clear H1
          have H' := Ae_q H
          clear H
          go_wp2
          go_roundg kj10
          case measure => have := HK1.out; have := HJ10.out; omega
          case rel => exact ⟨(x8_1), (x9_1), (wrap64 (x15_1 + 1)), (by first | rfl | (simp; done) | (simp [*]; done)), (by first | rfl | (simp; done) | (simp [*]; done)), H', ⟨by have := HK1.out; have := HJ10.out; omega⟩, ⟨by (with_reducible repeat (first | apply rA_q | apply rN_q | apply rD_q)); exact HO_9.out⟩, ⟨by repeat (first | (with_reducible first | exact HB.out | apply bA_q | apply pB_q | apply bD_q | refine bS_q ?_ GE330.out) | exact HB.out)⟩⟩
         replace c20 := fM_q.mpr c20
         subst c20
         have H1 : (if ((rd_T31 l0 x15_1).f2) > 0 then (if 0 ≤ (wrap64 (((rd_T31 l0 x15_1).f2) - 1)) then (if (wrap64 (((rd_T31 l0 x15_1).f2) - 1)) < (x9_1.length : Int) then (impl_useAt.l0 kj10 l1 a2 (wrap64 (x8_1 + ((rd_T31 l0 x15_1).f1))) (x9_1.set ((wrap64 (((rd_T31 l0 x15_1).f2) - 1)) : Int).toNat (wrap64 ((rd x9_1 (wrap64 (((rd_T31 l0 x15_1).f2) - 1))) + 1))) l0 (l0.length : Int) (wrap64 (x15_1 + 1))) else (none)) else (none)) else (impl_useAt.l0 kj10 l1 a2 (wrap64 (x8_1 + ((rd_T31 l0 x15_1).f1))) x9_1 l0 (l0.length : Int) (wrap64 (x15_1 + 1)))) = some (r1, r2) := by rw [if_neg (show ¬ (false = true) by decide)] at H; exact H
         clear H
         have H := H1
         clear H1
         by_cases c21 : ((rd_T31 l0 x15_1).f2) > 0
         ·rw [if_pos c21] at H
          have c21b0 : decide (0 < ((rd_T31 l0 x15_1).f2)) = true := dT_q c21
          clear c21
          obtain ⟨ji22, hji22⟩ : ∃ j_ : Int, (wrap64 (((rd_T31 l0 x15_1).f2) - 1)) = j_ := ⟨_, rfl⟩
          replace H : (if 0 ≤ (ji22) then (if (ji22) < (x9_1.length : Int) then (impl_useAt.l0 kj10 l1 a2 (wrap64 (x8_1 + ((rd_T31 l0 x15_1).f1))) (x9_1.set ((ji22) : Int).toNat (wrap64 ((rd x9_1 (ji22)) + 1))) l0 (l0.length : Int) (wrap64 (x15_1 + 1))) else (none)) else (none)) = some (r1, r2) := by first | (rw [hji22] at H; exact H) | (simp only [hji22] at H ⊢; exact H)
          have hji22w : (IntKind.i64.wrap (((rd_T31 l0 x15_1).f2) - 1)) = ji22 := (i64_w _).trans hji22
          by_cases c23 : 0 ≤ (ji22)
          ·rw [if_pos c23] at H
           have c23b0 : decide (0 ≤ (ji22)) = true := dT_q c23
           clear c23
           by_cases c24 : (ji22) < (x9_1.length : Int)
           ·rw [if_pos c24] at H
            have c24b0 : decide ((ji22) < (x9_1.length : Int)) = true := dT_q c24
            clear c24
            obtain ⟨y334, hy334⟩ : ∃ y_ : List Int, y_ = (x9_1.set ((ji22) : Int).toNat (wrap64 ((rd x9_1 (ji22)) + 1))) := ⟨_, rfl⟩
            replace H : (impl_useAt.l0 kj10 l1 a2 (wrap64 (x8_1 + ((rd_T31 l0 x15_1).f1))) y334 l0 (l0.length : Int) (wrap64 (x15_1 + 1))) = some (r1, r2) := by first | (rw [hy334]; with_reducible exact H) | (have H2_ := (oS_q _ _).symm.trans H; rw [hy334]; with_reducible exact H2_) | (have H2_ := (oS_q _ _).symm.trans H; with_reducible exact H2_) | with_reducible exact H | (rw [hy334]; exact H) | exact H
            have Ny334 := Ae_q hy334
            clear hy334
            have H' := Ae_q H
            clear H
            have hcz26_0 : wc.cell? ⟨gb330, 0, none⟩ = some (.int .i64 ((rd_T31 l0 x15_1).f0)) := (bC_q BK330.out 0).trans rfl
            have hcz26_1 : wc.cell? ⟨gb330, 1, none⟩ = some (.int .i64 ((rd_T31 l0 x15_1).f1)) := (bC_q BK330.out 1).trans rfl
            have hcz26_2 : wc.cell? ⟨gb330, 2, none⟩ = some (.int .i64 ((rd_T31 l0 x15_1).f2)) := (bC_q BK330.out 2).trans rfl
            have hcz26_3 : wc.cell? ⟨gb330, 3, none⟩ = some (.slice A329_3 ((rd_T31 l0 x15_1).f3).length c329_3) := (bC_q BK330.out 3).trans rfl
            have hfz26_0 := bF_q BK330.out 0
            have hfz26_1 := bF_q BK330.out 1
            have hfz26_2 := bF_q BK330.out 2
            have hfz26_3 := bF_q BK330.out 3
            obtain ⟨Ao27, co27, eo27⟩ := rS_q HO_9.out
            subst eo27
            have p333 : 0 ≤ ((ji22) : Int) := oD_q (by assumption)
            have q333 : (ji22) < (x9_1.length : Int) := oD_q (by assumption)
            obtain ⟨ad333, e333, hx333_0⟩ := aI_q (rR_q HO_9.out).2.2 (ji22) p333 q333
            cases e333
            replace p333 := eq_true p333
            replace q333 := eq_true q333
            have p25 : 0 ≤ ((ji22) : Int) := oD_q (by assumption)
            have q25 : ((ji22) : Int) < ((x9_1.length : Int) : Int) := oD_q (by assumption)
            obtain ⟨go25, co25, eo25, gb25, gl25, cl25, HG25⟩ := Kd.R_form HO_9.out (by omega)
            (first | cases eo25 | (injection eo25 with ea_ en_ ec_; (first | subst ea_ | (injection ea_ with ea_; subst ea_)); subst ec_; clear en_))
            have GB25 := Ae_q gb25
            have GG25 := Ae_q HG25
            clear gb25 gl25 HG25
            (first | simp only [add_plain] at hx333_0 | skip)
            obtain ⟨hx25_0, hf25_0⟩ := Kd.R_celln 0 HO_9.out ((ji22) : Int) p25 q25
            replace p25 := eq_true p25
            replace q25 := eq_true q25
            have HP28 := Kd.R_putg HO_9.out ((ji22) : Int) (wrap64 ((rd x9_1 (ji22)) + 1))
            go_wp2_with (first | ((with_reducible refine gate_store (t := 3) (p := 51) rfl ?_); refine store_event (t := 3) (p := 51) (v := ?vo_w29) (w1 := (wc.setCell ⟨go25, ((ji22) : Int).toNat, none⟩ (.int .i64 (wrap64 ((rd x9_1 (ji22)) + 1))))) ?hg ?ho ?hn ?hr ?_; (case ho => rfl); (case hg => rfl); (case hn => rfl); (case hr => first | (go_simp; done) | (go_simp; rfl)); intro w29 hw; have hg : wc.grownBy w29 (some go25) := (by rw [hw]; exact HP28.2); have hp_ : Kd.R kI_q 3 w29 w.heap.size (fun _ => True) (.slice (some ⟨go25, 0, none⟩) x9_1.length co27) y334 := (by rw [hw, Ny334.out]; exact HP28.1); clear HP28; have n0_ := Ae_q (hp_); have n1_ := Ae_q (bG_q (g := gb330) (o := .cells #[.int .i64 ((rd_T31 l0 x15_1).f0), .int .i64 ((rd_T31 l0 x15_1).f1), .int .i64 ((rd_T31 l0 x15_1).f2), .slice A329_3 ((rd_T31 l0 x15_1).f3).length c329_3] 31 (0, 0)) (bup BK330.out) hg (Kd.R_ne HO_9.out BK330.out (by decide))); have n2_ := Ae_q ((by rw [hw]; exact bS_q (HB.out) GB25.out : Below w.heap.size w w29)); clear HO_9; clear BK330; clear HB; have HO_9 := n0_; have BK330 := n1_; have HB := n2_; clear n0_ n1_ n2_; clear hg hw hp_))
            go_roundg kj10
            case measure => have := HK1.out; have := HJ10.out; omega
            case rel => exact ⟨(wrap64 (x8_1 + ((rd_T31 l0 x15_1).f1))), (y334), (wrap64 (x15_1 + 1)), (by first | rfl | (simp; done) | (simp [*]; done)), (by first | rfl | (simp; done) | (simp [*]; done)), H', ⟨by have := HK1.out; have := HJ10.out; omega⟩, ⟨by (with_reducible repeat (first | apply rA_q | apply rN_q | apply rD_q)); exact HO_9.out⟩, ⟨by repeat (first | (with_reducible first | exact HB.out | apply bA_q | apply pB_q | apply bD_q | refine bS_q ?_ GE330.out) | exact HB.out)⟩⟩
           rw [if_neg c24] at H
           exact absurd H (by simp)
          rw [if_neg c23] at H
          exact absurd H (by simp)
         rw [if_neg c21] at H
         have c21b0 : decide (0 < ((rd_T31 l0 x15_1).f2)) = false := dF_q c21
         clear c21
         have H' := Ae_q H
         clear H
         have hcz30_0 : wc.cell? ⟨gb330, 0, none⟩ = some (.int .i64 ((rd_T31 l0 x15_1).f0)) := (bC_q BK330.out 0).trans rfl
         have hcz30_1 : wc.cell? ⟨gb330, 1, none⟩ = some (.int .i64 ((rd_T31 l0 x15_1).f1)) := (bC_q BK330.out 1).trans rfl
         have hcz30_2 : wc.cell? ⟨gb330, 2, none⟩ = some (.int .i64 ((rd_T31 l0 x15_1).f2)) := (bC_q BK330.out 2).trans rfl
         have hcz30_3 : wc.cell? ⟨gb330, 3, none⟩ = some (.slice A329_3 ((rd_T31 l0 x15_1).f3).length c329_3) := (bC_q BK330.out 3).trans rfl
         have hfz30_0 := bF_q BK330.out 0
         have hfz30_1 := bF_q BK330.out 1
         have hfz30_2 := bF_q BK330.out 2
         have hfz30_3 := bF_q BK330.out 3
         go_wp2
         go_roundg kj10
         case measure => have := HK1.out; have := HJ10.out; omega
         case rel => exact ⟨(wrap64 (x8_1 + ((rd_T31 l0 x15_1).f1))), (x9_1), (wrap64 (x15_1 + 1)), (by first | rfl | (simp; done) | (simp [*]; done)), (by first | rfl | (simp; done) | (simp [*]; done)), H', ⟨by have := HK1.out; have := HJ10.out; omega⟩, ⟨by (with_reducible repeat (first | apply rA_q | apply rN_q | apply rD_q)); exact HO_9.out⟩, ⟨by repeat (first | (with_reducible first | exact HB.out | apply bA_q | apply pB_q | apply bD_q | refine bS_q ?_ GE330.out) | exact HB.out)⟩⟩
      rw [if_neg c10] at H
      exact absurd H (by simp)
     rw [if_neg c9] at H
     exact absurd H (by simp)
    rw [if_neg c8] at H
    have c8b0 : decide (x15_1 < (l0.length : Int)) = false := dF_q c8
    clear c8
    simp only [oE_q, pE_q] at H
    obtain ⟨rfl, rfl⟩ := H
    go_wp2
    go_ret2
    exact ⟨_, by first | rfl | (simp [eN_q, eS_q] <;> rfl) | (simp [*, eN_q, eS_q] <;> rfl), by (with_reducible repeat (first | apply rA_q | apply rN_q | apply rD_q)); exact HO_9.out, bel HB.out⟩
 rw [if_neg c4] at H
 exact absurd H (by simp)

def impl_PlanUse.f (k : Nat) (l0 : List (S31)) (l1 : List Int) (a2 : Int) : Option (Int × List Int) := (impl_startsValid.f k l0 l1).bind fun t335 => (if t335 = true then ((impl_useAt.f k l0 l1 a2).bind fun bt336 => (some (bt336.1, bt336.2))) else (some ((-1), ([] : List Int))))
theorem impl_PlanUse.mono : ∀ a0 a1 a2 k, LeO (impl_PlanUse.f k a0 a1 a2) (impl_PlanUse.f (k + 1) a0 a1 a2) := by
 intro a0 a1 a2 k
 unfold impl_PlanUse.f
 repeat' first
  | (with_reducible exact impl_startsValid.mono _ _ _)
  | (with_reducible exact impl_useAt.mono _ _ _ _)
  | (with_reducible exact lR_q _)
  | (with_reducible exact lO_q _)
  | (with_reducible refine lI_q ?_ ?_)
  | (with_reducible refine lB_q ?_ (fun _ => ?_))
  | exact impl_startsValid.mono _ _ _
  | exact impl_useAt.mono _ _ _ _
  | exact lO_q _
  | refine lI_q ?_ ?_
  | refine lB_q ?_ (fun _ => ?_)
set_option maxHeartbeats 8000000 in
set_option maxRecDepth 100000 in
theorem impl_PlanUse.calls (k : Nat) (A0 : Option Addr) (c0 : Nat) (l0 : List (S31)) (A1 : Option Addr) (c1 : Nat) (l1 : List Int) (a2 : Int) (r1 : Int) (r2 : List Int) (w : World) (hr0 : Kd.C k31 w A0 l0.length l0) (hc0 : l0.length ≤ c0) (hr1 : Kd.C kI_q w A1 l1.length l1) (hc1 : l1.length ≤ c1) (h : impl_PlanUse.f k l0 l1 a2 = some (r1, r2)) :
    Calls Try.prog 10 #[.slice A0 l0.length c0, .slice A1 l1.length c1, .int .i64 a2] w fun e w' => ∃ v1_ : Value, e = .returned (.tuple #[.int .i64 r1, v1_]) ∧ Kd.R kI_q 3 w' w.heap.size (fun _ => True) v1_ r2 ∧ Below w.heap.size w w' := by
 have HR0 := Ae_q hr0
 have HC0 := Ae_q hc0
 clear hr0 hc0
 have HR1 := Ae_q hr1
 have HC1 := Ae_q hc1
 clear hr1 hc1
 have HB := Ae_q (bR_q w.heap.size w)
 have H : ((impl_startsValid.f k l0 l1).bind fun t335 => (if t335 = true then ((impl_useAt.f k l0 l1 a2).bind fun bt336 => (some (bt336.1, bt336.2))) else (some ((-1), ([] : List Int))))) = some (r1, r2) := h
 clear h
 replace H := oB_q.mp H
 obtain ⟨t335, A40, H⟩ := H
 replace H : (if t335 = true then ((impl_useAt.f k l0 l1 a2).bind fun bt336 => (some (bt336.1, bt336.2))) else (some ((-1), ([] : List Int)))) = some (r1, r2) := H
 have A4 := Ae_q A40
 clear A40
 by_cases c5 : t335 = true
 ·subst c5
  have H1 : ((impl_useAt.f k l0 l1 a2).bind fun bt336 => (some (bt336.1, bt336.2))) = some (r1, r2) := by rw [if_pos rfl] at H; exact H
  clear H
  have H := H1
  clear H1
  replace H := oB_q.mp H
  obtain ⟨⟨t336, t337⟩, A60, H⟩ := H
  replace H : (some (t336, t337)) = some (r1, r2) := H
  have A6 := Ae_q A60
  clear A60
  simp only [oE_q, pE_q] at H
  obtain ⟨rfl, rfl⟩ := H
  go_enter Try.func10, Try.ntmps10
  go_wp2_with (first | ((with_reducible refine gC_q (f := 35) rfl ?_); refine gL_q (some 10) rfl rfl Try.func35 (by kernel_rfl) rfl #[.slice A0 l0.length c0, .slice A1 l1.length c1] rfl (by (try simp only [lM_q, lC_q, lN_q]); first | done | rfl | (simp only [lD_q, lT_q]; rfl)) ?_; (with_reducible refine (impl_startsValid.calls k _ _ l0 _ _ l1 true _ ?side1 ?side2 ?side3 ?side4 A4.out).mono ?_); (case side1 => repeat (first | exact HR0.out | (with_reducible refine cA_q ?_ _) | (with_reducible refine cN_q ?_ _) | (with_reducible refine cD_q ?_))); (case side2 => exact HC0.out); (case side3 => repeat (first | exact HR1.out | (with_reducible refine cA_q ?_ _) | (with_reducible refine cN_q ?_ _) | (with_reducible refine cD_q ?_))); (case side4 => exact HC1.out); rintro e w7 ⟨rfl, hb⟩; refine ⟨_, rfl, ?_⟩; have n0_ := Ae_q (bT_q (bel HB.out) hb); clear HB; have HB := n0_; clear n0_; (try clear hb); (try clear hb2); (try clear hk); (try clear hi)) | ((with_reducible refine gC_q (f := 36) rfl ?_); refine gL_q (some 15) rfl rfl Try.func36 (by kernel_rfl) rfl #[.slice A0 l0.length c0, .slice A1 l1.length c1, .int .i64 a2] rfl (by (try simp only [lM_q, lC_q, lN_q]); first | done | rfl | (simp only [lD_q, lT_q]; rfl)) ?_; (with_reducible refine (impl_useAt.calls k _ _ l0 _ _ l1 a2 t336 t337 _ ?side1 ?side2 ?side3 ?side4 A6.out).mono ?_); (case side1 => repeat (first | exact (cB_q HR0.out HB.out) | (with_reducible refine cA_q ?_ _) | (with_reducible refine cN_q ?_ _) | (with_reducible refine cD_q ?_))); (case side2 => exact HC0.out); (case side3 => repeat (first | exact (cB_q HR1.out HB.out) | (with_reducible refine cA_q ?_ _) | (with_reducible refine cN_q ?_ _) | (with_reducible refine cD_q ?_))); (case side4 => exact HC1.out); rintro e w8 ⟨v338, rfl, ho0, hb⟩; refine ⟨_, rfl, ?_⟩; have n0_ := Ae_q (rL_q ho0 (bZ_q (bel HB.out))); have n1_ := Ae_q (bT_q (bel HB.out) hb); clear HB; have HO339 := n0_; have HB := n1_; clear n0_ n1_; (try clear hb); (try clear hb2); (try clear hk); (try clear hi); (try clear ho0)))
  go_ret2
  exact ⟨_, by first | rfl | (simp [eN_q, eS_q] <;> rfl) | (simp [*, eN_q, eS_q] <;> rfl), by (with_reducible repeat (first | apply rA_q | apply rN_q | apply rD_q)); exact HO339.out, bel HB.out⟩
 replace c5 := fM_q.mpr c5
 subst c5
 have H1 : (some ((-1), ([] : List Int))) = some (r1, r2) := by rw [if_neg (show ¬ (false = true) by decide)] at H; exact H
 clear H
 have H := H1
 clear H1
 simp only [oE_q, pE_q] at H
 obtain ⟨rfl, rfl⟩ := H
 go_enter Try.func10, Try.ntmps10
 go_wp2_with (first | ((with_reducible refine gC_q (f := 35) rfl ?_); refine gL_q (some 10) rfl rfl Try.func35 (by kernel_rfl) rfl #[.slice A0 l0.length c0, .slice A1 l1.length c1] rfl (by (try simp only [lM_q, lC_q, lN_q]); first | done | rfl | (simp only [lD_q, lT_q]; rfl)) ?_; (with_reducible refine (impl_startsValid.calls k _ _ l0 _ _ l1 false _ ?side1 ?side2 ?side3 ?side4 A4.out).mono ?_); (case side1 => repeat (first | exact HR0.out | (with_reducible refine cA_q ?_ _) | (with_reducible refine cN_q ?_ _) | (with_reducible refine cD_q ?_))); (case side2 => exact HC0.out); (case side3 => repeat (first | exact HR1.out | (with_reducible refine cA_q ?_ _) | (with_reducible refine cN_q ?_ _) | (with_reducible refine cD_q ?_))); (case side4 => exact HC1.out); rintro e w9 ⟨rfl, hb⟩; refine ⟨_, rfl, ?_⟩; have n0_ := Ae_q (bT_q (bel HB.out) hb); clear HB; have HB := n0_; clear n0_; (try clear hb); (try clear hb2); (try clear hk); (try clear hi)))
 go_ret2
 exact ⟨_, by first | rfl | (simp [eN_q, eS_q] <;> rfl) | (simp [*, eN_q, eS_q] <;> rfl), by first | exact Kd.R_nil _ _ _ _ _ | exact Kd.N_nil _ _ _ _ _ | exact Kd.V_nil _ _ _ _ _ | exact Kd.Q_nil _ _ _ _ _ | exact Kd.S_nil _ _ _ _ _, bel HB.out⟩

def spec_l32Starts.l0 : Nat → List (S31) → List Int → Int → Option (Bool)
 | 0, _, _, _ => none
 | k + 1, x0, x1, x5 => if x5 < (x1.length : Int) then (if 0 ≤ x5 then ((spec_l6In.f (rd x1 x5) 0 999).bind fun t341 => (if t341 = true then (spec_l32Starts.l0 k x0 x1 (wrap64 (x5 + 1))) else (some false))) else (none)) else ((spec_StepsValid.f k x0).bind fun t342 => (if t342 = true then (some ((x1.length : Int) == (x0.length : Int))) else (some false)))
def spec_l32Starts.f (k : Nat) (l0 : List (S31)) (l1 : List Int) : Option (Bool) := spec_l32Starts.l0 k l0 l1 0
theorem spec_l32Starts.mono_l : ∀ k, (∀ y0 y1 y2, LeO (spec_l32Starts.l0 k y0 y1 y2) (spec_l32Starts.l0 (k + 1) y0 y1 y2))
 | 0 => fun _ _ _ r h => by simp [spec_l32Starts.l0] at h
 | k + 1 => by
  have ih0 := spec_l32Starts.mono_l k
  intro y0 y1 y2
  unfold spec_l32Starts.l0
  repeat' first
  | (with_reducible exact ih0 _ _ _)
  | (with_reducible exact spec_StepsValid.mono _ _)
  | (with_reducible exact lR_q _)
  | (with_reducible exact lO_q _)
  | (with_reducible refine lI_q ?_ ?_)
  | (with_reducible refine lB_q ?_ (fun _ => ?_))
  | exact ih0 _ _ _
  | exact spec_StepsValid.mono _ _
  | exact lO_q _
  | refine lI_q ?_ ?_
  | refine lB_q ?_ (fun _ => ?_)
theorem spec_l32Starts.mono : ∀ a0 a1 k, LeO (spec_l32Starts.f k a0 a1) (spec_l32Starts.f (k + 1) a0 a1) := by
 intro a0 a1 k
 have ih0 := spec_l32Starts.mono_l k
 unfold spec_l32Starts.f
 repeat' first
  | (with_reducible exact ih0 _ _ _)
  | (with_reducible exact spec_StepsValid.mono _ _)
  | (with_reducible exact lR_q _)
  | (with_reducible exact lO_q _)
  | (with_reducible refine lI_q ?_ ?_)
  | (with_reducible refine lB_q ?_ (fun _ => ?_))
  | exact ih0 _ _ _
  | exact spec_StepsValid.mono _ _
  | exact lO_q _
  | refine lI_q ?_ ?_
  | refine lB_q ?_ (fun _ => ?_)
set_option maxHeartbeats 8000000 in
set_option maxRecDepth 100000 in
theorem spec_l32Starts.calls (k : Nat) (A0 : Option Addr) (c0 : Nat) (l0 : List (S31)) (A1 : Option Addr) (c1 : Nat) (l1 : List Int) (r : Bool) (w : World) (hr0 : Kd.C k31 w A0 l0.length l0) (hc0 : l0.length ≤ c0) (hr1 : Kd.C kI_q w A1 l1.length l1) (hc1 : l1.length ≤ c1) (h : spec_l32Starts.f k l0 l1 = some r) :
    Calls Try.prog 37 #[.slice A0 l0.length c0, .slice A1 l1.length c1] w fun e w' => e = .returned (.bool r) ∧ Below w.heap.size w w' := by
 have HR0 := Ae_q hr0
 have HC0 := Ae_q hc0
 clear hr0 hc0
 have HR1 := Ae_q hr1
 have HC1 := Ae_q hc1
 clear hr1 hc1
 have HB := Ae_q (bR_q w.heap.size w)
 have H : (spec_l32Starts.l0 k l0 l1 0) = some r := h
 clear h
 have H' := Ae_q H
 clear H
 go_enter Try.func37, Try.ntmps37
 go_wp2
 go_loopg [5] k (fun kq v5 w' => ∃ (x5_1 : Int), v5 = .int .i64 x5_1 ∧ Aside0 (spec_l32Starts.l0 kq l0 l1 x5_1 = some r) ∧ Aside0 (kq ≤ k) ∧ Aside0 (Below w.heap.size w w'))
 case atStart => exact ⟨(0), (by first | rfl | (simp; done) | (simp [*]; done)), H', ⟨nR_q _⟩, ⟨bel HB.out⟩⟩
 case round =>
  clear H'
  try clear c1
  try clear p2
  obtain ⟨x5_1, rfl, HA, HK1, HB⟩ := hrel
  cases gk with
  | zero => exact absurd HA.out (by simp [spec_l32Starts.l0])
  | succ k1 =>
   have H := HA.out
   clear HA
   simp only [spec_l32Starts.l0] at H
   by_cases c3 : x5_1 < (l1.length : Int)
   ·rw [if_pos c3] at H
    have c3b0 : decide (x5_1 < (l1.length : Int)) = true := dT_q c3
    clear c3
    by_cases c4 : 0 ≤ x5_1
    ·rw [if_pos c4] at H
     have c4b0 : decide (0 ≤ x5_1) = true := dT_q c4
     clear c4
     replace H := oB_q.mp H
     obtain ⟨t341, A50, H⟩ := H
     replace H : (if t341 = true then (spec_l32Starts.l0 k1 l0 l1 (wrap64 (x5_1 + 1))) else (some false)) = some r := H
     have A5 := Ae_q A50
     clear A50
     by_cases c6 : t341 = true
     ·subst c6
      have H1 : (spec_l32Starts.l0 k1 l0 l1 (wrap64 (x5_1 + 1))) = some r := by rw [if_pos rfl] at H; exact H
      clear H
      have H := H1
      clear H1
      have H' := Ae_q H
      clear H
      have p340 : 0 ≤ (x5_1 : Int) := oD_q (by assumption)
      have q340 : x5_1 < (l1.length : Int) := oD_q (by assumption)
      obtain ⟨ad340, e340, hx340_0⟩ := aI_q HR1.out x5_1 p340 q340
      cases e340
      replace hx340_0 := (HB.out.cell (wL_q w _ hx340_0)).trans hx340_0
      replace p340 := eq_true p340
      replace q340 := eq_true q340
      go_wp2_with (first | ((with_reducible refine gC_q (f := 47) rfl ?_); refine gL_q (some 16) rfl rfl Try.func47 (by kernel_rfl) rfl #[.int .i64 (rd l1 x5_1), .int .i64 0, .int .i64 999] rfl (by (try simp only [lM_q, lC_q, lN_q]); first | done | rfl | (simp only [lD_q, lT_q]; rfl)) ?_; (with_reducible refine (spec_l6In.calls (rd l1 x5_1) 0 999 true _ A5.out).mono ?_); rintro e w' ⟨rfl, ⟨nd, rfl⟩⟩; refine ⟨_, rfl, ?_⟩))
      go_roundg k1
      case measure => have := HK1.out; omega
      case rel => exact ⟨(wrap64 (x5_1 + 1)), (by first | rfl | (simp; done) | (simp [*]; done)), H', ⟨by have := HK1.out; omega⟩, ⟨bel HB.out⟩⟩
     replace c6 := fM_q.mpr c6
     subst c6
     have H1 : (some false) = some r := by rw [if_neg (show ¬ (false = true) by decide)] at H; exact H
     clear H
     have H := H1
     clear H1
     obtain rfl := oI_q H
     have p340 : 0 ≤ (x5_1 : Int) := oD_q (by assumption)
     have q340 : x5_1 < (l1.length : Int) := oD_q (by assumption)
     obtain ⟨ad340, e340, hx340_0⟩ := aI_q HR1.out x5_1 p340 q340
     cases e340
     replace hx340_0 := (HB.out.cell (wL_q w _ hx340_0)).trans hx340_0
     replace p340 := eq_true p340
     replace q340 := eq_true q340
     go_wp2_with (first | ((with_reducible refine gC_q (f := 47) rfl ?_); refine gL_q (some 16) rfl rfl Try.func47 (by kernel_rfl) rfl #[.int .i64 (rd l1 x5_1), .int .i64 0, .int .i64 999] rfl (by (try simp only [lM_q, lC_q, lN_q]); first | done | rfl | (simp only [lD_q, lT_q]; rfl)) ?_; (with_reducible refine (spec_l6In.calls (rd l1 x5_1) 0 999 false _ A5.out).mono ?_); rintro e w' ⟨rfl, ⟨nd, rfl⟩⟩; refine ⟨_, rfl, ?_⟩))
     go_ret
     exact ⟨by first | rfl | (simp [eN_q, eS_q] <;> rfl) | (simp [*, eN_q, eS_q] <;> rfl), bel HB.out⟩
    rw [if_neg c4] at H
    exact absurd H (by simp)
   rw [if_neg c3] at H
   have c3b0 : decide (x5_1 < (l1.length : Int)) = false := dF_q c3
   clear c3
   replace H := oB_q.mp H
   obtain ⟨t342, A70, H⟩ := H
   replace H : (if t342 = true then (some ((l1.length : Int) == (l0.length : Int))) else (some false)) = some r := H
   have A7 := Ae_q A70
   clear A70
   by_cases c8 : t342 = true
   ·subst c8
    have H1 : (some ((l1.length : Int) == (l0.length : Int))) = some r := by rw [if_pos rfl] at H; exact H
    clear H
    have H := H1
    clear H1
    obtain rfl := oI_q H
    go_wp2_with (first | ((with_reducible refine gC_q (f := 62) rfl ?_); refine gL_q (some 19) rfl rfl Try.func62 (by kernel_rfl) rfl #[.slice A0 l0.length c0] rfl (by (try simp only [lM_q, lC_q, lN_q]); first | done | rfl | (simp only [lD_q, lT_q]; rfl)) ?_; (with_reducible refine (spec_StepsValid.calls k1 _ _ l0 true _ ?side1 ?side2 A7.out).mono ?_); (case side1 => repeat (first | exact (cB_q HR0.out HB.out) | (with_reducible refine cA_q ?_ _) | (with_reducible refine cN_q ?_ _) | (with_reducible refine cD_q ?_))); (case side2 => exact HC0.out); rintro e w9 ⟨rfl, hb⟩; refine ⟨_, rfl, ?_⟩; have n0_ := Ae_q (bT_q (bel HB.out) hb); clear HB; have HB := n0_; clear n0_; (try clear hb); (try clear hb2); (try clear hk); (try clear hi)))
    go_ret
    exact ⟨by first | rfl | (simp [eN_q, eS_q] <;> rfl) | (simp [*, eN_q, eS_q] <;> rfl), bel HB.out⟩
   replace c8 := fM_q.mpr c8
   subst c8
   have H1 : (some false) = some r := by rw [if_neg (show ¬ (false = true) by decide)] at H; exact H
   clear H
   have H := H1
   clear H1
   obtain rfl := oI_q H
   go_wp2_with (first | ((with_reducible refine gC_q (f := 62) rfl ?_); refine gL_q (some 19) rfl rfl Try.func62 (by kernel_rfl) rfl #[.slice A0 l0.length c0] rfl (by (try simp only [lM_q, lC_q, lN_q]); first | done | rfl | (simp only [lD_q, lT_q]; rfl)) ?_; (with_reducible refine (spec_StepsValid.calls k1 _ _ l0 false _ ?side1 ?side2 A7.out).mono ?_); (case side1 => repeat (first | exact (cB_q HR0.out HB.out) | (with_reducible refine cA_q ?_ _) | (with_reducible refine cN_q ?_ _) | (with_reducible refine cD_q ?_))); (case side2 => exact HC0.out); rintro e w10 ⟨rfl, hb⟩; refine ⟨_, rfl, ?_⟩; have n0_ := Ae_q (bT_q (bel HB.out) hb); clear HB; have HB := n0_; clear n0_; (try clear hb); (try clear hb2); (try clear hk); (try clear hi)))
   go_ret
   exact ⟨by first | rfl | (simp [eN_q, eS_q] <;> rfl) | (simp [*, eN_q, eS_q] <;> rfl), bel HB.out⟩

end Go.Proofs.Ytoaigcdoblnmhaa.PPn
