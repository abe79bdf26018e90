import Derived.Test.YtfnpiacmlahegaaVSPRpx0
namespace Go.Proofs.Ytfnpiacmlahegaa.PRp
open Go.RowKit Go.Proofs.YtfnpiacmlahegaaW.PrintWords Go.Proofs.YtfnpiacmlahegaaW.PrintLast Go.Proofs.YtfnpiacmlahegaaW.PrintMore
attribute [local go_sem] max2_int min2_int max_two min_two max_three min_three max_four min_four
set_option linter.unusedVariables false
set_option linter.unusedSimpArgs false

mutual
def impl_useAt.l0 : Nat → List Int → Int → Int → List Int → List (S63) → Int → Int → Option (Int × List Int)
 | 0, _, _, _, _, _, _, _ => none
 | k + 1, x1, x2, x8, x9, x13, x14, x15 => if x15 < x14 then (if 0 ≤ x15 then (if x15 < (x13.length : Int) then (if x15 < (x1.length : Int) then (if (rd x1 x15) > x2 then (impl_useAt.j1 k x1 x2 x8 x9 x13 x14 x15 true ((rd_T63 x13 x15).f0) ((rd_T63 x13 x15).f1) ((rd_T63 x13 x15).f2) ((rd_T63 x13 x15).f3)) else (impl_useAt.j1 k x1 x2 x8 x9 x13 x14 x15 (decide (x2 ≥ (wrap64 ((rd x1 x15) + ((rd_T63 x13 x15).f0))))) ((rd_T63 x13 x15).f0) ((rd_T63 x13 x15).f1) ((rd_T63 x13 x15).f2) ((rd_T63 x13 x15).f3))) else (none)) else (none)) else (none)) else (some (x8, x9))
def impl_useAt.j1 : Nat → List Int → Int → Int → List Int → List (S63) → Int → Int → Bool → Int → Int → Int → List Int → Option (Int × List Int)
 | 0, _, _, _, _, _, _, _, _, _, _, _, _ => none
 | k + 1, x1, x2, x8, x9, x13, x14, x15, x36, x334000, x334001, x334002, x334003 => if x36 = true then (impl_useAt.l0 k x1 x2 x8 x9 x13 x14 (wrap64 (x15 + 1))) else (if x334002 > 0 then (if 0 ≤ (wrap64 (x334002 - 1)) then (if (wrap64 (x334002 - 1)) < (x9.length : Int) then (impl_useAt.l0 k x1 x2 (wrap64 (x8 + x334001)) (x9.set ((wrap64 (x334002 - 1)) : Int).toNat (wrap64 ((rd x9 (wrap64 (x334002 - 1))) + 1))) x13 x14 (wrap64 (x15 + 1))) else (none)) else (none)) else (impl_useAt.l0 k x1 x2 (wrap64 (x8 + x334001)) x9 x13 x14 (wrap64 (x15 + 1))))
end
def impl_useAt.f (k : Nat) (l0 : List (S63)) (l1 : List Int) (a2 : Int) : Option (Int × List Int) := if 4 ≤ 35184372088832 then (impl_useAt.l0 k l1 a2 0 (List.replicate 4 0) l0 (l0.length : Int) 0) else (none)
def impl_useAt.T5 : Bool × List (List Nat × List Nat) := (true, [([], []), ([], []), ([0, 1], [0, 1]), ([2], [2]), ([], []), ([3, 4], [3, 4]), ([5], [5]), ([6], [6]), ([6], [6]), ([6], [6]), ([8, 9, 6], [6, 8, 9]), ([10, 6], [6, 10]), ([6], [6]), ([12, 6], [6, 12]), ([11, 13, 6], [6, 11, 13]), ([7, 14, 6], [6, 7, 14]), ([6, 15], [6, 15])])
def impl_useAt.B5 : List Nat := [0, 0, 3, 7, 0, 31, 63, 127, 127, 127, 895, 1919, 127, 4223, 16255, 32767, 65535]
theorem impl_useAt.tab5 : rtab .any (opsOf Try.f71 5) = impl_useAt.T5 := by kernel_rfl
theorem impl_useAt.bits5 : waitsOk impl_useAt.T5.2 impl_useAt.B5 = true := by kernel_rfl
set_option maxHeartbeats 8000000 in
set_option maxRecDepth 100000 in
theorem impl_useAt.calls (k : Nat) (A0 : Option Addr) (c0 : Nat) (l0 : List (S63)) (A1 : Option Addr) (c1 : Nat) (l1 : List Int) (a2 : Int) (r1 : Int) (r2 : List Int) (w : World) (hr0 : Kd.C k63 w A0 l0.length l0) (hc0 : l0.length ≤ c0) (hr1 : Kd.C kI_q w A1 l1.length l1) (hc1 : l1.length ≤ c1) (h : impl_useAt.f k l0 l1 a2 = some (r1, r2)) :
    Calls Try.prog 71 #[.slice A0 l0.length c0, .slice A1 l1.length c1, .int .i64 a2] w fun e w' => ∃ v1_ : Value, e = .returned (.tuple #[.int .i64 r1, v1_]) ∧ Kd.R kI_q 3 w' w.heap.size (fun _ => True) v1_ r2 ∧ Below w.heap.size w w' := by
 have hu63 := Try.underlying63
 have HR0 := Ae_q hr0
 have HC0 := Ae_q hc0
 clear hr0 hc0
 have HR1 := Ae_q hr1
 have HC1 := Ae_q hc1
 clear hr1 hc1
 have HB := Ae_q (bR_q w.heap.size w)
 have H : (if 4 ≤ 35184372088832 then (impl_useAt.l0 k l1 a2 0 (List.replicate 4 0) l0 (l0.length : Int) 0) else (none)) = some (r1, r2) := h
 clear h
 by_cases c4 : 4 ≤ 35184372088832
 rotate_left
 ·rw [if_neg c4] at H
  exact absurd H (by simp)
 rw [if_pos c4] at H
 have c4b0 := eq_true c4
 have c4b1 : decide (4 ≤ 35184372088832) = true := dT_q c4
 clear c4
 obtain ⟨y329, hy329⟩ : ∃ y_ : List Int, y_ = (List.replicate 4 0) := ⟨_, rfl⟩
 replace H : (impl_useAt.l0 k l1 a2 0 y329 l0 (l0.length : Int) 0) = some (r1, r2) := by first | (rw [hy329]; with_reducible exact H) | (have H2_ := (oS_q _ _).symm.trans H; rw [hy329]; with_reducible exact H2_) | (have H2_ := (oS_q _ _).symm.trans H; with_reducible exact H2_) | with_reducible exact H | (rw [hy329]; exact H) | exact H
 have Ny329 := Ae_q hy329
 clear hy329
 have H' := Ae_q H
 clear H
 go_enter Try.func71, Try.ntmps71
 try go_wp2
 replace HB := Ae_q (bD_q HB.out)
 refine start_ (n := 3) (S := fun w' => True) (ds := []) #[false, false, false] m7_q rfl rfl trivial (fun hHeld => ?_)
 generalize w.drew = w5 at HB hHeld ⊢
 refine pure_ (i := 1) (N := some 8) (v := ?_) (a' := ?_) #[false, true, false] rfl rfl m7_q (fun _ _ _ h => h) (Or.inl ⟨by rfl, ?_⟩) ?_ ?_
 rotate_left
 ·intro w'
  go_simp
  with_reducible rfl
 rotate_left
 ·simp only [pS_q]
  rfl
 refine one_ (i := 0) (N := some 12) #[true, true, false] rfl rfl m7_q (by decide) (fun K hK => ?_)
 refine Kd.R_make_step kI_q _ 3 (by rfl) (N := 12) rfl 23 _ _ rfl 4 rfl rfl Try.underlying23 (.int .i64 0) 8 info3 rfl (by decide) (by omega) 0 (ok := fun _ => True) (okp := fun _ => True) rfl (fun _ hk => hk) trivial (by omega) (by omega) (bR_q _ _) (nR_q _) ?_
 intro v330 w6 ho7 hb hg_ hnew_
 clear hg_ hnew_
 (first | rw [← Ny329.out] at ho7 | (simp only [Int.reduceToNat] at ho7; rw [← Ny329.out] at ho7))
 have HO331 := Ae_q (rL_q ho7 (bZ_q (bel HB.out)))
 replace HB := Ae_q (bT_q (bel HB.out) hb)
 clear hb ho7
 refine hK.out _ _ trivial (fun hHeld => ?_)
 clear hK K
 refine nJ_q ?_
 refine pure_ (i := 2) (N := some 9) (v := ?_) (a' := ?_) #[true, true, true] rfl rfl m7_q (fun _ _ _ h => h) (Or.inl ⟨by rfl, ?_⟩) ?_ ?_
 rotate_left
 ·intro w'
  go_simp
  with_reducible rfl
 rotate_left
 ·simp only [pS_q]
  rfl
 refine done_ m7_q ?_
 try go_wp2
 go_loopg [8, 15] k (fun kq v8 v15 w' => ∃ (x8_1 : Int) (x9_1 : List Int) (x15_1 : Int), v8 = .int .i64 x8_1 ∧ v15 = .int .i64 x15_1 ∧ Aside0 (impl_useAt.l0 kq l1 a2 x8_1 x9_1 l0 (l0.length : Int) x15_1 = some (r1, r2)) ∧ Aside0 (kq ≤ k) ∧ Aside0 (Kd.R kI_q 3 w' w.heap.size (fun _ => True) v330 x9_1) ∧ Aside0 (Below w.heap.size w w'))
 case atStart => exact ⟨(0), (y329), (0), m5_q, m5_q, H', ⟨nR_q _⟩, ⟨rup HO331.out⟩, ⟨bel HB.out⟩⟩
 case round =>
  clear H'
  try clear c1
  try clear p2
  try clear c4
  try clear c4b0
  try clear c4b1
  try clear c7
  obtain ⟨x8_1, x9_1, x15_1, rfl, rfl, HA, HK1, HO_9, HB⟩ := hrel
  cases gk with
  | zero => exact absurd HA.out (by simp [impl_useAt.l0])
  | succ k1 =>
   have H := HA.out
   clear HA
   simp only [impl_useAt.l0] at H
   by_cases c8 : x15_1 < (l0.length : Int)
   rotate_left
   ·rw [if_neg c8] at H
    have c8b0 : decide (x15_1 < (l0.length : Int)) = false := dF_q c8
    clear c8
    simp only [oE_q, pE_q] at H
    obtain ⟨rfl, rfl⟩ := H
    go_wp2
    go_ret2
    exact ⟨_, m4_q, rup HO_9.out, bel HB.out⟩
   rw [if_pos c8] at H
   have c8b0 : decide (x15_1 < (l0.length : Int)) = true := dT_q c8
   clear c8
   by_cases c9 : 0 ≤ x15_1
   rotate_left
   ·rw [if_neg c9] at H
    exact absurd H (by simp)
   rw [if_pos c9] at H
   have c9b0 : decide (0 ≤ x15_1) = true := dT_q c9
   clear c9
   by_cases c10 : x15_1 < (l0.length : Int)
   rotate_left
   ·rw [if_neg c10] at H
    exact absurd H (by simp)
   rw [if_pos c10] at H
   have c10b0 : decide (x15_1 < (l0.length : Int)) = true := dT_q c10
   clear c10
   have HC11 := Ae_q H
   clear H
   have p332 : 0 ≤ (x15_1 : Int) := oD_q (by assumption)
   have q332 : x15_1 < (l0.length : Int) := oD_q (by assumption)
   obtain ⟨ad332, A332_3, c332_3, e332, hx332_0, hx332_1, hx332_2, hx332_3, hl332_3, hi332_3⟩ := at_T63 HR0.out x15_1 p332 q332
   cases e332
   replace hx332_0 := cel HB.out hx332_0
   replace hx332_1 := cel HB.out hx332_1
   replace hx332_2 := cel HB.out hx332_2
   replace hx332_3 := cel HB.out hx332_3
   have HR332_3 := Ae_q hi332_3
   have HC332_3 := Ae_q hl332_3
   clear hi332_3 hl332_3
   replace p332 := eq_true p332
   replace q332 := eq_true q332
   go_upto_region 5 with (first | ((with_reducible refine gD_q (N := 11) rfl ?_); refine bE_q ?hg (N := 11) ?hd (cs := #[.int .i64 0, .int .i64 0, .int .i64 0, .slice none 0 0]) (t := 63) ?hr ?_; (case hd => rfl); (case hg => rfl); (case hr => exact m6_q); intro gb333 hg w12 hbox hb; replace HO_9 := Ae_q (rO_q (rup HO_9.out) hb); have BK333 := Ae_q (hbox); have GW333 := Ae_q ((by rw [hg]; exact (bZ_q (bel HB.out)) : w.heap.size ≤ gb333)); have GE333 := Ae_q ((by rw [hg]; exact (bZ_q (bel HB.out)) : w.heap.size ≤ gb333)); replace HB := Ae_q (bT_q (bel HB.out) hb); clear hb hbox hg; have hcz13_0 : cI w12 gb333 0 0 := cZ BK333 0 rfl; have hcz13_1 : cI w12 gb333 1 0 := cZ BK333 1 rfl; have hcz13_2 : cI w12 gb333 2 0 := cZ BK333 2 rfl; have hcz13_3 : w12.cell? ⟨gb333, 3, none⟩ = some (.slice none 0 0) := (bC_q BK333.out 3).trans rfl; have hfz13_0 := bF_q BK333.out 0; have hfz13_1 := bF_q BK333.out 1; have hfz13_2 := bF_q BK333.out 2; have hfz13_3 := bF_q BK333.out 3))
   (try simp only [Act.put, sA_q, sZ_q, sS_q])
   go_cut [36] (fun v36 wc => ∃ (kq : Nat) (x36_10 : Bool), v36 = .bool x36_10 ∧ Aside0 (impl_useAt.j1 kq l1 a2 x8_1 x9_1 l0 (l0.length : Int) x15_1 x36_10 ((rd_T63 l0 x15_1).f0) ((rd_T63 l0 x15_1).f1) ((rd_T63 l0 x15_1).f2) ((rd_T63 l0 x15_1).f3) = some (r1, r2)) ∧ Aside0 (kq ≤ k1) ∧ Aside0 (Kd.R kI_q 3 wc w.heap.size (fun _ => True) v330 x9_1) ∧ Aside0 (wc.heap[gb333]? = some (.cells #[.int .i64 ((rd_T63 l0 x15_1).f0), .int .i64 ((rd_T63 l0 x15_1).f1), .int .i64 ((rd_T63 l0 x15_1).f2), (.slice A332_3 ((rd_T63 l0 x15_1).f3).length c332_3)] 63 (0, 0))) ∧ Aside0 (Below w.heap.size w wc))
   case first =>
    have H := HC11.out
    clear HC11
    by_cases c14 : x15_1 < (l1.length : Int)
    rotate_left
    ·rw [if_neg c14] at H
     exact absurd H (by simp)
    rw [if_pos c14] at H
    have c14b0 : decide (x15_1 < (l1.length : Int)) = true := dT_q c14
    clear c14
    (first | rw [c14b0] | (simp only [i64_w, i32_w]; rw [c14b0]) | skip)
    by_cases c15 : (rd l1 x15_1) > a2
    ·rw [if_pos c15] at H
     have c15b0 : decide (a2 < (rd l1 x15_1)) = true := dT_q c15
     clear c15
     have H' := Ae_q H
     clear H
     try go_wp2
     have n0_ : Aside0 (Kd.R kI_q 3 ((((w12.setCell ⟨gb333, 0, none⟩ (.int .i64 ((rd_T63 l0 x15_1).f0))).setCell ⟨gb333, 1, none⟩ (.int .i64 ((rd_T63 l0 x15_1).f1))).setCell ⟨gb333, 2, none⟩ (.int .i64 ((rd_T63 l0 x15_1).f2))).setCell ⟨gb333, 3, none⟩ (.slice A332_3 ((rd_T63 l0 x15_1).f3).length c332_3)) w.heap.size (fun _ => True) v330 x9_1) := ⟨by (with_reducible repeat (first | apply rA_q | apply rN_q | apply rD_q)); exact rM_q (Kd.R_far (p := ⟨gb333, 3, none⟩) (Kd.R_far (p := ⟨gb333, 2, none⟩) (Kd.R_far (p := ⟨gb333, 1, none⟩) (Kd.R_far (p := ⟨gb333, 0, none⟩) (Kd.R_types HO_9.out BK333.out (by decide)) (fun _ hk => hk.2) (.int .i64 ((rd_T63 l0 x15_1).f0))) (fun _ hk => hk.2) (.int .i64 ((rd_T63 l0 x15_1).f1))) (fun _ hk => hk.2) (.int .i64 ((rd_T63 l0 x15_1).f2))) (fun _ hk => hk.2) (.slice A332_3 ((rd_T63 l0 x15_1).f3).length c332_3)) (fun _ hk => trivial)⟩
     have n1_ : Aside0 (((((w12.setCell ⟨gb333, 0, none⟩ (.int .i64 ((rd_T63 l0 x15_1).f0))).setCell ⟨gb333, 1, none⟩ (.int .i64 ((rd_T63 l0 x15_1).f1))).setCell ⟨gb333, 2, none⟩ (.int .i64 ((rd_T63 l0 x15_1).f2))).setCell ⟨gb333, 3, none⟩ (.slice A332_3 ((rd_T63 l0 x15_1).f3).length c332_3)).heap[gb333]? = some (.cells #[.int .i64 ((rd_T63 l0 x15_1).f0), .int .i64 ((rd_T63 l0 x15_1).f1), .int .i64 ((rd_T63 l0 x15_1).f2), .slice A332_3 ((rd_T63 l0 x15_1).f3).length c332_3] 63 (0, 0))) := ⟨m15_q⟩
     have n2_ : Aside0 (Below w.heap.size w ((((w12.setCell ⟨gb333, 0, none⟩ (.int .i64 ((rd_T63 l0 x15_1).f0))).setCell ⟨gb333, 1, none⟩ (.int .i64 ((rd_T63 l0 x15_1).f1))).setCell ⟨gb333, 2, none⟩ (.int .i64 ((rd_T63 l0 x15_1).f2))).setCell ⟨gb333, 3, none⟩ (.slice A332_3 ((rd_T63 l0 x15_1).f3).length c332_3))) := ⟨m46_q⟩
     (try clear HO_9)
     (try clear BK333)
     (try clear HB)
     generalize ((((w12.setCell ⟨gb333, 0, none⟩ (.int .i64 ((rd_T63 l0 x15_1).f0))).setCell ⟨gb333, 1, none⟩ (.int .i64 ((rd_T63 l0 x15_1).f1))).setCell ⟨gb333, 2, none⟩ (.int .i64 ((rd_T63 l0 x15_1).f2))).setCell ⟨gb333, 3, none⟩ (.slice A332_3 ((rd_T63 l0 x15_1).f3).length c332_3)) = w16 at n0_ n1_ n2_ ⊢
     have HO_9 := n0_
     have BK333 := n1_
     have HB := n2_
     clear n0_ n1_ n2_
     replace HO_9 := Ae_q (rD_q HO_9.out)
     replace BK333 := Ae_q (bW_q BK333.out)
     replace HB := Ae_q (bD_q HB.out)
     have p334 : 0 ≤ (x15_1 : Int) := oD_q (by assumption)
     have q334 : x15_1 < (l1.length : Int) := oD_q (by assumption)
     obtain ⟨ad334, e334, hx334_0⟩ := aI_q HR1.out x15_1 p334 q334
     have hw334_0 := hx334_0
     cases e334
     replace hx334_0 := cel HB.out hx334_0
     replace p334 := eq_true p334
     replace q334 := eq_true q334
     refine start_ (n := 17) (S := fun w' => w'.cell? (ad334.add (x15_1).toNat) = some (.int .i64 (rd l1 x15_1))) (ds := []) #[false, false, false, false, false, false, false, false, false, false, false, false, false, false, false, false, false] m7_q rfl rfl ((cel HB.out hw334_0)) (fun hHeld => ?_); refine with_tabW impl_useAt.tab5 impl_useAt.bits5 (fun HT_ HW_ => ?_)
     generalize w16.drew = w17 at HO_9 BK333 HB hx334_0 hHeld ⊢
     refine pJ HT_ 0 20 rfl rfl ?_
     refine pJ HT_ 1 21 rfl rfl ?_
     refine pJ HT_ 2 22 rfl rfl ?_
     refine pJ HT_ 4 24 rfl rfl ?_
     refine take_ (i := 3) (N := some 23) (v := ?_) (a' := ?_) #[true, true, true, true, true, false, false, false, false, false, false, false, false, false, false, false, false] rfl rfl (take_ofW HT_.out HW_.out m7_q) (fun _ _ _ h => h) (Or.inl ⟨by rfl, ?_⟩) hHeld ?_ ?_
     rotate_left
     ·intro w' s0
      go_simp
      with_reducible rfl
     rotate_left
     ·simp only [pS_q]
      rfl
     refine pJ HT_ 5 25 rfl rfl ?_
     refine pJ HT_ 6 26 rfl rfl ?_
     refine pV HT_ 7 27 rfl rfl ?_
     refine pV HT_ 8 28 rfl rfl ?_
     refine pV HT_ 9 29 rfl rfl ?_
     refine pV HT_ 10 30 rfl rfl ?_
     refine pV HT_ 11 31 rfl rfl ?_
     refine pV HT_ 12 32 rfl rfl ?_
     refine pV HT_ 13 33 rfl rfl ?_
     refine pV HT_ 14 34 rfl rfl ?_
     refine pV HT_ 15 35 rfl rfl ?_
     refine pJ HT_ 16 36 rfl rfl ?_
     refine done_ (done_of HT_.out m7_q) ?_
     try go_wp2
     go_meet
     case rel => exact ⟨_, (true), m5_q, H', ⟨m78_q⟩, ⟨rup HO_9.out⟩, ⟨bup BK333.out⟩, ⟨m46_q⟩⟩
    rw [if_neg c15] at H
    have c15b0 : decide (a2 < (rd l1 x15_1)) = false := dF_q c15
    clear c15
    have H' := Ae_q H
    clear H
    try go_wp2
    have n0_ : Aside0 (Kd.R kI_q 3 ((((w12.setCell ⟨gb333, 0, none⟩ (.int .i64 ((rd_T63 l0 x15_1).f0))).setCell ⟨gb333, 1, none⟩ (.int .i64 ((rd_T63 l0 x15_1).f1))).setCell ⟨gb333, 2, none⟩ (.int .i64 ((rd_T63 l0 x15_1).f2))).setCell ⟨gb333, 3, none⟩ (.slice A332_3 ((rd_T63 l0 x15_1).f3).length c332_3)) w.heap.size (fun _ => True) v330 x9_1) := ⟨by (with_reducible repeat (first | apply rA_q | apply rN_q | apply rD_q)); exact rM_q (Kd.R_far (p := ⟨gb333, 3, none⟩) (Kd.R_far (p := ⟨gb333, 2, none⟩) (Kd.R_far (p := ⟨gb333, 1, none⟩) (Kd.R_far (p := ⟨gb333, 0, none⟩) (Kd.R_types HO_9.out BK333.out (by decide)) (fun _ hk => hk.2) (.int .i64 ((rd_T63 l0 x15_1).f0))) (fun _ hk => hk.2) (.int .i64 ((rd_T63 l0 x15_1).f1))) (fun _ hk => hk.2) (.int .i64 ((rd_T63 l0 x15_1).f2))) (fun _ hk => hk.2) (.slice A332_3 ((rd_T63 l0 x15_1).f3).length c332_3)) (fun _ hk => trivial)⟩
    have n1_ : Aside0 (((((w12.setCell ⟨gb333, 0, none⟩ (.int .i64 ((rd_T63 l0 x15_1).f0))).setCell ⟨gb333, 1, none⟩ (.int .i64 ((rd_T63 l0 x15_1).f1))).setCell ⟨gb333, 2, none⟩ (.int .i64 ((rd_T63 l0 x15_1).f2))).setCell ⟨gb333, 3, none⟩ (.slice A332_3 ((rd_T63 l0 x15_1).f3).length c332_3)).heap[gb333]? = some (.cells #[.int .i64 ((rd_T63 l0 x15_1).f0), .int .i64 ((rd_T63 l0 x15_1).f1), .int .i64 ((rd_T63 l0 x15_1).f2), .slice A332_3 ((rd_T63 l0 x15_1).f3).length c332_3] 63 (0, 0))) := ⟨m15_q⟩
    have n2_ : Aside0 (Below w.heap.size w ((((w12.setCell ⟨gb333, 0, none⟩ (.int .i64 ((rd_T63 l0 x15_1).f0))).setCell ⟨gb333, 1, none⟩ (.int .i64 ((rd_T63 l0 x15_1).f1))).setCell ⟨gb333, 2, none⟩ (.int .i64 ((rd_T63 l0 x15_1).f2))).setCell ⟨gb333, 3, none⟩ (.slice A332_3 ((rd_T63 l0 x15_1).f3).length c332_3))) := ⟨m46_q⟩
    (try clear HO_9)
    (try clear BK333)
    (try clear HB)
    generalize ((((w12.setCell ⟨gb333, 0, none⟩ (.int .i64 ((rd_T63 l0 x15_1).f0))).setCell ⟨gb333, 1, none⟩ (.int .i64 ((rd_T63 l0 x15_1).f1))).setCell ⟨gb333, 2, none⟩ (.int .i64 ((rd_T63 l0 x15_1).f2))).setCell ⟨gb333, 3, none⟩ (.slice A332_3 ((rd_T63 l0 x15_1).f3).length c332_3)) = w18 at n0_ n1_ n2_ ⊢
    have HO_9 := n0_
    have BK333 := n1_
    have HB := n2_
    clear n0_ n1_ n2_
    replace HO_9 := Ae_q (rD_q HO_9.out)
    replace BK333 := Ae_q (bW_q BK333.out)
    replace HB := Ae_q (bD_q HB.out)
    have p334 : 0 ≤ (x15_1 : Int) := oD_q (by assumption)
    have q334 : x15_1 < (l1.length : Int) := oD_q (by assumption)
    obtain ⟨ad334, e334, hx334_0⟩ := aI_q HR1.out x15_1 p334 q334
    have hw334_0 := hx334_0
    cases e334
    replace hx334_0 := cel HB.out hx334_0
    replace p334 := eq_true p334
    replace q334 := eq_true q334
    have p335 : 0 ≤ (x15_1 : Int) := oD_q (by assumption)
    have q335 : x15_1 < (l1.length : Int) := oD_q (by assumption)
    obtain ⟨ad335, e335, hx335_0⟩ := aI_q HR1.out x15_1 p335 q335
    have hw335_0 := hx335_0
    obtain rfl : ad334 = ad335 := (by injection e335)
    replace hx335_0 := cel HB.out hx335_0
    replace p335 := eq_true p335
    replace q335 := eq_true q335
    refine start_ (n := 17) (S := fun w' => w'.cell? ⟨gb333, 0, none⟩ = some (.int .i64 ((rd_T63 l0 x15_1).f0)) ∧ w'.cell? ⟨gb333, 1, none⟩ = some (.int .i64 ((rd_T63 l0 x15_1).f1)) ∧ w'.cell? ⟨gb333, 2, none⟩ = some (.int .i64 ((rd_T63 l0 x15_1).f2)) ∧ w'.cell? ⟨gb333, 3, none⟩ = some (.slice A332_3 ((rd_T63 l0 x15_1).f3).length c332_3) ∧ w'.cell? (ad334.add (x15_1).toNat) = some (.int .i64 (rd l1 x15_1)) ∧ w'.cell? (ad334.add (x15_1).toNat) = some (.int .i64 (rd l1 x15_1))) (ds := []) #[false, false, false, false, false, false, false, false, false, false, false, false, false, false, false, false, false] m7_q rfl rfl ⟨(bC_q BK333.out 0).trans rfl, (bC_q BK333.out 1).trans rfl, (bC_q BK333.out 2).trans rfl, (bC_q BK333.out 3).trans rfl, (cel HB.out hw334_0), (cel HB.out hw335_0)⟩ (fun hHeld => ?_); refine with_tabW impl_useAt.tab5 impl_useAt.bits5 (fun HT_ HW_ => ?_)
    generalize w18.drew = w19 at HO_9 BK333 HB hx334_0 hx335_0 hHeld ⊢
    refine pJ HT_ 0 20 rfl rfl ?_
    refine pJ HT_ 1 21 rfl rfl ?_
    refine pJ HT_ 2 22 rfl rfl ?_
    refine pJ HT_ 4 24 rfl rfl ?_
    refine take_ (i := 3) (N := some 23) (v := ?_) (a' := ?_) #[true, true, true, true, true, false, false, false, false, false, false, false, false, false, false, false, false] rfl rfl (take_ofW HT_.out HW_.out m7_q) (fun _ _ _ h => h) (Or.inl ⟨by rfl, ?_⟩) hHeld ?_ ?_
    rotate_left
    ·rintro w' ⟨s0, s1, s2, s3, s4, s5⟩
     go_simp
     with_reducible rfl
    rotate_left
    ·simp only [pS_q]
     rfl
    refine pJ HT_ 5 25 rfl rfl ?_
    refine pJ HT_ 6 26 rfl rfl ?_
    refine pJ HT_ 7 27 rfl rfl ?_
    refine pJ HT_ 8 28 rfl rfl ?_
    refine pJ HT_ 9 29 rfl rfl ?_
    refine pJ HT_ 10 30 rfl rfl ?_
    refine pJ HT_ 12 32 rfl rfl ?_
    refine take_ (i := 11) (N := some 31) (v := ?_) (a' := ?_) #[true, true, true, true, true, true, true, true, true, true, true, true, true, false, false, false, false] rfl rfl (take_ofW HT_.out HW_.out m7_q) (fun _ _ _ h => h) (Or.inl ⟨by rfl, ?_⟩) hHeld ?_ ?_
    rotate_left
    ·rintro w' ⟨s0, s1, s2, s3, s4, s5⟩
     go_simp
     with_reducible rfl
    rotate_left
    ·simp only [pS_q]
     rfl
    refine take_ (i := 13) (N := some 33) (v := ?_) (a' := ?_) #[true, true, true, true, true, true, true, true, true, true, true, true, true, true, false, false, false] rfl rfl (take_ofW HT_.out HW_.out m7_q) (fun _ _ _ h => h) (Or.inl ⟨by rfl, ?_⟩) hHeld ?_ ?_
    rotate_left
    ·rintro w' ⟨s0, s1, s2, s3, s4, s5⟩
     go_simp
     with_reducible rfl
    rotate_left
    ·simp only [pS_q]
     rfl
    refine pJ HT_ 14 34 rfl rfl ?_
    refine pJ HT_ 15 35 rfl rfl ?_
    refine pJ HT_ 16 36 rfl rfl ?_
    refine done_ (done_of HT_.out m7_q) ?_
    try go_wp2
    go_meet
    case rel => exact ⟨_, (decide (a2 ≥ (wrap64 ((rd l1 x15_1) + ((rd_T63 l0 x15_1).f0))))), m5_q, H', ⟨m78_q⟩, ⟨rup HO_9.out⟩, ⟨bup BK333.out⟩, ⟨m46_q⟩⟩
   case rest =>
    clear HC11
    try clear c1
    try clear p2
    try clear c3
    try clear p3
    try clear q3
    try clear hx3
    try clear c4
    try clear c4b0
    try clear c4b1
    try clear p6
    try clear c7
    try clear c8
    try clear c8b0
    try clear c9
    try clear c9b0
    try clear c10
    try clear c10b0
    try clear c14
    try clear c14b0
    try clear c15
    try clear c15b0
    try clear hcz13_0
    try clear hcz13_1
    try clear hcz13_2
    try clear hcz13_3
    try clear hfz13_0
    try clear hfz13_1
    try clear hfz13_2
    try clear hfz13_3
    try clear hx332_0
    try clear hx332_1
    try clear hx332_2
    try clear hx332_3
    try clear hx334_0
    try clear hx335_0
    try clear p2
    try clear p332
    try clear p334
    try clear p335
    try clear q332
    try clear q334
    try clear q335
    obtain ⟨kq, x36_10, rfl, HA, HJ10, HO_9, BK333, HB⟩ := hcut
    cases kq with
    | zero => exact absurd HA.out (by simp [impl_useAt.j1])
    | succ kj10 =>
     have H := HA.out
     clear HA
     simp only [impl_useAt.j1] at H
     by_cases c20 : x36_10 = true
     ·subst c20
      have H1 : (impl_useAt.l0 kj10 l1 a2 x8_1 x9_1 l0 (l0.length : Int) (wrap64 (x15_1 + 1))) = some (r1, r2) := by rw [if_pos rfl] at H; exact H
      clear H
      have H := H1
      clear H1
      have H' := Ae_q H
      clear H
      go_wp2
      go_roundg kj10
      case measure => have := HK1.out; have := HJ10.out; omega
      case rel => exact ⟨(x8_1), (x9_1), (wrap64 (x15_1 + 1)), m5_q, m5_q, H', ⟨m125_q⟩, ⟨rup HO_9.out⟩, ⟨m46_q⟩⟩
     replace c20 := fM_q.mpr c20
     subst c20
     have H1 : (if ((rd_T63 l0 x15_1).f2) > 0 then (if 0 ≤ (wrap64 (((rd_T63 l0 x15_1).f2) - 1)) then (if (wrap64 (((rd_T63 l0 x15_1).f2) - 1)) < (x9_1.length : Int) then (impl_useAt.l0 kj10 l1 a2 (wrap64 (x8_1 + ((rd_T63 l0 x15_1).f1))) (x9_1.set ((wrap64 (((rd_T63 l0 x15_1).f2) - 1)) : Int).toNat (wrap64 ((rd x9_1 (wrap64 (((rd_T63 l0 x15_1).f2) - 1))) + 1))) l0 (l0.length : Int) (wrap64 (x15_1 + 1))) else (none)) else (none)) else (impl_useAt.l0 kj10 l1 a2 (wrap64 (x8_1 + ((rd_T63 l0 x15_1).f1))) x9_1 l0 (l0.length : Int) (wrap64 (x15_1 + 1)))) = some (r1, r2) := by rw [if_neg (show ¬ (false = true) by decide)] at H; exact H
     clear H
     have H := H1
     clear H1
     by_cases c21 : ((rd_T63 l0 x15_1).f2) > 0
     rotate_left
     ·rw [if_neg c21] at H
      have c21b0 : decide (0 < ((rd_T63 l0 x15_1).f2)) = false := dF_q c21
      clear c21
      have H' := Ae_q H
      clear H
      have hcz30_0 : cI wc gb333 0 ((rd_T63 l0 x15_1).f0) := cZ BK333 0 rfl
      have hcz30_1 : cI wc gb333 1 ((rd_T63 l0 x15_1).f1) := cZ BK333 1 rfl
      have hcz30_2 : cI wc gb333 2 ((rd_T63 l0 x15_1).f2) := cZ BK333 2 rfl
      have hcz30_3 : wc.cell? ⟨gb333, 3, none⟩ = some (.slice A332_3 ((rd_T63 l0 x15_1).f3).length c332_3) := (bC_q BK333.out 3).trans rfl
      have hfz30_0 := bF_q BK333.out 0
      have hfz30_1 := bF_q BK333.out 1
      have hfz30_2 := bF_q BK333.out 2
      have hfz30_3 := bF_q BK333.out 3
      go_wp2
      go_roundg kj10
      case measure => have := HK1.out; have := HJ10.out; omega
      case rel => exact ⟨(wrap64 (x8_1 + ((rd_T63 l0 x15_1).f1))), (x9_1), (wrap64 (x15_1 + 1)), m5_q, m5_q, H', ⟨m125_q⟩, ⟨rup HO_9.out⟩, ⟨m46_q⟩⟩
     rw [if_pos c21] at H
     have c21b0 : decide (0 < ((rd_T63 l0 x15_1).f2)) = true := dT_q c21
     clear c21
     obtain ⟨ji22, hji22⟩ : ∃ j_ : Int, (wrap64 (((rd_T63 l0 x15_1).f2) - 1)) = j_ := ⟨_, rfl⟩
     replace H : (if 0 ≤ (ji22) then (if (ji22) < (x9_1.length : Int) then (impl_useAt.l0 kj10 l1 a2 (wrap64 (x8_1 + ((rd_T63 l0 x15_1).f1))) (x9_1.set ((ji22) : Int).toNat (wrap64 ((rd x9_1 (ji22)) + 1))) l0 (l0.length : Int) (wrap64 (x15_1 + 1))) else (none)) else (none)) = some (r1, r2) := by first | (rw [hji22] at H; exact H) | (simp only [hji22] at H ⊢; exact H)
     have hji22w : (IntKind.i64.wrap (((rd_T63 l0 x15_1).f2) - 1)) = ji22 := (i64_w _).trans hji22
     by_cases c23 : 0 ≤ (ji22)
     rotate_left
     ·rw [if_neg c23] at H
      exact absurd H (by simp)
     rw [if_pos c23] at H
     have c23b0 : decide (0 ≤ (ji22)) = true := dT_q c23
     clear c23
     by_cases c24 : (ji22) < (x9_1.length : Int)
     rotate_left
     ·rw [if_neg c24] at H
      exact absurd H (by simp)
     rw [if_pos c24] at H
     have c24b0 : decide ((ji22) < (x9_1.length : Int)) = true := dT_q c24
     clear c24
     obtain ⟨y337, hy337⟩ : ∃ y_ : List Int, y_ = (x9_1.set ((ji22) : Int).toNat (wrap64 ((rd x9_1 (ji22)) + 1))) := ⟨_, rfl⟩
     replace H : (impl_useAt.l0 kj10 l1 a2 (wrap64 (x8_1 + ((rd_T63 l0 x15_1).f1))) y337 l0 (l0.length : Int) (wrap64 (x15_1 + 1))) = some (r1, r2) := by first | (rw [hy337]; with_reducible exact H) | (have H2_ := (oS_q _ _).symm.trans H; rw [hy337]; with_reducible exact H2_) | (have H2_ := (oS_q _ _).symm.trans H; with_reducible exact H2_) | with_reducible exact H | (rw [hy337]; exact H) | exact H
     have Ny337 := Ae_q hy337
     clear hy337
     have H' := Ae_q H
     clear H
     have hcz26_0 : cI wc gb333 0 ((rd_T63 l0 x15_1).f0) := cZ BK333 0 rfl
     have hcz26_1 : cI wc gb333 1 ((rd_T63 l0 x15_1).f1) := cZ BK333 1 rfl
     have hcz26_2 : cI wc gb333 2 ((rd_T63 l0 x15_1).f2) := cZ BK333 2 rfl
     have hcz26_3 : wc.cell? ⟨gb333, 3, none⟩ = some (.slice A332_3 ((rd_T63 l0 x15_1).f3).length c332_3) := (bC_q BK333.out 3).trans rfl
     have hfz26_0 := bF_q BK333.out 0
     have hfz26_1 := bF_q BK333.out 1
     have hfz26_2 := bF_q BK333.out 2
     have hfz26_3 := bF_q BK333.out 3
     obtain ⟨Ao27, co27, eo27⟩ := rS_q HO_9.out
     subst eo27
     have p336 : 0 ≤ ((ji22) : Int) := oD_q (by assumption)
     have q336 : (ji22) < (x9_1.length : Int) := oD_q (by assumption)
     obtain ⟨ad336, e336, hx336_0⟩ := aI_q (rR_q HO_9.out).2.2 (ji22) p336 q336
     cases e336
     replace p336 := eq_true p336
     replace q336 := eq_true q336
     have p25 : 0 ≤ ((ji22) : Int) := oD_q (by assumption)
     have q25 : ((ji22) : Int) < ((x9_1.length : Int) : Int) := oD_q (by assumption)
     obtain ⟨go25, co25, eo25, gb25, gl25, cl25, HG25⟩ := Kd.R_form HO_9.out (by omega)
     (first | cases eo25 | (injection eo25 with ea_ en_ ec_; (first | subst ea_ | (injection ea_ with ea_; subst ea_)); subst ec_; clear en_))
     have GB25 := Ae_q gb25
     have GG25 := Ae_q HG25
     clear gb25 gl25 HG25
     (first | simp only [add_plain] at hx336_0 | skip)
     obtain ⟨hx25_0, hf25_0⟩ := Kd.R_celln 0 HO_9.out ((ji22) : Int) p25 q25
     replace p25 := eq_true p25
     replace q25 := eq_true q25
     have HP28 := Kd.R_putg HO_9.out ((ji22) : Int) (wrap64 ((rd x9_1 (ji22)) + 1))
     go_wp2_with (first | ((with_reducible refine gate_store (t := 3) (p := 51) rfl ?_); refine store_event (t := 3) (p := 51) (v := ?vo_w29) (w1 := (wc.setCell ⟨go25, ((ji22) : Int).toNat, none⟩ (.int .i64 (wrap64 ((rd x9_1 (ji22)) + 1))))) ?hg ?ho ?hn ?hr ?_; (case ho => rfl); (case hg => rfl); (case hn => rfl); (case hr => exact m6_q); intro w29 hw; have hg : wc.grownBy w29 (some go25) := (by rw [hw]; exact HP28.2); have hp_ : Kd.R kI_q 3 w29 w.heap.size (fun _ => True) (.slice (some ⟨go25, 0, none⟩) x9_1.length co27) y337 := (by rw [hw, Ny337.out]; exact HP28.1); clear HP28; replace BK333 := Ae_q (bG_q (g := gb333) (o := .cells #[.int .i64 ((rd_T63 l0 x15_1).f0), .int .i64 ((rd_T63 l0 x15_1).f1), .int .i64 ((rd_T63 l0 x15_1).f2), .slice A332_3 ((rd_T63 l0 x15_1).f3).length c332_3] 63 (0, 0)) (bup BK333.out) hg (Kd.R_ne HO_9.out BK333.out (by decide))); replace HO_9 := Ae_q (hp_); replace HB := Ae_q ((by rw [hw]; exact bS_q (HB.out) GB25.out : Below w.heap.size w w29)); clear hg hw hp_))
     go_roundg kj10
     case measure => have := HK1.out; have := HJ10.out; omega
     case rel => exact ⟨(wrap64 (x8_1 + ((rd_T63 l0 x15_1).f1))), (y337), (wrap64 (x15_1 + 1)), m5_q, m5_q, H', ⟨m125_q⟩, ⟨rup HO_9.out⟩, ⟨m46_q⟩⟩

end Go.Proofs.Ytfnpiacmlahegaa.PRp
