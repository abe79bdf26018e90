import Derived.Test.YtbclhpibilbdbaaDoorVJPScx0
import Derived.Test.YtbclhpibilbdbaaDoorVJPScx19
import Derived.Test.YtbclhpibilbdbaaDoorVJPScx20
namespace Go.Proofs.YtbclhpibilbdbaaDoor.PSc
open Go.RowKit Go.Proofs.YtbclhpibilbdbaaDoorW.PrintWords Go.Proofs.YtbclhpibilbdbaaDoorW.PrintLast Go.Proofs.YtbclhpibilbdbaaDoorW.PrintMore
attribute [local go_sem] max2_int min2_int max_two min_two max_three min_three max_four min_four
set_option linter.unusedVariables false
set_option linter.unusedSimpArgs false

mutual
def spec_l21Put.l0 : Nat → List (S49) → List (S49) → Bool → Int → Int → Int → Int → Option ((List (S49)))
 | 0, _, _, _, _, _, _, _ => none
 | k + 1, x0, x5, x6, x7, x338000, x338001, x338002 => if x7 < (x0.length : Int) then (if 0 ≤ x7 then (if x6 = true then (spec_l21Put.j1 k x0 x5 x6 x7 false x338000 x338001 x338002 ((rd_T49 x0 x7).f0) ((rd_T49 x0 x7).f1) ((rd_T49 x0 x7).f2)) else (if ((rd_T49 x0 x7).f0) = x338000 then (spec_l21Put.j1 k x0 x5 x6 x7 (((rd_T49 x0 x7).f1) == x338001) x338000 x338001 x338002 ((rd_T49 x0 x7).f0) ((rd_T49 x0 x7).f1) ((rd_T49 x0 x7).f2)) else (spec_l21Put.j1 k x0 x5 x6 x7 false x338000 x338001 x338002 ((rd_T49 x0 x7).f0) ((rd_T49 x0 x7).f1) ((rd_T49 x0 x7).f2)))) else (none)) else (if x6 = true then (some x5) else (if x5.length < 5864062014805 then (some (x5 ++ [(⟨x338000, x338001, x338002⟩ : S49)])) else (none)))
def spec_l21Put.j1 : Nat → List (S49) → List (S49) → Bool → Int → Bool → Int → Int → Int → Int → Int → Int → Option ((List (S49)))
 | 0, _, _, _, _, _, _, _, _, _, _, _ => none
 | k + 1, x0, x5, x6, x7, x35, x338000, x338001, x338002, x346000, x346001, x346002 => if x35 = true then (if x5.length < 5864062014805 then (spec_l21Put.l0 k x0 (x5 ++ [(⟨x346000, x346001, wrap64 (x346002 + x338002)⟩ : S49)]) true (wrap64 (x7 + 1)) x338000 x338001 x338002) else (none)) else (if x6 = true then (if x5.length < 5864062014805 then (spec_l21Put.l0 k x0 (x5 ++ [(⟨x346000, x346001, x346002⟩ : S49)]) x6 (wrap64 (x7 + 1)) x338000 x338001 x338002) else (none)) else ((spec_l21Before.f x338000 x338001 x338002 x346000 x346001 x346002).bind fun t352 => (if t352 = true then (if x5.length < 5864062014805 then ((some (x5 ++ [(⟨x338000, x338001, x338002⟩ : S49)] : List (S49))).bind fun y353 => (if y353.length < 5864062014805 then (spec_l21Put.l0 k x0 (y353 ++ [(⟨x346000, x346001, x346002⟩ : S49)]) true (wrap64 (x7 + 1)) x338000 x338001 x338002) else (none))) else (none)) else (if x5.length < 5864062014805 then (spec_l21Put.l0 k x0 (x5 ++ [(⟨x346000, x346001, x346002⟩ : S49)]) x6 (wrap64 (x7 + 1)) x338000 x338001 x338002) else (none)))))
end
def spec_l21Put.f (k : Nat) (l0 : List (S49)) (a1_0 : Int) (a1_1 : Int) (a1_2 : Int) : Option ((List (S49))) := spec_l21Put.l0 k l0 (([] : List (S49))) false 0 a1_0 a1_1 a1_2
set_option maxHeartbeats 8000000 in
set_option maxRecDepth 100000 in
theorem spec_l21Put.calls (k : Nat) (A0 : Option Addr) (c0 : Nat) (l0 : List (S49)) (a1_0 : Int) (a1_1 : Int) (a1_2 : Int) (r : List (S49)) (w : World) (hr0 : Kd.C k49 w A0 l0.length l0) (hc0 : l0.length ≤ c0) (h : spec_l21Put.f k l0 a1_0 a1_1 a1_2 = some r) :
    Calls Tryd.prog 56 #[.slice A0 l0.length c0, .agg #[.int .i64 a1_0, .int .i64 a1_1, .int .i64 a1_2]] w fun e w' => ∃ v0_ : Value, e = .returned (v0_) ∧ Kd.R k49 49 w' w.heap.size (fun _ => True) v0_ r ∧ Below w.heap.size w w' := by
 have hu49 := Tryd.underlying49
 have HR0 := Ae_q hr0
 have HC0 := Ae_q hc0
 clear hr0 hc0
 have HB := Ae_q (bR_q w.heap.size w)
 have H : (spec_l21Put.l0 k l0 (([] : List (S49))) false 0 a1_0 a1_1 a1_2) = some r := h
 clear h
 obtain ⟨y338, hy338⟩ : ∃ y_ : List (S49), y_ = (([] : List (S49))) := ⟨_, rfl⟩
 replace H : (spec_l21Put.l0 k l0 y338 false 0 a1_0 a1_1 a1_2) = some r := by first | (rw [hy338]; with_reducible exact H) | (have H2_ := (oS_q _ _).symm.trans H; rw [hy338]; with_reducible exact H2_) | (have H2_ := (oS_q _ _).symm.trans H; with_reducible exact H2_) | with_reducible exact H | (rw [hy338]; exact H) | exact H
 have Ny338 := Ae_q hy338
 clear hy338
 have H' := Ae_q H
 clear H
 go_enter Tryd.func56, Tryd.ntmps56
 go_wp2_with (first | ((with_reducible refine gD_q (N := 3) rfl ?_); refine bE_q ?hg (N := 3) ?hd (cs := #[.int .i64 a1_0, .int .i64 a1_1, .int .i64 a1_2]) (t := 49) ?hr ?_; (case hd => rfl); (case hg => rfl); (case hr => exact m10_q); intro gb337 hg w' hbox hb; have BK337 := Ae_q (hbox); have GW337 := Ae_q ((by rw [hg]; exact (bZ_q (bel HB.out)) : w.heap.size ≤ gb337)); have GE337 := Ae_q ((by rw [hg]; exact (bZ_q (bel HB.out)) : w.heap.size ≤ gb337)); replace HB := Ae_q (bT_q (bel HB.out) hb); clear hb hbox hg) | ((with_reducible refine gD_q (N := 9) rfl ?_); refine Kd.R_lit k49 _ 49 ?hg (N := 9) ?hd (xs := ([] : List (S49))) (inner := []) (ok := fun _ => True) (okp := fun _ => True) ?hr ?hp (fun _ hk => hk) trivial (bR_q _ _) (nR_q _) (by simp) ?_; (case hd => rfl); (case hg => rfl); (case hr => exact m10_q); (case hp => exact m46_q); intro v339 w4 ho5 hb hg_ hnew_; clear hg_ hnew_; (first | rw [← Ny338.out] at ho5 | (simp only [Int.reduceToNat] at ho5; rw [← Ny338.out] at ho5)); have HO340 := Ae_q (rL_q (Kd.R_newB ho5 (g := gb337) (o := .cells #[.int .i64 a1_0, .int .i64 a1_1, .int .i64 a1_2] 49 (0, 0)) (bup BK337.out)) (bZ_q m24_q)); replace BK337 := Ae_q (bB_q (g := gb337) (o := .cells #[.int .i64 a1_0, .int .i64 a1_1, .int .i64 a1_2] 49 (0, 0)) (bup BK337.out) hb); replace HB := Ae_q (bT_q m24_q hb); clear hb ho5))
 go_loopg [5, 6, 7] k (fun kq v5 v6 v7 w' => ∃ (x5_1 : List (S49)) (x6_1 : Bool) (x7_1 : Int), v6 = .bool x6_1 ∧ v7 = .int .i64 x7_1 ∧ Aside0 (spec_l21Put.l0 kq l0 x5_1 x6_1 x7_1 a1_0 a1_1 a1_2 = some r) ∧ Aside0 (kq ≤ k) ∧ Aside0 (Kd.R k49 49 w' w.heap.size (fun k_ => k_ ≠ gb337) v5 x5_1) ∧ Aside0 (w'.heap[gb337]? = some (.cells #[.int .i64 a1_0, .int .i64 a1_1, .int .i64 a1_2] 49 (0, 0))) ∧ Aside0 (Below w.heap.size w w'))
 case atStart => exact ⟨(y338), (false), (0), m2_q, m2_q, H', ⟨nR_q _⟩, ⟨by (with_reducible repeat (first | apply rA_q | apply rN_q | apply rD_q)); exact rM_q HO340.out (fun _ hk => hk.2)⟩, ⟨bup BK337.out⟩, ⟨m24_q⟩⟩
 case round =>
  clear H'
  try clear p2
  try clear c5
  obtain ⟨x5_1, x6_1, x7_1, rfl, rfl, HA, HK1, HO_5, BK337, HB⟩ := hrel
  cases gk with
  | zero => exact absurd HA.out (by simp [spec_l21Put.l0])
  | succ k1 =>
   have H := HA.out
   clear HA
   simp only [spec_l21Put.l0] at H
   by_cases c6 : x7_1 < (l0.length : Int)
   rotate_left
   ·rw [if_neg c6] at H
    have c6b0 : decide (x7_1 < (l0.length : Int)) = false := dF_q c6
    clear c6
    by_cases c50 : x6_1 = true
    ·subst c50
     have H1 : (some x5_1) = some r := by rw [if_pos rfl] at H; exact H
     clear H
     have H := H1
     clear H1
     obtain rfl := oI_q H
     go_wp2
     go_ret
     exact ⟨_, m3_q, by (with_reducible repeat (first | apply rA_q | apply rN_q | apply rD_q)); exact rM_q HO_5.out (fun _ hk => trivial), m24_q⟩
    replace c50 := fM_q.mpr c50
    subst c50
    have H1 : (if x5_1.length < 5864062014805 then (some (x5_1 ++ [(⟨a1_0, a1_1, a1_2⟩ : S49)])) else (none)) = some r := by rw [if_neg (show ¬ (false = true) by decide)] at H; exact H
    clear H
    have H := H1
    clear H1
    by_cases c51 : x5_1.length < 5864062014805
    rotate_left
    ·rw [if_neg c51] at H
     exact absurd H (by simp)
    rw [if_pos c51] at H
    have LMc51 := Ae_q c51
    clear c51
    obtain ⟨y341, hy341⟩ : ∃ y_ : List (S49), y_ = (x5_1 ++ [(⟨a1_0, a1_1, a1_2⟩ : S49)]) := ⟨_, rfl⟩
    replace H : (some y341) = some r := by first | (rw [hy341]; with_reducible exact H) | (have H2_ := (oS_q _ _).symm.trans H; rw [hy341]; with_reducible exact H2_) | (have H2_ := (oS_q _ _).symm.trans H; with_reducible exact H2_) | with_reducible exact H | (rw [hy341]; exact H) | exact H
    have Ny341 := Ae_q hy341
    clear hy341
    obtain rfl := oI_q H
    have hcz52_0 : cI wr gb337 0 a1_0 := cZ BK337 0 rfl
    have hcz52_1 : cI wr gb337 1 a1_1 := cZ BK337 1 rfl
    have hcz52_2 : cI wr gb337 2 a1_2 := cZ BK337 2 rfl
    have hfz52_0 := bF_q BK337.out 0
    have hfz52_1 := bF_q BK337.out 1
    have hfz52_2 := bF_q BK337.out 2
    go_wp2_with (first | ((with_reducible refine gate_builtin (b := .append) (xs := #[.tmp 59, .tmp 61]) rfl ?_); at_builtin; refine Kd.R_append k49 (w0 := w) w.heap.size rfl (.tmp 59) (.tmp 61) 32 49 (.agg #[(.int .i64 0), (.int .i64 0), (.int .i64 0)]) 24 rfl Tryd.underlying32 info49 rfl (by decide) (by omega) u5 x5_1 (⟨a1_0, a1_1, a1_2⟩ : S49) [.int .i64 a1_0, .int .i64 a1_1, .int .i64 a1_2] (fun k_ => k_ ≠ gb337) (fun _ => False) rfl rfl ?aP (fun _ hk => hk.elim) ?aF ?aO ?aB ?aS ?aL ?_; (case aP => exact k49_mkM _ _ _ (⟨a1_0, a1_1, a1_2⟩ : S49)); (case aB => exact m24_q); (case aF => exact (fun k_ hk => Kd.freshB (g := gb337) (o := .cells #[.int .i64 a1_0, .int .i64 a1_1, .int .i64 a1_2] 49 (0, 0)) (bup BK337.out) k_ hk)); (case aO => exact (rup HO_5.out)); (case aS => exact (bZ_q m24_q)); (case aL => have := LMc51.out; omega); intro v342 w53 ho hb hg hat; rw [← Ny341.out] at ho; replace BK337 := Ae_q (bG_q (g := gb337) (o := .cells #[.int .i64 a1_0, .int .i64 a1_1, .int .i64 a1_2] 49 (0, 0)) (bup BK337.out) hg (Kd.R_away HO_5.out (fun _ hk => hk))); replace HB := Ae_q (hb); have HO343 := Ae_q (ho); clear HO_5; clear ho hb hg hat))
    go_ret
    exact ⟨_, m3_q, by (with_reducible repeat (first | apply rA_q | apply rN_q | apply rD_q)); exact rM_q HO343.out (fun _ hk => trivial), m24_q⟩
   rw [if_pos c6] at H
   have c6b0 : decide (x7_1 < (l0.length : Int)) = true := dT_q c6
   clear c6
   by_cases c7 : 0 ≤ x7_1
   rotate_left
   ·rw [if_neg c7] at H
    exact absurd H (by simp)
   rw [if_pos c7] at H
   have c7b0 : decide (0 ≤ x7_1) = true := dT_q c7
   clear c7
   have HC8 := Ae_q H
   clear H
   have p344 : 0 ≤ (x7_1 : Int) := oD_q (by assumption)
   have q344 : x7_1 < (l0.length : Int) := oD_q (by assumption)
   obtain ⟨ad344, e344, hx344_0, hx344_1, hx344_2⟩ := at_T49 HR0.out x7_1 p344 q344
   cases e344
   replace hx344_0 := cel HB.out hx344_0
   replace hx344_1 := cel HB.out hx344_1
   replace hx344_2 := cel HB.out hx344_2
   replace p344 := eq_true p344
   replace q344 := eq_true q344
   go_upto_region 7 with (first | ((with_reducible refine gD_q (N := 8) rfl ?_); refine bE_q ?hg (N := 8) ?hd (cs := #[.int .i64 0, .int .i64 0, .int .i64 0]) (t := 49) ?hr ?_; (case hd => rfl); (case hg => rfl); (case hr => exact m10_q); intro gb345 hg w9 hbox hb; replace HO_5 := Ae_q (rO_q (Kd.R_elderB (rup HO_5.out) gb345 (Nat.le_of_eq hg.symm)) hb); have BK345 := Ae_q (hbox); have GW345 := Ae_q ((by rw [hg]; exact (bZ_q m24_q) : w.heap.size ≤ gb345)); have GE345 := Ae_q ((by rw [hg]; exact (bZ_q m24_q) : w.heap.size ≤ gb345)); replace HB := Ae_q (bT_q m24_q hb); have NB337_345 := Ae_q ((by rw [hg]; exact nL_q (blk_lt (g := gb337) (o := .cells #[.int .i64 a1_0, .int .i64 a1_1, .int .i64 a1_2] 49 (0, 0)) (bup BK337.out)) : gb337 ≠ gb345)); have NB345_337 := Ae_q ((by rw [hg]; exact nG_q (blk_lt (g := gb337) (o := .cells #[.int .i64 a1_0, .int .i64 a1_1, .int .i64 a1_2] 49 (0, 0)) (bup BK337.out)) : gb345 ≠ gb337)); replace BK337 := Ae_q (bB_q (g := gb337) (o := .cells #[.int .i64 a1_0, .int .i64 a1_1, .int .i64 a1_2] 49 (0, 0)) (bup BK337.out) hb); clear hb hbox hg; have hnb10 := NB345_337.out; have hnc10 := NB337_345.out; have hcz11_0 : cI w9 gb345 0 0 := cZ BK345 0 rfl; have hcz11_1 : cI w9 gb345 1 0 := cZ BK345 1 rfl; have hcz11_2 : cI w9 gb345 2 0 := cZ BK345 2 rfl; have hfz11_0 := bF_q BK345.out 0; have hfz11_1 := bF_q BK345.out 1; have hfz11_2 := bF_q BK345.out 2))
   (try simp only [Act.put, sA_q, sZ_q, sS_q])
   go_cut [35] (fun v35 wc => ∃ (kq : Nat) (x35_7 : Bool), v35 = .bool x35_7 ∧ Aside0 (spec_l21Put.j1 kq l0 x5_1 x6_1 x7_1 x35_7 a1_0 a1_1 a1_2 ((rd_T49 l0 x7_1).f0) ((rd_T49 l0 x7_1).f1) ((rd_T49 l0 x7_1).f2) = some r) ∧ Aside0 (kq ≤ k1) ∧ Aside0 (Kd.R k49 49 wc w.heap.size (fun k_ => k_ ≠ gb337 ∧ k_ ≠ gb345) u5 x5_1) ∧ Aside0 (wc.heap[gb337]? = some (.cells #[.int .i64 a1_0, .int .i64 a1_1, .int .i64 a1_2] 49 (0, 0))) ∧ Aside0 (wc.heap[gb345]? = some (.cells #[.int .i64 ((rd_T49 l0 x7_1).f0), .int .i64 ((rd_T49 l0 x7_1).f1), .int .i64 ((rd_T49 l0 x7_1).f2)] 49 (0, 0))) ∧ Aside0 (Below w.heap.size w wc))
   case first =>
    have H := HC8.out
    clear HC8
    by_cases c12 : x6_1 = true
    ·subst c12
     have H1 : (spec_l21Put.j1 k1 l0 x5_1 true x7_1 false a1_0 a1_1 a1_2 ((rd_T49 l0 x7_1).f0) ((rd_T49 l0 x7_1).f1) ((rd_T49 l0 x7_1).f2)) = some r := by rw [if_pos rfl] at H; exact H
     clear H
     have H := H1
     clear H1
     have H' := Ae_q H
     clear H
     go_wp2
     go_meet
     case rel => exact ⟨_, (false), m2_q, H', ⟨m45_q⟩, ⟨m22_q⟩, ⟨m17_q⟩, ⟨m13_q⟩, ⟨m9_q⟩⟩
    replace c12 := fM_q.mpr c12
    subst c12
    have H1 : (if ((rd_T49 l0 x7_1).f0) = a1_0 then (spec_l21Put.j1 k1 l0 x5_1 false x7_1 (((rd_T49 l0 x7_1).f1) == a1_1) a1_0 a1_1 a1_2 ((rd_T49 l0 x7_1).f0) ((rd_T49 l0 x7_1).f1) ((rd_T49 l0 x7_1).f2)) else (spec_l21Put.j1 k1 l0 x5_1 false x7_1 false a1_0 a1_1 a1_2 ((rd_T49 l0 x7_1).f0) ((rd_T49 l0 x7_1).f1) ((rd_T49 l0 x7_1).f2))) = some r := by rw [if_neg (show ¬ (false = true) by decide)] at H; exact H
    clear H
    have H := H1
    clear H1
    by_cases c13 : ((rd_T49 l0 x7_1).f0) = a1_0
    ·rw [if_pos c13] at H
     have c13b0 : (((rd_T49 l0 x7_1).f0) == a1_0) = true := beq_iff_eq.mpr c13
     have c13b1 : (((rd_T49 l0 x7_1).f0) != a1_0) = false := nE_q.mpr c13
     clear c13
     (first | rw [c13b0] | (simp only [i64_w, i32_w]; rw [c13b0]) | skip)
     have H' := Ae_q H
     clear H
     have hnb14 := NB345_337.out
     have hnc14 := NB337_345.out
     have hcz15_0 : cI w9 gb345 0 0 := cZ BK345 0 rfl
     have hcz15_1 : cI w9 gb345 1 0 := cZ BK345 1 rfl
     have hcz15_2 : cI w9 gb345 2 0 := cZ BK345 2 rfl
     have hfz15_0 := bF_q BK345.out 0
     have hfz15_1 := bF_q BK345.out 1
     have hfz15_2 := bF_q BK345.out 2
     have hcz16_0 : cI w9 gb337 0 a1_0 := cZ BK337 0 rfl
     have hcz16_1 : cI w9 gb337 1 a1_1 := cZ BK337 1 rfl
     have hcz16_2 : cI w9 gb337 2 a1_2 := cZ BK337 2 rfl
     have hfz16_0 := bF_q BK337.out 0
     have hfz16_1 := bF_q BK337.out 1
     have hfz16_2 := bF_q BK337.out 2
     go_wp2
     go_meet
     case rel => exact ⟨_, ((((rd_T49 l0 x7_1).f1) == a1_1)), m2_q, H', ⟨m45_q⟩, ⟨m22_q⟩, ⟨m17_q⟩, ⟨m13_q⟩, ⟨m9_q⟩⟩
    rw [if_neg c13] at H
    have c13b0 : (((rd_T49 l0 x7_1).f0) == a1_0) = false := fN_q.mpr c13
    have c13b1 : (((rd_T49 l0 x7_1).f0) != a1_0) = true := nI_q.mpr c13
    (first | rw [c13b0] | (simp only [i64_w, i32_w]; rw [c13b0]) | skip)
    have H' := Ae_q H
    clear H
    have hnb17 := NB345_337.out
    have hnc17 := NB337_345.out
    have hcz18_0 : cI w9 gb345 0 0 := cZ BK345 0 rfl
    have hcz18_1 : cI w9 gb345 1 0 := cZ BK345 1 rfl
    have hcz18_2 : cI w9 gb345 2 0 := cZ BK345 2 rfl
    have hfz18_0 := bF_q BK345.out 0
    have hfz18_1 := bF_q BK345.out 1
    have hfz18_2 := bF_q BK345.out 2
    have hcz19_0 : cI w9 gb337 0 a1_0 := cZ BK337 0 rfl
    have hcz19_1 : cI w9 gb337 1 a1_1 := cZ BK337 1 rfl
    have hcz19_2 : cI w9 gb337 2 a1_2 := cZ BK337 2 rfl
    have hfz19_0 := bF_q BK337.out 0
    have hfz19_1 := bF_q BK337.out 1
    have hfz19_2 := bF_q BK337.out 2
    go_wp2
    go_meet
    case rel => exact ⟨_, (false), m2_q, H', ⟨m45_q⟩, ⟨m22_q⟩, ⟨m17_q⟩, ⟨m13_q⟩, ⟨m9_q⟩⟩
   case rest =>
    clear HC8
    try clear c1
    try clear p2
    try clear p3
    try clear q3
    try clear hx3
    try clear c5
    try clear c6
    try clear c6b0
    try clear c7
    try clear c7b0
    try clear c10
    try clear c12
    try clear c13
    try clear c13b0
    try clear c13b1
    try clear c14
    try clear c17
    try clear hcz11_0
    try clear hcz11_1
    try clear hcz11_2
    try clear hcz15_0
    try clear hcz15_1
    try clear hcz15_2
    try clear hcz16_0
    try clear hcz16_1
    try clear hcz16_2
    try clear hcz18_0
    try clear hcz18_1
    try clear hcz18_2
    try clear hcz19_0
    try clear hcz19_1
    try clear hcz19_2
    try clear hfz11_0
    try clear hfz11_1
    try clear hfz11_2
    try clear hfz15_0
    try clear hfz15_1
    try clear hfz15_2
    try clear hfz16_0
    try clear hfz16_1
    try clear hfz16_2
    try clear hfz18_0
    try clear hfz18_1
    try clear hfz18_2
    try clear hfz19_0
    try clear hfz19_1
    try clear hfz19_2
    try clear hx344_0
    try clear hx344_1
    try clear hx344_2
    try clear p2
    try clear p344
    try clear q344
    obtain ⟨kq, x35_7, rfl, HA, HJ7, HO_5, BK337, BK345, HB⟩ := hcut
    cases kq with
    | zero => exact absurd HA.out (by simp [spec_l21Put.j1])
    | succ kj7 =>
     have H := HA.out
     clear HA
     simp only [spec_l21Put.j1] at H
     by_cases c20 : x35_7 = true
     ·subst c20
      have H1 : (if x5_1.length < 5864062014805 then (spec_l21Put.l0 kj7 l0 (x5_1 ++ [(⟨((rd_T49 l0 x7_1).f0), ((rd_T49 l0 x7_1).f1), wrap64 (((rd_T49 l0 x7_1).f2) + a1_2)⟩ : S49)]) true (wrap64 (x7_1 + 1)) a1_0 a1_1 a1_2) else (none)) = some r := by rw [if_pos rfl] at H; exact H
      clear H
      have H := H1
      clear H1
      by_cases c21 : x5_1.length < 5864062014805
      rotate_left
      ·rw [if_neg c21] at H
       exact absurd H (by simp)
      rw [if_pos c21] at H
      have LMc21 := Ae_q c21
      clear c21
      obtain ⟨y346, hy346⟩ : ∃ y_ : List (S49), y_ = (x5_1 ++ [(⟨((rd_T49 l0 x7_1).f0), ((rd_T49 l0 x7_1).f1), wrap64 (((rd_T49 l0 x7_1).f2) + a1_2)⟩ : S49)]) := ⟨_, rfl⟩
      replace H : (spec_l21Put.l0 kj7 l0 y346 true (wrap64 (x7_1 + 1)) a1_0 a1_1 a1_2) = some r := by first | (rw [hy346]; with_reducible exact H) | (have H2_ := (oS_q _ _).symm.trans H; rw [hy346]; with_reducible exact H2_) | (have H2_ := (oS_q _ _).symm.trans H; with_reducible exact H2_) | with_reducible exact H | (rw [hy346]; exact H) | exact H
      have Ny346 := Ae_q hy346
      clear hy346
      have H' := Ae_q H
      clear H
      have hnb22 := NB345_337.out
      have hnc22 := NB337_345.out
      have hcz23_0 : cI wc gb345 0 ((rd_T49 l0 x7_1).f0) := cZ BK345 0 rfl
      have hcz23_1 : cI wc gb345 1 ((rd_T49 l0 x7_1).f1) := cZ BK345 1 rfl
      have hcz23_2 : cI wc gb345 2 ((rd_T49 l0 x7_1).f2) := cZ BK345 2 rfl
      have hfz23_0 := bF_q BK345.out 0
      have hfz23_1 := bF_q BK345.out 1
      have hfz23_2 := bF_q BK345.out 2
      have hcz24_0 : cI wc gb337 0 a1_0 := cZ BK337 0 rfl
      have hcz24_1 : cI wc gb337 1 a1_1 := cZ BK337 1 rfl
      have hcz24_2 : cI wc gb337 2 a1_2 := cZ BK337 2 rfl
      have hfz24_0 := bF_q BK337.out 0
      have hfz24_1 := bF_q BK337.out 1
      have hfz24_2 := bF_q BK337.out 2
      go_wp2_with (first | ((with_reducible refine gate_builtin (b := .append) (xs := #[.tmp 53, .tmp 55]) rfl ?_); at_builtin; refine Kd.R_append k49 (w0 := w) w.heap.size rfl (.tmp 53) (.tmp 55) 32 49 (.agg #[(.int .i64 0), (.int .i64 0), (.int .i64 0)]) 24 rfl Tryd.underlying32 info49 rfl (by decide) (by omega) u5 x5_1 (⟨((rd_T49 l0 x7_1).f0), ((rd_T49 l0 x7_1).f1), wrap64 (((rd_T49 l0 x7_1).f2) + a1_2)⟩ : S49) [.int .i64 ((rd_T49 l0 x7_1).f0), .int .i64 ((rd_T49 l0 x7_1).f1), .int .i64 (wrap64 (((rd_T49 l0 x7_1).f2) + a1_2))] (fun k_ => k_ ≠ gb337 ∧ k_ ≠ gb345) (fun _ => False) rfl m10_q ?aP (fun _ hk => hk.elim) ?aF ?aO ?aB ?aS ?aL ?_; (case aP => exact k49_mkM _ _ _ (⟨((rd_T49 l0 x7_1).f0), ((rd_T49 l0 x7_1).f1), wrap64 (((rd_T49 l0 x7_1).f2) + a1_2)⟩ : S49)); (case aB => exact m9_q); (case aF => exact (fun k_ hk => ⟨Kd.freshB (g := gb337) (o := .cells #[.int .i64 a1_0, .int .i64 a1_1, .int .i64 a1_2] 49 (0, 0)) m41_q k_ hk, Kd.freshB (g := gb345) (o := .cells #[.int .i64 ((rd_T49 l0 x7_1).f0), .int .i64 ((rd_T49 l0 x7_1).f1), .int .i64 (wrap64 (((rd_T49 l0 x7_1).f2) + a1_2))] 49 (0, 0)) m33_q k_ hk⟩)); (case aO => exact (by (with_reducible repeat (first | apply rA_q | apply rN_q | apply rD_q)); exact rM_q (Kd.R_far (p := ⟨gb345, 2, none⟩) (rM_q HO_5.out (fun k_ hk => (⟨hk, hk.2⟩ : _ ∧ k_ ≠ gb345))) (fun _ hk => hk.2) (.int .i64 (wrap64 (((rd_T49 l0 x7_1).f2) + a1_2)))) (fun _ hk => ⟨hk.1.1, hk.1.2⟩))); (case aS => exact (bZ_q m9_q)); (case aL => have := LMc21.out; omega); intro v347 w25 ho hb hg hat; rw [← Ny346.out] at ho; replace BK337 := Ae_q (bG_q (g := gb337) (o := .cells #[.int .i64 a1_0, .int .i64 a1_1, .int .i64 a1_2] 49 (0, 0)) m41_q hg (Kd.R_away HO_5.out (fun _ hk => hk.1))); replace BK345 := Ae_q (bG_q (g := gb345) (o := .cells #[.int .i64 ((rd_T49 l0 x7_1).f0), .int .i64 ((rd_T49 l0 x7_1).f1), .int .i64 (wrap64 (((rd_T49 l0 x7_1).f2) + a1_2))] 49 (0, 0)) m33_q hg (Kd.R_away HO_5.out (fun _ hk => hk.2))); replace HB := Ae_q (hb); have HO348 := Ae_q (ho); clear HO_5; clear ho hb hg hat))
      go_roundg kj7
      case measure => have := HK1.out; have := HJ7.out; omega
      case rel => exact ⟨(y346), (true), (wrap64 (x7_1 + 1)), m2_q, m2_q, H', ⟨m94_q⟩, ⟨by (with_reducible repeat (first | apply rA_q | apply rN_q | apply rD_q)); exact rM_q HO348.out (fun _ hk => hk.1)⟩, ⟨bup BK337.out⟩, ⟨m9_q⟩⟩
     replace c20 := fM_q.mpr c20
     subst c20
     have H1 : (if x6_1 = true then (if x5_1.length < 5864062014805 then (spec_l21Put.l0 kj7 l0 (x5_1 ++ [(⟨((rd_T49 l0 x7_1).f0), ((rd_T49 l0 x7_1).f1), ((rd_T49 l0 x7_1).f2)⟩ : S49)]) x6_1 (wrap64 (x7_1 + 1)) a1_0 a1_1 a1_2) else (none)) else ((spec_l21Before.f a1_0 a1_1 a1_2 ((rd_T49 l0 x7_1).f0) ((rd_T49 l0 x7_1).f1) ((rd_T49 l0 x7_1).f2)).bind fun t352 => (if t352 = true then (if x5_1.length < 5864062014805 then ((some (x5_1 ++ [(⟨a1_0, a1_1, a1_2⟩ : S49)] : List (S49))).bind fun y353 => (if y353.length < 5864062014805 then (spec_l21Put.l0 kj7 l0 (y353 ++ [(⟨((rd_T49 l0 x7_1).f0), ((rd_T49 l0 x7_1).f1), ((rd_T49 l0 x7_1).f2)⟩ : S49)]) true (wrap64 (x7_1 + 1)) a1_0 a1_1 a1_2) else (none))) else (none)) else (if x5_1.length < 5864062014805 then (spec_l21Put.l0 kj7 l0 (x5_1 ++ [(⟨((rd_T49 l0 x7_1).f0), ((rd_T49 l0 x7_1).f1), ((rd_T49 l0 x7_1).f2)⟩ : S49)]) x6_1 (wrap64 (x7_1 + 1)) a1_0 a1_1 a1_2) else (none))))) = some r := by rw [if_neg (show ¬ (false = true) by decide)] at H; exact H
     clear H
     have H := H1
     clear H1
     by_cases c26 : x6_1 = true
     ·subst c26
      have H1 : (if x5_1.length < 5864062014805 then (spec_l21Put.l0 kj7 l0 (x5_1 ++ [(⟨((rd_T49 l0 x7_1).f0), ((rd_T49 l0 x7_1).f1), ((rd_T49 l0 x7_1).f2)⟩ : S49)]) true (wrap64 (x7_1 + 1)) a1_0 a1_1 a1_2) else (none)) = some r := by rw [if_pos rfl] at H; exact H
      clear H
      have H := H1
      clear H1
      by_cases c27 : x5_1.length < 5864062014805
      rotate_left
      ·rw [if_neg c27] at H
       exact absurd H (by simp)
      rw [if_pos c27] at H
      have LMc27 := Ae_q c27
      clear c27
      obtain ⟨y349, hy349⟩ : ∃ y_ : List (S49), y_ = (x5_1 ++ [(⟨((rd_T49 l0 x7_1).f0), ((rd_T49 l0 x7_1).f1), ((rd_T49 l0 x7_1).f2)⟩ : S49)]) := ⟨_, rfl⟩
      replace H : (spec_l21Put.l0 kj7 l0 y349 true (wrap64 (x7_1 + 1)) a1_0 a1_1 a1_2) = some r := by first | (rw [hy349]; with_reducible exact H) | (have H2_ := (oS_q _ _).symm.trans H; rw [hy349]; with_reducible exact H2_) | (have H2_ := (oS_q _ _).symm.trans H; with_reducible exact H2_) | with_reducible exact H | (rw [hy349]; exact H) | exact H
      have Ny349 := Ae_q hy349
      clear hy349
      have H' := Ae_q H
      clear H
      have hnb28 := NB345_337.out
      have hnc28 := NB337_345.out
      have hcz29_0 : cI wc gb345 0 ((rd_T49 l0 x7_1).f0) := cZ BK345 0 rfl
      have hcz29_1 : cI wc gb345 1 ((rd_T49 l0 x7_1).f1) := cZ BK345 1 rfl
      have hcz29_2 : cI wc gb345 2 ((rd_T49 l0 x7_1).f2) := cZ BK345 2 rfl
      have hfz29_0 := bF_q BK345.out 0
      have hfz29_1 := bF_q BK345.out 1
      have hfz29_2 := bF_q BK345.out 2
      go_wp2_with (first | ((with_reducible refine gate_builtin (b := .append) (xs := #[.tmp 53, .tmp 55]) rfl ?_); at_builtin; refine Kd.R_append k49 (w0 := w) w.heap.size rfl (.tmp 53) (.tmp 55) 32 49 (.agg #[(.int .i64 0), (.int .i64 0), (.int .i64 0)]) 24 rfl Tryd.underlying32 info49 rfl (by decide) (by omega) u5 x5_1 (⟨((rd_T49 l0 x7_1).f0), ((rd_T49 l0 x7_1).f1), ((rd_T49 l0 x7_1).f2)⟩ : S49) [.int .i64 ((rd_T49 l0 x7_1).f0), .int .i64 ((rd_T49 l0 x7_1).f1), .int .i64 ((rd_T49 l0 x7_1).f2)] (fun k_ => k_ ≠ gb337 ∧ k_ ≠ gb345) (fun _ => False) rfl rfl ?aP (fun _ hk => hk.elim) ?aF ?aO ?aB ?aS ?aL ?_; (case aP => exact m59_q); (case aB => exact m9_q); (case aF => exact m23_q); (case aO => exact (rup HO_5.out)); (case aS => exact (bZ_q m9_q)); (case aL => have := LMc27.out; omega); intro v350 w30 ho hb hg hat; rw [← Ny349.out] at ho; replace BK337 := Ae_q (bG_q (g := gb337) (o := .cells #[.int .i64 a1_0, .int .i64 a1_1, .int .i64 a1_2] 49 (0, 0)) (bup BK337.out) hg (Kd.R_away HO_5.out (fun _ hk => hk.1))); replace BK345 := Ae_q (bG_q (g := gb345) (o := .cells #[.int .i64 ((rd_T49 l0 x7_1).f0), .int .i64 ((rd_T49 l0 x7_1).f1), .int .i64 ((rd_T49 l0 x7_1).f2)] 49 (0, 0)) (bup BK345.out) hg (Kd.R_away HO_5.out (fun _ hk => hk.2))); replace HB := Ae_q (hb); have HO351 := Ae_q (ho); clear HO_5; clear ho hb hg hat))
      go_roundg kj7
      case measure => have := HK1.out; have := HJ7.out; omega
      case rel => exact ⟨(y349), (true), (wrap64 (x7_1 + 1)), m2_q, m2_q, H', ⟨m94_q⟩, ⟨by (with_reducible repeat (first | apply rA_q | apply rN_q | apply rD_q)); exact rM_q HO351.out (fun _ hk => hk.1)⟩, ⟨bup BK337.out⟩, ⟨m9_q⟩⟩
     replace c26 := fM_q.mpr c26
     subst c26
     have H1 : ((spec_l21Before.f a1_0 a1_1 a1_2 ((rd_T49 l0 x7_1).f0) ((rd_T49 l0 x7_1).f1) ((rd_T49 l0 x7_1).f2)).bind fun t352 => (if t352 = true then (if x5_1.length < 5864062014805 then ((some (x5_1 ++ [(⟨a1_0, a1_1, a1_2⟩ : S49)] : List (S49))).bind fun y353 => (if y353.length < 5864062014805 then (spec_l21Put.l0 kj7 l0 (y353 ++ [(⟨((rd_T49 l0 x7_1).f0), ((rd_T49 l0 x7_1).f1), ((rd_T49 l0 x7_1).f2)⟩ : S49)]) true (wrap64 (x7_1 + 1)) a1_0 a1_1 a1_2) else (none))) else (none)) else (if x5_1.length < 5864062014805 then (spec_l21Put.l0 kj7 l0 (x5_1 ++ [(⟨((rd_T49 l0 x7_1).f0), ((rd_T49 l0 x7_1).f1), ((rd_T49 l0 x7_1).f2)⟩ : S49)]) false (wrap64 (x7_1 + 1)) a1_0 a1_1 a1_2) else (none)))) = some r := by rw [if_neg (show ¬ (false = true) by decide)] at H; exact H
     clear H
     have H := H1
     clear H1
     replace H := oB_q.mp H
     obtain ⟨t352, A310, H⟩ := H
     replace H : (if t352 = true then (if x5_1.length < 5864062014805 then ((some (x5_1 ++ [(⟨a1_0, a1_1, a1_2⟩ : S49)] : List (S49))).bind fun y353 => (if y353.length < 5864062014805 then (spec_l21Put.l0 kj7 l0 (y353 ++ [(⟨((rd_T49 l0 x7_1).f0), ((rd_T49 l0 x7_1).f1), ((rd_T49 l0 x7_1).f2)⟩ : S49)]) true (wrap64 (x7_1 + 1)) a1_0 a1_1 a1_2) else (none))) else (none)) else (if x5_1.length < 5864062014805 then (spec_l21Put.l0 kj7 l0 (x5_1 ++ [(⟨((rd_T49 l0 x7_1).f0), ((rd_T49 l0 x7_1).f1), ((rd_T49 l0 x7_1).f2)⟩ : S49)]) false (wrap64 (x7_1 + 1)) a1_0 a1_1 a1_2) else (none))) = some r := H
     have A31 := Ae_q A310
     clear A310
     by_cases c32 : t352 = true
     rotate_left
     ·replace c32 := fM_q.mpr c32
      subst c32
      have H1 : (if x5_1.length < 5864062014805 then (spec_l21Put.l0 kj7 l0 (x5_1 ++ [(⟨((rd_T49 l0 x7_1).f0), ((rd_T49 l0 x7_1).f1), ((rd_T49 l0 x7_1).f2)⟩ : S49)]) false (wrap64 (x7_1 + 1)) a1_0 a1_1 a1_2) else (none)) = some r := by rw [if_neg (show ¬ (false = true) by decide)] at H; exact H
      clear H
      have H := H1
      clear H1
      by_cases c43 : x5_1.length < 5864062014805
      rotate_left
      ·rw [if_neg c43] at H
       exact absurd H (by simp)
      rw [if_pos c43] at H
      have LMc43 := Ae_q c43
      clear c43
      obtain ⟨y359, hy359⟩ : ∃ y_ : List (S49), y_ = (x5_1 ++ [(⟨((rd_T49 l0 x7_1).f0), ((rd_T49 l0 x7_1).f1), ((rd_T49 l0 x7_1).f2)⟩ : S49)]) := ⟨_, rfl⟩
      replace H : (spec_l21Put.l0 kj7 l0 y359 false (wrap64 (x7_1 + 1)) a1_0 a1_1 a1_2) = some r := by first | (rw [hy359]; with_reducible exact H) | (have H2_ := (oS_q _ _).symm.trans H; rw [hy359]; with_reducible exact H2_) | (have H2_ := (oS_q _ _).symm.trans H; with_reducible exact H2_) | with_reducible exact H | (rw [hy359]; exact H) | exact H
      have Ny359 := Ae_q hy359
      clear hy359
      have H' := Ae_q H
      clear H
      have hnb44 := NB337_345.out
      have hnc44 := NB345_337.out
      have hcz45_0 : cI wc gb337 0 a1_0 := cZ BK337 0 rfl
      have hcz45_1 : cI wc gb337 1 a1_1 := cZ BK337 1 rfl
      have hcz45_2 : cI wc gb337 2 a1_2 := cZ BK337 2 rfl
      have hfz45_0 := bF_q BK337.out 0
      have hfz45_1 := bF_q BK337.out 1
      have hfz45_2 := bF_q BK337.out 2
      have hcz46_0 : cI wc gb345 0 ((rd_T49 l0 x7_1).f0) := cZ BK345 0 rfl
      have hcz46_1 : cI wc gb345 1 ((rd_T49 l0 x7_1).f1) := cZ BK345 1 rfl
      have hcz46_2 : cI wc gb345 2 ((rd_T49 l0 x7_1).f2) := cZ BK345 2 rfl
      have hfz46_0 := bF_q BK345.out 0
      have hfz46_1 := bF_q BK345.out 1
      have hfz46_2 := bF_q BK345.out 2
      go_wp2_with (first | (go_at_call 69; (with_reducible refine (spec_l21Before.calls a1_0 a1_1 a1_2 ((rd_T49 l0 x7_1).f0) ((rd_T49 l0 x7_1).f1) ((rd_T49 l0 x7_1).f2) false _ A31.out).mono ?_); rintro e w47 ⟨rfl, hb⟩; replace HO_5 := Ae_q (rO_q (rup HO_5.out) hb); replace BK337 := Ae_q (bB_q (g := gb337) (o := .cells #[.int .i64 a1_0, .int .i64 a1_1, .int .i64 a1_2] 49 (0, 0)) (bup BK337.out) hb); replace BK345 := Ae_q (bB_q (g := gb345) (o := .cells #[.int .i64 ((rd_T49 l0 x7_1).f0), .int .i64 ((rd_T49 l0 x7_1).f1), .int .i64 ((rd_T49 l0 x7_1).f2)] 49 (0, 0)) (bup BK345.out) hb); replace HB := Ae_q (bT_q m9_q hb); (try clear hb); (try clear hb2); (try clear hk); (try clear hi); have hcz48_0 : cI w47 gb345 0 ((rd_T49 l0 x7_1).f0) := cZ BK345 0 rfl; have hcz48_1 : cI w47 gb345 1 ((rd_T49 l0 x7_1).f1) := cZ BK345 1 rfl; have hcz48_2 : cI w47 gb345 2 ((rd_T49 l0 x7_1).f2) := cZ BK345 2 rfl; have hfz48_0 := bF_q BK345.out 0; have hfz48_1 := bF_q BK345.out 1; have hfz48_2 := bF_q BK345.out 2) | ((with_reducible refine gate_builtin (b := .append) (xs := #[.tmp 53, .tmp 55]) rfl ?_); at_builtin; refine Kd.R_append k49 (w0 := w) w.heap.size rfl (.tmp 53) (.tmp 55) 32 49 (.agg #[(.int .i64 0), (.int .i64 0), (.int .i64 0)]) 24 rfl Tryd.underlying32 info49 rfl (by decide) (by omega) u5 x5_1 (⟨((rd_T49 l0 x7_1).f0), ((rd_T49 l0 x7_1).f1), ((rd_T49 l0 x7_1).f2)⟩ : S49) [.int .i64 ((rd_T49 l0 x7_1).f0), .int .i64 ((rd_T49 l0 x7_1).f1), .int .i64 ((rd_T49 l0 x7_1).f2)] (fun k_ => k_ ≠ gb337 ∧ k_ ≠ gb345) (fun _ => False) rfl rfl ?aP (fun _ hk => hk.elim) ?aF ?aO ?aB ?aS ?aL ?_; (case aP => exact m59_q); (case aB => exact m9_q); (case aF => exact m23_q); (case aO => exact (rup HO_5.out)); (case aS => exact (bZ_q m9_q)); (case aL => have := LMc43.out; omega); intro v360 w49 ho hb hg hat; rw [← Ny359.out] at ho; replace BK337 := Ae_q (bG_q (g := gb337) (o := .cells #[.int .i64 a1_0, .int .i64 a1_1, .int .i64 a1_2] 49 (0, 0)) (bup BK337.out) hg (Kd.R_away HO_5.out (fun _ hk => hk.1))); replace BK345 := Ae_q (bG_q (g := gb345) (o := .cells #[.int .i64 ((rd_T49 l0 x7_1).f0), .int .i64 ((rd_T49 l0 x7_1).f1), .int .i64 ((rd_T49 l0 x7_1).f2)] 49 (0, 0)) (bup BK345.out) hg (Kd.R_away HO_5.out (fun _ hk => hk.2))); replace HB := Ae_q (hb); have HO361 := Ae_q (ho); clear HO_5; clear ho hb hg hat))
      go_roundg kj7
      case measure => have := HK1.out; have := HJ7.out; omega
      case rel => exact ⟨(y359), (false), (wrap64 (x7_1 + 1)), m2_q, m2_q, H', ⟨m94_q⟩, ⟨by (with_reducible repeat (first | apply rA_q | apply rN_q | apply rD_q)); exact rM_q HO361.out (fun _ hk => hk.1)⟩, ⟨bup BK337.out⟩, ⟨m9_q⟩⟩
     subst c32
     have H1 : (if x5_1.length < 5864062014805 then ((some (x5_1 ++ [(⟨a1_0, a1_1, a1_2⟩ : S49)] : List (S49))).bind fun y353 => (if y353.length < 5864062014805 then (spec_l21Put.l0 kj7 l0 (y353 ++ [(⟨((rd_T49 l0 x7_1).f0), ((rd_T49 l0 x7_1).f1), ((rd_T49 l0 x7_1).f2)⟩ : S49)]) true (wrap64 (x7_1 + 1)) a1_0 a1_1 a1_2) else (none))) else (none)) = some r := by rw [if_pos rfl] at H; exact H
     clear H
     have H := H1
     clear H1
     by_cases c33 : x5_1.length < 5864062014805
     rotate_left
     ·rw [if_neg c33] at H
      exact absurd H (by simp)
     rw [if_pos c33] at H
     have LMc33 := Ae_q c33
     clear c33
     obtain ⟨y353, hy353⟩ : ∃ y_ : List (S49), y_ = (x5_1 ++ [(⟨a1_0, a1_1, a1_2⟩ : S49)]) := ⟨_, rfl⟩
     replace H : (if y353.length < 5864062014805 then (spec_l21Put.l0 kj7 l0 (y353 ++ [(⟨((rd_T49 l0 x7_1).f0), ((rd_T49 l0 x7_1).f1), ((rd_T49 l0 x7_1).f2)⟩ : S49)]) true (wrap64 (x7_1 + 1)) a1_0 a1_1 a1_2) else (none)) = some r := by first | (rw [hy353]; with_reducible exact H) | (have H2_ := (oS_q _ _).symm.trans H; rw [hy353]; with_reducible exact H2_) | (have H2_ := (oS_q _ _).symm.trans H; with_reducible exact H2_) | with_reducible exact H | (rw [hy353]; exact H) | exact H
     have Ny353 := Ae_q hy353
     clear hy353
     by_cases c34 : y353.length < 5864062014805
     rotate_left
     ·rw [if_neg c34] at H
      exact absurd H (by simp)
     rw [if_pos c34] at H
     have LMc34 := Ae_q c34
     clear c34
     obtain ⟨y356, hy356⟩ : ∃ y_ : List (S49), y_ = (y353 ++ [(⟨((rd_T49 l0 x7_1).f0), ((rd_T49 l0 x7_1).f1), ((rd_T49 l0 x7_1).f2)⟩ : S49)]) := ⟨_, rfl⟩
     replace H : (spec_l21Put.l0 kj7 l0 y356 true (wrap64 (x7_1 + 1)) a1_0 a1_1 a1_2) = some r := by first | (rw [hy356]; with_reducible exact H) | (have H2_ := (oS_q _ _).symm.trans H; rw [hy356]; with_reducible exact H2_) | (have H2_ := (oS_q _ _).symm.trans H; with_reducible exact H2_) | with_reducible exact H | (rw [hy356]; exact H) | exact H
     have Ny356 := Ae_q hy356
     clear hy356
     have H' := Ae_q H
     clear H
     have hnb35 := NB337_345.out
     have hnc35 := NB345_337.out
     have hcz36_0 : cI wc gb337 0 a1_0 := cZ BK337 0 rfl
     have hcz36_1 : cI wc gb337 1 a1_1 := cZ BK337 1 rfl
     have hcz36_2 : cI wc gb337 2 a1_2 := cZ BK337 2 rfl
     have hfz36_0 := bF_q BK337.out 0
     have hfz36_1 := bF_q BK337.out 1
     have hfz36_2 := bF_q BK337.out 2
     have hcz37_0 : cI wc gb345 0 ((rd_T49 l0 x7_1).f0) := cZ BK345 0 rfl
     have hcz37_1 : cI wc gb345 1 ((rd_T49 l0 x7_1).f1) := cZ BK345 1 rfl
     have hcz37_2 : cI wc gb345 2 ((rd_T49 l0 x7_1).f2) := cZ BK345 2 rfl
     have hfz37_0 := bF_q BK345.out 0
     have hfz37_1 := bF_q BK345.out 1
     have hfz37_2 := bF_q BK345.out 2
     go_wp2_with (first | (go_at_call 69; (with_reducible refine (spec_l21Before.calls a1_0 a1_1 a1_2 ((rd_T49 l0 x7_1).f0) ((rd_T49 l0 x7_1).f1) ((rd_T49 l0 x7_1).f2) true _ A31.out).mono ?_); rintro e w38 ⟨rfl, hb⟩; replace HO_5 := Ae_q (rO_q (rup HO_5.out) hb); replace BK337 := Ae_q (bB_q (g := gb337) (o := .cells #[.int .i64 a1_0, .int .i64 a1_1, .int .i64 a1_2] 49 (0, 0)) (bup BK337.out) hb); replace BK345 := Ae_q (bB_q (g := gb345) (o := .cells #[.int .i64 ((rd_T49 l0 x7_1).f0), .int .i64 ((rd_T49 l0 x7_1).f1), .int .i64 ((rd_T49 l0 x7_1).f2)] 49 (0, 0)) (bup BK345.out) hb); replace HB := Ae_q (bT_q m9_q hb); (try clear hb); (try clear hb2); (try clear hk); (try clear hi); have hcz39_0 : cI w38 gb337 0 a1_0 := cZ BK337 0 rfl; have hcz39_1 : cI w38 gb337 1 a1_1 := cZ BK337 1 rfl; have hcz39_2 : cI w38 gb337 2 a1_2 := cZ BK337 2 rfl; have hfz39_0 := bF_q BK337.out 0; have hfz39_1 := bF_q BK337.out 1; have hfz39_2 := bF_q BK337.out 2) | ((with_reducible refine gate_builtin (b := .append) (xs := #[.tmp 49, .tmp 51]) rfl ?_); at_builtin; refine Kd.R_append k49 (w0 := w) w.heap.size rfl (.tmp 49) (.tmp 51) 32 49 (.agg #[(.int .i64 0), (.int .i64 0), (.int .i64 0)]) 24 rfl Tryd.underlying32 info49 rfl (by decide) (by omega) u5 x5_1 (⟨a1_0, a1_1, a1_2⟩ : S49) [.int .i64 a1_0, .int .i64 a1_1, .int .i64 a1_2] (fun k_ => k_ ≠ gb337 ∧ k_ ≠ gb345) (fun _ => False) rfl rfl ?aP (fun _ hk => hk.elim) ?aF ?aO ?aB ?aS ?aL ?_; (case aP => exact k49_mkM _ _ _ (⟨a1_0, a1_1, a1_2⟩ : S49)); (case aB => exact m9_q); (case aF => exact m23_q); (case aO => exact (rup HO_5.out)); (case aS => exact (bZ_q m9_q)); (case aL => have := LMc33.out; omega); intro v354 w40 ho hb hg hat; rw [← Ny353.out] at ho; replace BK337 := Ae_q (bG_q (g := gb337) (o := .cells #[.int .i64 a1_0, .int .i64 a1_1, .int .i64 a1_2] 49 (0, 0)) (bup BK337.out) hg (Kd.R_away HO_5.out (fun _ hk => hk.1))); replace BK345 := Ae_q (bG_q (g := gb345) (o := .cells #[.int .i64 ((rd_T49 l0 x7_1).f0), .int .i64 ((rd_T49 l0 x7_1).f1), .int .i64 ((rd_T49 l0 x7_1).f2)] 49 (0, 0)) (bup BK345.out) hg (Kd.R_away HO_5.out (fun _ hk => hk.2))); replace HB := Ae_q (hb); have HO355 := Ae_q (ho); clear HO_5; clear ho hb hg hat; have hcz41_0 : cI w40 gb345 0 ((rd_T49 l0 x7_1).f0) := cZ BK345 0 rfl; have hcz41_1 : cI w40 gb345 1 ((rd_T49 l0 x7_1).f1) := cZ BK345 1 rfl; have hcz41_2 : cI w40 gb345 2 ((rd_T49 l0 x7_1).f2) := cZ BK345 2 rfl; have hfz41_0 := bF_q BK345.out 0; have hfz41_1 := bF_q BK345.out 1; have hfz41_2 := bF_q BK345.out 2) | ((with_reducible refine gate_builtin (b := .append) (xs := #[.tmp 53, .tmp 55]) rfl ?_); at_builtin; refine Kd.R_append k49 (w0 := w) w.heap.size rfl (.tmp 53) (.tmp 55) 32 49 (.agg #[(.int .i64 0), (.int .i64 0), (.int .i64 0)]) 24 rfl Tryd.underlying32 info49 rfl (by decide) (by omega) v354 y353 (⟨((rd_T49 l0 x7_1).f0), ((rd_T49 l0 x7_1).f1), ((rd_T49 l0 x7_1).f2)⟩ : S49) [.int .i64 ((rd_T49 l0 x7_1).f0), .int .i64 ((rd_T49 l0 x7_1).f1), .int .i64 ((rd_T49 l0 x7_1).f2)] (fun k_ => k_ ≠ gb337 ∧ k_ ≠ gb345) (fun _ => False) rfl rfl ?aP (fun _ hk => hk.elim) ?aF ?aO ?aB ?aS ?aL ?_; (case aP => exact m59_q); (case aB => exact m9_q); (case aF => exact m23_q); (case aO => exact (rup HO355.out)); (case aS => exact (bZ_q m9_q)); (case aL => have := LMc34.out; omega); intro v357 w42 ho hb hg hat; rw [← Ny356.out] at ho; replace BK337 := Ae_q (bG_q (g := gb337) (o := .cells #[.int .i64 a1_0, .int .i64 a1_1, .int .i64 a1_2] 49 (0, 0)) (bup BK337.out) hg (Kd.R_away HO355.out (fun _ hk => hk.1))); replace BK345 := Ae_q (bG_q (g := gb345) (o := .cells #[.int .i64 ((rd_T49 l0 x7_1).f0), .int .i64 ((rd_T49 l0 x7_1).f1), .int .i64 ((rd_T49 l0 x7_1).f2)] 49 (0, 0)) (bup BK345.out) hg (Kd.R_away HO355.out (fun _ hk => hk.2))); replace HB := Ae_q (hb); have HO358 := Ae_q (ho); clear HO355; clear ho hb hg hat))
     go_roundg kj7
     case measure => have := HK1.out; have := HJ7.out; omega
     case rel => exact ⟨(y356), (true), (wrap64 (x7_1 + 1)), m2_q, m2_q, H', ⟨m94_q⟩, ⟨by (with_reducible repeat (first | apply rA_q | apply rN_q | apply rD_q)); exact rM_q HO358.out (fun _ hk => hk.1)⟩, ⟨bup BK337.out⟩, ⟨m9_q⟩⟩

def spec_StorePut.j0 : Nat → List (S49) → Bool → Int → Int → Int → Option ((List (S49)) × Bool)
 | 0, _, _, _, _, _ => none
 | k + 1, x0, x14, x363000, x363001, x363002 => if x14 = true then (some ((([] : List (S49))), false)) else ((spec_l21Put.f k x0 x363000 x363001 x363002).bind fun t368 => ((spec_StoreValid.f k t368).bind fun t371 => (if t371 = true then (some (t368, true)) else (some ((([] : List (S49))), false)))))
def spec_StorePut.f (k : Nat) (l0 : List (S49)) (a1_0 : Int) (a1_1 : Int) (a1_2 : Int) : Option ((List (S49)) × Bool) := (spec_StoreValid.f k l0).bind fun t363 => (if t363 = true then ((spec_l21Lot.f a1_0 a1_1 a1_2).bind fun t364 => (spec_StorePut.j0 k l0 (!t364) a1_0 a1_1 a1_2)) else (spec_StorePut.j0 k l0 true a1_0 a1_1 a1_2))
set_option maxHeartbeats 8000000 in
set_option maxRecDepth 100000 in
theorem spec_StorePut.calls (k : Nat) (A0 : Option Addr) (c0 : Nat) (l0 : List (S49)) (a1_0 : Int) (a1_1 : Int) (a1_2 : Int) (r1 : List (S49)) (r2 : Bool) (w : World) (hr0 : Kd.C k49 w A0 l0.length l0) (hc0 : l0.length ≤ c0) (h : spec_StorePut.f k l0 a1_0 a1_1 a1_2 = some (r1, r2)) :
    Calls Tryd.prog 37 #[.slice A0 l0.length c0, .agg #[.int .i64 a1_0, .int .i64 a1_1, .int .i64 a1_2]] w fun e w' => ∃ v0_ : Value, e = .returned (.tuple #[v0_, .bool r2]) ∧ Kd.R k49 49 w' w.heap.size (fun _ => True) v0_ r1 ∧ Below w.heap.size w w' := by
 have hu49 := Tryd.underlying49
 have HR0 := Ae_q hr0
 have HC0 := Ae_q hc0
 clear hr0 hc0
 have HB := Ae_q (bR_q w.heap.size w)
 have H : ((spec_StoreValid.f k l0).bind fun t363 => (if t363 = true then ((spec_l21Lot.f a1_0 a1_1 a1_2).bind fun t364 => (spec_StorePut.j0 k l0 (!t364) a1_0 a1_1 a1_2)) else (spec_StorePut.j0 k l0 true a1_0 a1_1 a1_2))) = some (r1, r2) := h
 clear h
 have HC3 := Ae_q H
 clear H
 go_enter Tryd.func37, Tryd.ntmps37
 go_upto_region 1 with (first | ((with_reducible refine gD_q (N := 3) rfl ?_); refine bE_q ?hg (N := 3) ?hd (cs := #[.int .i64 a1_0, .int .i64 a1_1, .int .i64 a1_2]) (t := 49) ?hr ?_; (case hd => rfl); (case hg => rfl); (case hr => exact m10_q); intro gb362 hg w4 hbox hb; have BK362 := Ae_q (hbox); have GW362 := Ae_q ((by rw [hg]; exact (bZ_q (bel HB.out)) : w.heap.size ≤ gb362)); have GE362 := Ae_q ((by rw [hg]; exact (bZ_q (bel HB.out)) : w.heap.size ≤ gb362)); replace HB := Ae_q (bT_q (bel HB.out) hb); clear hb hbox hg))
 (try simp only [Act.put, sA_q, sZ_q, sS_q])
 go_cut [14] (fun v14 wc => ∃ (kq : Nat) (x14_2 : Bool), v14 = .bool x14_2 ∧ Aside0 (spec_StorePut.j0 kq l0 x14_2 a1_0 a1_1 a1_2 = some (r1, r2)) ∧ Aside0 (kq ≤ k) ∧ Aside0 (wc.heap[gb362]? = some (.cells #[.int .i64 a1_0, .int .i64 a1_1, .int .i64 a1_2] 49 (0, 0))) ∧ Aside0 (Below w.heap.size w wc))
 case first =>
  have H := HC3.out
  clear HC3
  replace H := oB_q.mp H
  obtain ⟨t363, A50, H⟩ := H
  replace H : (if t363 = true then ((spec_l21Lot.f a1_0 a1_1 a1_2).bind fun t364 => (spec_StorePut.j0 k l0 (!t364) a1_0 a1_1 a1_2)) else (spec_StorePut.j0 k l0 true a1_0 a1_1 a1_2)) = some (r1, r2) := H
  have A5 := Ae_q A50
  clear A50
  by_cases c6 : t363 = true
  rotate_left
  ·replace c6 := fM_q.mpr c6
   subst c6
   have H1 : (spec_StorePut.j0 k l0 true a1_0 a1_1 a1_2) = some (r1, r2) := by rw [if_neg (show ¬ (false = true) by decide)] at H; exact H
   clear H
   have H := H1
   clear H1
   have H' := Ae_q H
   clear H
   go_wp2_with (first | ((with_reducible refine gC_q (f := 54) rfl ?_); refine gL_q (some 8) rfl rfl Tryd.func54 m6_q rfl #[.slice A0 l0.length c0] rfl m0_q ?_; (with_reducible refine (spec_StoreValid.calls k _ _ l0 false _ ?side1 ?side2 A5.out).mono ?_); (case side1 => exact m37_q); (case side2 => exact m60_q); rintro e w' ⟨rfl, hb⟩; refine ⟨_, rfl, ?_⟩; replace BK362 := Ae_q (bB_q (g := gb362) (o := .cells #[.int .i64 a1_0, .int .i64 a1_1, .int .i64 a1_2] 49 (0, 0)) (bup BK362.out) hb); replace HB := Ae_q (bT_q m11_q hb); (try clear hb); (try clear hb2); (try clear hk); (try clear hi)))
   go_meet
   case rel => exact ⟨_, (true), m2_q, H', ⟨m48_q⟩, ⟨bup BK362.out⟩, ⟨m11_q⟩⟩
  subst c6
  have H1 : ((spec_l21Lot.f a1_0 a1_1 a1_2).bind fun t364 => (spec_StorePut.j0 k l0 (!t364) a1_0 a1_1 a1_2)) = some (r1, r2) := by rw [if_pos rfl] at H; exact H
  clear H
  have H := H1
  clear H1
  replace H := oB_q.mp H
  obtain ⟨t364, A70, H⟩ := H
  replace H : (spec_StorePut.j0 k l0 (!t364) a1_0 a1_1 a1_2) = some (r1, r2) := H
  have A7 := Ae_q A70
  clear A70
  have H' := Ae_q H
  clear H
  go_wp2_with (first | ((with_reducible refine gC_q (f := 54) rfl ?_); refine gL_q (some 8) rfl rfl Tryd.func54 m6_q rfl #[.slice A0 l0.length c0] rfl m0_q ?_; (with_reducible refine (spec_StoreValid.calls k _ _ l0 true _ ?side1 ?side2 A5.out).mono ?_); (case side1 => exact m37_q); (case side2 => exact m60_q); rintro e w8 ⟨rfl, hb⟩; refine ⟨_, rfl, ?_⟩; replace BK362 := Ae_q (bB_q (g := gb362) (o := .cells #[.int .i64 a1_0, .int .i64 a1_1, .int .i64 a1_2] 49 (0, 0)) (bup BK362.out) hb); replace HB := Ae_q (bT_q m11_q hb); (try clear hb); (try clear hb2); (try clear hk); (try clear hi); have hcz9_0 : cI w8 gb362 0 a1_0 := cZ BK362 0 rfl; have hcz9_1 : cI w8 gb362 1 a1_1 := cZ BK362 1 rfl; have hcz9_2 : cI w8 gb362 2 a1_2 := cZ BK362 2 rfl; have hfz9_0 := bF_q BK362.out 0; have hfz9_1 := bF_q BK362.out 1; have hfz9_2 := bF_q BK362.out 2) | (go_at_call 55; (with_reducible refine (spec_l21Lot.calls a1_0 a1_1 a1_2 t364 _ A7.out).mono ?_); rintro e w' ⟨rfl, hb⟩; replace BK362 := Ae_q (bB_q (g := gb362) (o := .cells #[.int .i64 a1_0, .int .i64 a1_1, .int .i64 a1_2] 49 (0, 0)) (bup BK362.out) hb); replace HB := Ae_q (bT_q m11_q hb); (try clear hb); (try clear hb2); (try clear hk); (try clear hi)))
  go_meet
  case rel => exact ⟨_, (!t364), m2_q, H', ⟨m48_q⟩, ⟨bup BK362.out⟩, ⟨m11_q⟩⟩
 case rest =>
  clear HC3
  try clear p2
  try clear c3
  try clear c5
  try clear c6
  try clear hcz9_0
  try clear hcz9_1
  try clear hcz9_2
  try clear hfz9_0
  try clear hfz9_1
  try clear hfz9_2
  obtain ⟨kq, x14_2, rfl, HA, HJ2, BK362, HB⟩ := hcut
  cases kq with
  | zero => exact absurd HA.out (by simp [spec_StorePut.j0])
  | succ kj2 =>
   have H := HA.out
   clear HA
   simp only [spec_StorePut.j0] at H
   by_cases c12 : x14_2 = true
   ·subst c12
    have H1 : (some ((([] : List (S49))), false)) = some (r1, r2) := by rw [if_pos rfl] at H; exact H
    clear H
    have H := H1
    clear H1
    obtain ⟨y365, hy365⟩ : ∃ y_ : List (S49), y_ = (([] : List (S49))) := ⟨_, rfl⟩
    replace H : (some (y365, false)) = some (r1, r2) := by first | (rw [hy365]; with_reducible exact H) | (have H2_ := (oS_q _ _).symm.trans H; rw [hy365]; with_reducible exact H2_) | (have H2_ := (oS_q _ _).symm.trans H; with_reducible exact H2_) | with_reducible exact H | (rw [hy365]; exact H) | exact H
    have Ny365 := Ae_q hy365
    clear hy365
    simp only [oE_q, pE_q] at H
    obtain ⟨rfl, rfl⟩ := H
    go_wp2_with (first | ((with_reducible refine gD_q (N := 15) rfl ?_); refine Kd.R_lit k49 _ 49 ?hg (N := 15) ?hd (xs := ([] : List (S49))) (inner := []) (ok := fun _ => True) (okp := fun _ => True) ?hr ?hp (fun _ hk => hk) trivial (bR_q _ _) (nR_q _) (by simp) ?_; (case hd => rfl); (case hg => rfl); (case hr => exact m10_q); (case hp => exact m46_q); intro v366 w13 ho14 hb hg_ hnew_; clear hg_ hnew_; (first | rw [← Ny365.out] at ho14 | (simp only [Int.reduceToNat] at ho14; rw [← Ny365.out] at ho14)); have HO367 := Ae_q (rL_q (Kd.R_newB ho14 (g := gb362) (o := .cells #[.int .i64 a1_0, .int .i64 a1_1, .int .i64 a1_2] 49 (0, 0)) (bup BK362.out)) (bZ_q m11_q)); replace BK362 := Ae_q (bB_q (g := gb362) (o := .cells #[.int .i64 a1_0, .int .i64 a1_1, .int .i64 a1_2] 49 (0, 0)) (bup BK362.out) hb); replace HB := Ae_q (bT_q m11_q hb); clear hb ho14))
    go_ret2
    exact ⟨_, m3_q, by (with_reducible repeat (first | apply rA_q | apply rN_q | apply rD_q)); exact rM_q HO367.out (fun _ hk => trivial), m11_q⟩
   replace c12 := fM_q.mpr c12
   subst c12
   have H1 : ((spec_l21Put.f kj2 l0 a1_0 a1_1 a1_2).bind fun t368 => ((spec_StoreValid.f kj2 t368).bind fun t371 => (if t371 = true then (some (t368, true)) else (some ((([] : List (S49))), false))))) = some (r1, r2) := by rw [if_neg (show ¬ (false = true) by decide)] at H; exact H
   clear H
   have H := H1
   clear H1
   replace H := oB_q.mp H
   obtain ⟨t368, A150, H⟩ := H
   replace H : ((spec_StoreValid.f kj2 t368).bind fun t371 => (if t371 = true then (some (t368, true)) else (some ((([] : List (S49))), false)))) = some (r1, r2) := H
   have A15 := Ae_q A150
   clear A150
   replace H := oB_q.mp H
   obtain ⟨t371, A160, H⟩ := H
   replace H : (if t371 = true then (some (t368, true)) else (some ((([] : List (S49))), false))) = some (r1, r2) := H
   have A16 := Ae_q A160
   clear A160
   by_cases c17 : t371 = true
   ·subst c17
    have H1 : (some (t368, true)) = some (r1, r2) := by rw [if_pos rfl] at H; exact H
    clear H
    have H := H1
    clear H1
    simp only [oE_q, pE_q] at H
    obtain ⟨rfl, rfl⟩ := H
    have hcz18_0 : cI wc gb362 0 a1_0 := cZ BK362 0 rfl
    have hcz18_1 : cI wc gb362 1 a1_1 := cZ BK362 1 rfl
    have hcz18_2 : cI wc gb362 2 a1_2 := cZ BK362 2 rfl
    have hfz18_0 := bF_q BK362.out 0
    have hfz18_1 := bF_q BK362.out 1
    have hfz18_2 := bF_q BK362.out 2
    go_wp2_with (first | ((with_reducible refine gC_q (f := 56) rfl ?_); refine gL_q (some 18) rfl rfl Tryd.func56 m6_q rfl #[.slice A0 l0.length c0, .agg #[.int .i64 a1_0, .int .i64 a1_1, .int .i64 a1_2]] rfl m0_q ?_; (with_reducible refine (spec_l21Put.calls kj2 _ _ l0 a1_0 a1_1 a1_2 t368 _ ?side1 ?side2 A15.out).mono ?_); (case side1 => exact m37_q); (case side2 => exact m60_q); rintro e w' ⟨v369, rfl, ho0, hb⟩; refine ⟨_, rfl, ?_⟩; have HO370 := Ae_q (rL_q (Kd.R_newB ho0 (g := gb362) (o := .cells #[.int .i64 a1_0, .int .i64 a1_1, .int .i64 a1_2] 49 (0, 0)) (bup BK362.out)) (bZ_q m11_q)); replace BK362 := Ae_q (bB_q (g := gb362) (o := .cells #[.int .i64 a1_0, .int .i64 a1_1, .int .i64 a1_2] 49 (0, 0)) (bup BK362.out) hb); replace HB := Ae_q (bT_q m11_q hb); (try clear hb); (try clear hb2); (try clear hk); (try clear hi); (try clear ho0); obtain ⟨Ao20, co20, eo20⟩ := rS_q HO370.out; subst eo20) | ((with_reducible refine gC_q (f := 54) rfl ?_); refine gL_q (some 20) rfl rfl Tryd.func54 m6_q rfl #[.slice Ao20 t368.length co20] rfl m0_q ?_; (with_reducible refine (spec_StoreValid.calls kj2 _ _ t368 true _ ?side1 ?side2 A16.out).mono ?_); (case side1 => exact cup (rR_q HO370.out).2.2); (case side2 => exact (rR_q HO370.out).2.1); rintro e w' ⟨rfl, hb⟩; refine ⟨_, rfl, ?_⟩; replace HO370 := Ae_q (rO_q (rup HO370.out) hb); replace BK362 := Ae_q (bB_q (g := gb362) (o := .cells #[.int .i64 a1_0, .int .i64 a1_1, .int .i64 a1_2] 49 (0, 0)) (bup BK362.out) hb); replace HB := Ae_q (bT_q m11_q hb); (try clear hb); (try clear hb2); (try clear hk); (try clear hi)))
    go_ret2
    exact ⟨_, m3_q, by (with_reducible repeat (first | apply rA_q | apply rN_q | apply rD_q)); exact rM_q HO370.out (fun _ hk => trivial), m11_q⟩
   replace c17 := fM_q.mpr c17
   subst c17
   have H1 : (some ((([] : List (S49))), false)) = some (r1, r2) := by rw [if_neg (show ¬ (false = true) by decide)] at H; exact H
   clear H
   have H := H1
   clear H1
   obtain ⟨y372, hy372⟩ : ∃ y_ : List (S49), y_ = (([] : List (S49))) := ⟨_, rfl⟩
   replace H : (some (y372, false)) = some (r1, r2) := by first | (rw [hy372]; with_reducible exact H) | (have H2_ := (oS_q _ _).symm.trans H; rw [hy372]; with_reducible exact H2_) | (have H2_ := (oS_q _ _).symm.trans H; with_reducible exact H2_) | with_reducible exact H | (rw [hy372]; exact H) | exact H
   have Ny372 := Ae_q hy372
   clear hy372
   simp only [oE_q, pE_q] at H
   obtain ⟨rfl, rfl⟩ := H
   have hcz22_0 : cI wc gb362 0 a1_0 := cZ BK362 0 rfl
   have hcz22_1 : cI wc gb362 1 a1_1 := cZ BK362 1 rfl
   have hcz22_2 : cI wc gb362 2 a1_2 := cZ BK362 2 rfl
   have hfz22_0 := bF_q BK362.out 0
   have hfz22_1 := bF_q BK362.out 1
   have hfz22_2 := bF_q BK362.out 2
   go_wp2_with (first | ((with_reducible refine gC_q (f := 56) rfl ?_); refine gL_q (some 18) rfl rfl Tryd.func56 m6_q rfl #[.slice A0 l0.length c0, .agg #[.int .i64 a1_0, .int .i64 a1_1, .int .i64 a1_2]] rfl m0_q ?_; (with_reducible refine (spec_l21Put.calls kj2 _ _ l0 a1_0 a1_1 a1_2 t368 _ ?side1 ?side2 A15.out).mono ?_); (case side1 => exact m37_q); (case side2 => exact m60_q); rintro e w' ⟨v369, rfl, ho0, hb⟩; refine ⟨_, rfl, ?_⟩; have HO370 := Ae_q (rL_q (Kd.R_newB ho0 (g := gb362) (o := .cells #[.int .i64 a1_0, .int .i64 a1_1, .int .i64 a1_2] 49 (0, 0)) (bup BK362.out)) (bZ_q m11_q)); replace BK362 := Ae_q (bB_q (g := gb362) (o := .cells #[.int .i64 a1_0, .int .i64 a1_1, .int .i64 a1_2] 49 (0, 0)) (bup BK362.out) hb); replace HB := Ae_q (bT_q m11_q hb); (try clear hb); (try clear hb2); (try clear hk); (try clear hi); (try clear ho0); obtain ⟨Ao24, co24, eo24⟩ := rS_q HO370.out; subst eo24) | ((with_reducible refine gC_q (f := 54) rfl ?_); refine gL_q (some 20) rfl rfl Tryd.func54 m6_q rfl #[.slice Ao24 t368.length co24] rfl m0_q ?_; (with_reducible refine (spec_StoreValid.calls kj2 _ _ t368 false _ ?side1 ?side2 A16.out).mono ?_); (case side1 => exact cup (rR_q HO370.out).2.2); (case side2 => exact (rR_q HO370.out).2.1); rintro e w25 ⟨rfl, hb⟩; refine ⟨_, rfl, ?_⟩; replace HO370 := Ae_q (rO_q (rup HO370.out) hb); replace BK362 := Ae_q (bB_q (g := gb362) (o := .cells #[.int .i64 a1_0, .int .i64 a1_1, .int .i64 a1_2] 49 (0, 0)) (bup BK362.out) hb); replace HB := Ae_q (bT_q m11_q hb); (try clear hb); (try clear hb2); (try clear hk); (try clear hi)) | ((with_reducible refine gD_q (N := 22) rfl ?_); refine Kd.R_lit k49 _ 49 ?hg (N := 22) ?hd (xs := ([] : List (S49))) (inner := []) (ok := fun _ => True) (okp := fun _ => True) ?hr ?hp (fun _ hk => hk) trivial (bR_q _ _) (nR_q _) (by simp) ?_; (case hd => rfl); (case hg => rfl); (case hr => exact m10_q); (case hp => exact m46_q); intro v373 w26 ho27 hb hg_ hnew_; clear hg_ hnew_; (first | rw [← Ny372.out] at ho27 | (simp only [Int.reduceToNat] at ho27; rw [← Ny372.out] at ho27)); have HO374 := Ae_q (rL_q (Kd.R_newB (rW_q ho27 (rT_q (rup HO370.out))) (g := gb362) (o := .cells #[.int .i64 a1_0, .int .i64 a1_1, .int .i64 a1_2] 49 (0, 0)) (bup BK362.out)) (bZ_q m11_q)); replace HO370 := Ae_q (rE_q (rup HO370.out) (rB_q ho27) hb); replace BK362 := Ae_q (bB_q (g := gb362) (o := .cells #[.int .i64 a1_0, .int .i64 a1_1, .int .i64 a1_2] 49 (0, 0)) (bup BK362.out) hb); replace HB := Ae_q (bT_q m11_q hb); clear hb ho27))
   go_ret2
   exact ⟨_, m3_q, by (with_reducible repeat (first | apply rA_q | apply rN_q | apply rD_q)); exact rM_q HO374.out (fun _ hk => trivial), m11_q⟩

def spec_StoreHas.l0 : Nat → List (S49) → Int → Int → Int → Int → Option (Int)
 | 0, _, _, _, _, _ => none
 | k + 1, x0, x1, x2, x7, x8 => if x8 < (x0.length : Int) then (if 0 ≤ x8 then (if ((rd_T49 x0 x8).f0) = x1 then (if ((rd_T49 x0 x8).f1) ≥ x2 then (spec_StoreHas.l0 k x0 x1 x2 (wrap64 (x7 + ((rd_T49 x0 x8).f2))) (wrap64 (x8 + 1))) else (spec_StoreHas.l0 k x0 x1 x2 x7 (wrap64 (x8 + 1)))) else (spec_StoreHas.l0 k x0 x1 x2 x7 (wrap64 (x8 + 1)))) else (none)) else (some x7)
def spec_StoreHas.f (k : Nat) (l0 : List (S49)) (a1 : Int) (a2 : Int) : Option (Int) := (spec_StoreValid.f k l0).bind fun t375 => (if t375 = true then (spec_StoreHas.l0 k l0 a1 a2 0 0) else (some (-1)))
set_option maxHeartbeats 8000000 in
set_option maxRecDepth 100000 in
theorem spec_StoreHas.calls (k : Nat) (A0 : Option Addr) (c0 : Nat) (l0 : List (S49)) (a1 : Int) (a2 : Int) (r : Int) (w : World) (hr0 : Kd.C k49 w A0 l0.length l0) (hc0 : l0.length ≤ c0) (h : spec_StoreHas.f k l0 a1 a2 = some r) :
    Calls Tryd.prog 40 #[.slice A0 l0.length c0, .int .i64 a1, .int .i64 a2] w fun e w' => e = .returned (.int .i64 r) ∧ Below w.heap.size w w' := by
 have HR0 := Ae_q hr0
 have HC0 := Ae_q hc0
 clear hr0 hc0
 have HB := Ae_q (bR_q w.heap.size w)
 have H : ((spec_StoreValid.f k l0).bind fun t375 => (if t375 = true then (spec_StoreHas.l0 k l0 a1 a2 0 0) else (some (-1)))) = some r := h
 clear h
 replace H := oB_q.mp H
 obtain ⟨t375, A40, H⟩ := H
 replace H : (if t375 = true then (spec_StoreHas.l0 k l0 a1 a2 0 0) else (some (-1))) = some r := H
 have A4 := Ae_q A40
 clear A40
 by_cases c5 : t375 = true
 rotate_left
 ·replace c5 := fM_q.mpr c5
  subst c5
  have H1 : (some (-1)) = some r := by rw [if_neg (show ¬ (false = true) by decide)] at H; exact H
  clear H
  have H := H1
  clear H1
  obtain rfl := oI_q H
  go_enter Tryd.func40, Tryd.ntmps40
  go_wp2_with (first | ((with_reducible refine gC_q (f := 54) rfl ?_); refine gL_q (some 10) rfl rfl Tryd.func54 m6_q rfl #[.slice A0 l0.length c0] rfl m0_q ?_; (with_reducible refine (spec_StoreValid.calls k _ _ l0 false _ ?side1 ?side2 A4.out).mono ?_); (case side1 => exact m36_q); (case side2 => exact m60_q); rintro e w' ⟨rfl, hb⟩; refine ⟨_, rfl, ?_⟩; replace HB := Ae_q (bT_q (bel HB.out) hb); (try clear hb); (try clear hb2); (try clear hk); (try clear hi)))
  go_ret
  exact ⟨m3_q, bel HB.out⟩
 subst c5
 have H1 : (spec_StoreHas.l0 k l0 a1 a2 0 0) = some r := by rw [if_pos rfl] at H; exact H
 clear H
 have H := H1
 clear H1
 have H' := Ae_q H
 clear H
 go_enter Tryd.func40, Tryd.ntmps40
 go_wp2_with (first | ((with_reducible refine gC_q (f := 54) rfl ?_); refine gL_q (some 10) rfl rfl Tryd.func54 m6_q rfl #[.slice A0 l0.length c0] rfl m0_q ?_; (with_reducible refine (spec_StoreValid.calls k _ _ l0 true _ ?side1 ?side2 A4.out).mono ?_); (case side1 => exact m36_q); (case side2 => exact m60_q); rintro e w' ⟨rfl, hb⟩; refine ⟨_, rfl, ?_⟩; replace HB := Ae_q (bT_q (bel HB.out) hb); (try clear hb); (try clear hb2); (try clear hk); (try clear hi)))
 go_loopg [7, 8] k (fun kq v7 v8 w' => ∃ (x7_1 : Int) (x8_1 : Int), v7 = .int .i64 x7_1 ∧ v8 = .int .i64 x8_1 ∧ Aside0 (spec_StoreHas.l0 kq l0 a1 a2 x7_1 x8_1 = some r) ∧ Aside0 (kq ≤ k) ∧ Aside0 (Below w.heap.size w w'))
 case atStart => exact ⟨(0), (0), m2_q, m2_q, H', ⟨nR_q _⟩, ⟨bel HB.out⟩⟩
 case round =>
  clear H'
  try clear p2
  try clear c4
  try clear c5
  obtain ⟨x7_1, x8_1, rfl, rfl, HA, HK1, HB⟩ := hrel
  cases gk with
  | zero => exact absurd HA.out (by simp [spec_StoreHas.l0])
  | succ k1 =>
   have H := HA.out
   clear HA
   simp only [spec_StoreHas.l0] at H
   by_cases c7 : x8_1 < (l0.length : Int)
   rotate_left
   ·rw [if_neg c7] at H
    have c7b0 : decide (x8_1 < (l0.length : Int)) = false := dF_q c7
    clear c7
    obtain rfl := oI_q H
    go_wp2
    go_ret
    exact ⟨m3_q, bel HB.out⟩
   rw [if_pos c7] at H
   have c7b0 : decide (x8_1 < (l0.length : Int)) = true := dT_q c7
   clear c7
   by_cases c8 : 0 ≤ x8_1
   rotate_left
   ·rw [if_neg c8] at H
    exact absurd H (by simp)
   rw [if_pos c8] at H
   have c8b0 : decide (0 ≤ x8_1) = true := dT_q c8
   clear c8
   by_cases c9 : ((rd_T49 l0 x8_1).f0) = a1
   rotate_left
   ·rw [if_neg c9] at H
    have c9b0 : (((rd_T49 l0 x8_1).f0) == a1) = false := fN_q.mpr c9
    have c9b1 : (((rd_T49 l0 x8_1).f0) != a1) = true := nI_q.mpr c9
    have H' := Ae_q H
    clear H
    have p376 : 0 ≤ (x8_1 : Int) := oD_q (by assumption)
    have q376 : x8_1 < (l0.length : Int) := oD_q (by assumption)
    obtain ⟨ad376, e376, hx376_0, hx376_1, hx376_2⟩ := at_T49 HR0.out x8_1 p376 q376
    cases e376
    replace hx376_0 := cel HB.out hx376_0
    replace hx376_1 := cel HB.out hx376_1
    replace hx376_2 := cel HB.out hx376_2
    replace p376 := eq_true p376
    replace q376 := eq_true q376
    go_wp2
    go_roundg k1
    case measure => have := HK1.out; omega
    case rel => exact ⟨(x7_1), (wrap64 (x8_1 + 1)), m2_q, m2_q, H', ⟨m38_q⟩, ⟨bel HB.out⟩⟩
   rw [if_pos c9] at H
   have c9b0 : (((rd_T49 l0 x8_1).f0) == a1) = true := beq_iff_eq.mpr c9
   have c9b1 : (((rd_T49 l0 x8_1).f0) != a1) = false := nE_q.mpr c9
   clear c9
   by_cases c10 : ((rd_T49 l0 x8_1).f1) ≥ a2
   rotate_left
   ·rw [if_neg c10] at H
    have c10b0 : decide (a2 ≤ ((rd_T49 l0 x8_1).f1)) = false := dF_q c10
    clear c10
    have H' := Ae_q H
    clear H
    have p376 : 0 ≤ (x8_1 : Int) := oD_q (by assumption)
    have q376 : x8_1 < (l0.length : Int) := oD_q (by assumption)
    obtain ⟨ad376, e376, hx376_0, hx376_1, hx376_2⟩ := at_T49 HR0.out x8_1 p376 q376
    cases e376
    replace hx376_0 := cel HB.out hx376_0
    replace hx376_1 := cel HB.out hx376_1
    replace hx376_2 := cel HB.out hx376_2
    replace p376 := eq_true p376
    replace q376 := eq_true q376
    have p377 : 0 ≤ (x8_1 : Int) := oD_q (by assumption)
    have q377 : x8_1 < (l0.length : Int) := oD_q (by assumption)
    obtain ⟨ad377, e377, hx377_0, hx377_1, hx377_2⟩ := at_T49 HR0.out x8_1 p377 q377
    obtain rfl : ad376 = ad377 := (by injection e377)
    replace hx377_0 := cel HB.out hx377_0
    replace hx377_1 := cel HB.out hx377_1
    replace hx377_2 := cel HB.out hx377_2
    replace p377 := eq_true p377
    replace q377 := eq_true q377
    go_wp2
    go_roundg k1
    case measure => have := HK1.out; omega
    case rel => exact ⟨(x7_1), (wrap64 (x8_1 + 1)), m2_q, m2_q, H', ⟨m38_q⟩, ⟨bel HB.out⟩⟩
   rw [if_pos c10] at H
   have c10b0 : decide (a2 ≤ ((rd_T49 l0 x8_1).f1)) = true := dT_q c10
   clear c10
   have H' := Ae_q H
   clear H
   have p376 : 0 ≤ (x8_1 : Int) := oD_q (by assumption)
   have q376 : x8_1 < (l0.length : Int) := oD_q (by assumption)
   obtain ⟨ad376, e376, hx376_0, hx376_1, hx376_2⟩ := at_T49 HR0.out x8_1 p376 q376
   cases e376
   replace hx376_0 := cel HB.out hx376_0
   replace hx376_1 := cel HB.out hx376_1
   replace hx376_2 := cel HB.out hx376_2
   replace p376 := eq_true p376
   replace q376 := eq_true q376
   have p377 : 0 ≤ (x8_1 : Int) := oD_q (by assumption)
   have q377 : x8_1 < (l0.length : Int) := oD_q (by assumption)
   obtain ⟨ad377, e377, hx377_0, hx377_1, hx377_2⟩ := at_T49 HR0.out x8_1 p377 q377
   obtain rfl : ad376 = ad377 := (by injection e377)
   replace hx377_0 := cel HB.out hx377_0
   replace hx377_1 := cel HB.out hx377_1
   replace hx377_2 := cel HB.out hx377_2
   replace p377 := eq_true p377
   replace q377 := eq_true q377
   have p378 : 0 ≤ (x8_1 : Int) := oD_q (by assumption)
   have q378 : x8_1 < (l0.length : Int) := oD_q (by assumption)
   obtain ⟨ad378, e378, hx378_0, hx378_1, hx378_2⟩ := at_T49 HR0.out x8_1 p378 q378
   obtain rfl : ad376 = ad378 := (by injection e378)
   replace hx378_0 := cel HB.out hx378_0
   replace hx378_1 := cel HB.out hx378_1
   replace hx378_2 := cel HB.out hx378_2
   replace p378 := eq_true p378
   replace q378 := eq_true q378
   go_wp2
   go_roundg k1
   case measure => have := HK1.out; omega
   case rel => exact ⟨(wrap64 (x7_1 + ((rd_T49 l0 x8_1).f2))), (wrap64 (x8_1 + 1)), m2_q, m2_q, H', ⟨m38_q⟩, ⟨bel HB.out⟩⟩

end Go.Proofs.YtbclhpibilbdbaaDoor.PSc
