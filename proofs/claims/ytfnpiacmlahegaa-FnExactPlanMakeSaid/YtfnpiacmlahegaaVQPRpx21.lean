import Derived.Test.YtfnpiacmlahegaaVQPRpx0
import Derived.Test.YtfnpiacmlahegaaVQPRpx3
import Derived.Test.YtfnpiacmlahegaaVQPRpx5
import Derived.Test.YtfnpiacmlahegaaVQPRpx6
import Derived.Test.YtfnpiacmlahegaaVQPRpx15
import Derived.Test.YtfnpiacmlahegaaVQPRpx20
namespace Go.Proofs.Ytfnpiacmlahegaa.PRp
open Go.RowKit Go.Proofs.YtfnpiacmlahegaaW.PrintWords Go.Proofs.YtfnpiacmlahegaaW.PrintLast Go.Proofs.YtfnpiacmlahegaaW.PrintMore
attribute [local go_sem] max2_int min2_int max_two min_two max_three min_three max_four min_four
set_option linter.unusedVariables false
set_option linter.unusedSimpArgs false

mutual
def impl_PlanMake.j0 : Nat → List (S63) → Bool → Int → List Int → Option (List Int × Bool)
 | 0, _, _, _, _ => none
 | k + 1, x0, x15, x369000, x369001 => if x15 = true then (some (([] : List Int), false)) else (impl_PlanMake.l0 k x0 (([] : List Int)) (x0.length : Int) 0 x369000 x369001)
def impl_PlanMake.l0 : Nat → List (S63) → List Int → Int → Int → Int → List Int → Option (List Int × Bool)
 | 0, _, _, _, _, _, _ => none
 | k + 1, x0, x6, x18, x19, x369000, x369001 => if x19 < x18 then ((impl_place.f k x0 x369000 x369001 x6 0 0).bind fun t374 => (if t374 < 0 then (some (([] : List Int), false)) else (if x6.length < 17592186044416 then (impl_PlanMake.l0 k x0 (x6 ++ [t374]) x18 (wrap64 (x19 + 1)) x369000 x369001) else (none)))) else (some (x6, true))
end
def impl_PlanMake.f (k : Nat) (l0 : List (S63)) (a1_0 : Int) (l1_1 : List Int) : Option (List Int × Bool) := (impl_StepsValid.f k l0).bind fun t369 => (if t369 = true then ((impl_KitchenValid.f a1_0 l1_1).bind fun t370 => (impl_PlanMake.j0 k l0 (!t370) a1_0 l1_1)) else (impl_PlanMake.j0 k l0 true a1_0 l1_1))
set_option maxHeartbeats 8000000 in
set_option maxRecDepth 100000 in
theorem impl_PlanMake.calls (k : Nat) (A0 : Option Addr) (c0 : Nat) (l0 : List (S63)) (a1_0 : Int) (A1_1 : Option Addr) (c1_1 : Nat) (l1_1 : List Int) (r1 : List Int) (r2 : Bool) (w : World) (hr0 : Kd.C k63 w A0 l0.length l0) (hc0 : l0.length ≤ c0) (hr1_1 : Kd.C kI_q w A1_1 l1_1.length l1_1) (hc1_1 : l1_1.length ≤ c1_1) (h : impl_PlanMake.f k l0 a1_0 l1_1 = some (r1, r2)) :
    Calls Try.prog 24 #[.slice A0 l0.length c0, .agg #[.int .i64 a1_0, .slice A1_1 l1_1.length c1_1]] w fun e w' => ∃ v0_ : Value, e = .returned (.tuple #[v0_, .bool r2]) ∧ Kd.R kI_q 3 w' w.heap.size (fun _ => True) v0_ r1 ∧ Below w.heap.size w w' := by
 have hu43 := Try.underlying43
 have HR0 := Ae_q hr0
 have HC0 := Ae_q hc0
 clear hr0 hc0
 have HR1_1 := Ae_q hr1_1
 have HC1_1 := Ae_q hc1_1
 clear hr1_1 hc1_1
 have HB := Ae_q (bR_q w.heap.size w)
 have H : ((impl_StepsValid.f k l0).bind fun t369 => (if t369 = true then ((impl_KitchenValid.f a1_0 l1_1).bind fun t370 => (impl_PlanMake.j0 k l0 (!t370) a1_0 l1_1)) else (impl_PlanMake.j0 k l0 true a1_0 l1_1))) = some (r1, r2) := h
 clear h
 have HC3 := Ae_q H
 clear H
 go_enter Try.func24, Try.ntmps24
 go_upto_region 1 with (first | ((with_reducible refine gD_q (N := 3) rfl ?_); refine bE_q ?hg (N := 3) ?hd (cs := #[.int .i64 a1_0, .slice A1_1 l1_1.length c1_1]) (t := 43) ?hr ?_; (case hd => rfl); (case hg => rfl); (case hr => exact m6_q); intro gb368 hg w' hbox hb; have BK368 := Ae_q (hbox); have GW368 := Ae_q ((by rw [hg]; exact (bZ_q (bel HB.out)) : w.heap.size ≤ gb368)); have GE368 := Ae_q ((by rw [hg]; exact (bZ_q (bel HB.out)) : w.heap.size ≤ gb368)); replace HB := Ae_q (bT_q (bel HB.out) hb); clear hb hbox hg))
 (try simp only [Act.put, sA_q, sZ_q, sS_q])
 go_cut [15] (fun v15 wc => ∃ (kq : Nat) (x15_2 : Bool), v15 = .bool x15_2 ∧ Aside0 (impl_PlanMake.j0 kq l0 x15_2 a1_0 l1_1 = some (r1, r2)) ∧ Aside0 (kq ≤ k) ∧ Aside0 (wc.heap[gb368]? = some (.cells #[.int .i64 a1_0, (.slice A1_1 l1_1.length c1_1)] 43 (0, 0))) ∧ Aside0 (Below w.heap.size w wc))
 case first =>
  have H := HC3.out
  clear HC3
  replace H := oB_q.mp H
  obtain ⟨t369, A50, H⟩ := H
  replace H : (if t369 = true then ((impl_KitchenValid.f a1_0 l1_1).bind fun t370 => (impl_PlanMake.j0 k l0 (!t370) a1_0 l1_1)) else (impl_PlanMake.j0 k l0 true a1_0 l1_1)) = some (r1, r2) := H
  have A5 := Ae_q A50
  clear A50
  by_cases c6 : t369 = true
  rotate_left
  ·replace c6 := fM_q.mpr c6
   subst c6
   have H1 : (impl_PlanMake.j0 k l0 true a1_0 l1_1) = some (r1, r2) := by rw [if_neg (show ¬ (false = true) by decide)] at H; exact H
   clear H
   have H := H1
   clear H1
   have H' := Ae_q H
   clear H
   go_wp2_with (first | ((with_reducible refine gC_q (f := 48) rfl ?_); refine gL_q (some 9) rfl rfl Try.func48 m10_q rfl #[.slice A0 l0.length c0] rfl m0_q ?_; (with_reducible refine (impl_StepsValid.calls k _ _ l0 false _ ?side1 ?side2 A5.out).mono ?_); (case side1 => exact m23_q); (case side2 => exact m56_q); rintro e w' ⟨rfl, hb⟩; refine ⟨_, rfl, ?_⟩; replace BK368 := Ae_q (bB_q (g := gb368) (o := .cells #[.int .i64 a1_0, .slice A1_1 l1_1.length c1_1] 43 (0, 0)) (bup BK368.out) hb); replace HB := Ae_q (bT_q m14_q hb); (try clear hb); (try clear hb2); (try clear hk); (try clear hi)))
   go_meet
   case rel => exact ⟨_, (true), m4_q, H', ⟨m93_q⟩, ⟨bup BK368.out⟩, ⟨m14_q⟩⟩
  subst c6
  have H1 : ((impl_KitchenValid.f a1_0 l1_1).bind fun t370 => (impl_PlanMake.j0 k l0 (!t370) a1_0 l1_1)) = some (r1, r2) := by rw [if_pos rfl] at H; exact H
  clear H
  have H := H1
  clear H1
  replace H := oB_q.mp H
  obtain ⟨t370, A70, H⟩ := H
  replace H : (impl_PlanMake.j0 k l0 (!t370) a1_0 l1_1) = some (r1, r2) := H
  have A7 := Ae_q A70
  clear A70
  have H' := Ae_q H
  clear H
  go_wp2_with (first | ((with_reducible refine gC_q (f := 48) rfl ?_); refine gL_q (some 9) rfl rfl Try.func48 m10_q rfl #[.slice A0 l0.length c0] rfl m0_q ?_; (with_reducible refine (impl_StepsValid.calls k _ _ l0 true _ ?side1 ?side2 A5.out).mono ?_); (case side1 => exact m23_q); (case side2 => exact m56_q); rintro e w8 ⟨rfl, hb⟩; refine ⟨_, rfl, ?_⟩; replace BK368 := Ae_q (bB_q (g := gb368) (o := .cells #[.int .i64 a1_0, .slice A1_1 l1_1.length c1_1] 43 (0, 0)) (bup BK368.out) hb); replace HB := Ae_q (bT_q m14_q hb); (try clear hb); (try clear hb2); (try clear hk); (try clear hi); have hcz9_0 : cI w8 gb368 0 a1_0 := cZ BK368 0 rfl; have hcz9_1 : w8.cell? ⟨gb368, 1, none⟩ = some (.slice A1_1 l1_1.length c1_1) := (bC_q BK368.out 1).trans rfl; have hfz9_0 := bF_q BK368.out 0; have hfz9_1 := bF_q BK368.out 1) | (go_at_call 49; (with_reducible refine (impl_KitchenValid.calls a1_0 _ _ l1_1 t370 _ ?side1 ?side2 A7.out).mono ?_); (case side1 => exact m31_q); (case side2 => exact m65_q); rintro e w' ⟨rfl, hb⟩; replace BK368 := Ae_q (bB_q (g := gb368) (o := .cells #[.int .i64 a1_0, .slice A1_1 l1_1.length c1_1] 43 (0, 0)) (bup BK368.out) hb); replace HB := Ae_q (bT_q m14_q hb); (try clear hb); (try clear hb2); (try clear hk); (try clear hi)))
  go_meet
  case rel => exact ⟨_, (!t370), m4_q, H', ⟨m93_q⟩, ⟨bup BK368.out⟩, ⟨m14_q⟩⟩
 case rest =>
  clear HC3
  try clear c1
  try clear c2
  try clear p2
  try clear c4
  try clear c6
  try clear hcz9_0
  try clear hcz9_1
  try clear hfz9_0
  try clear hfz9_1
  obtain ⟨kq, x15_2, rfl, HA, HJ2, BK368, HB⟩ := hcut
  cases kq with
  | zero => exact absurd HA.out (by simp [impl_PlanMake.j0])
  | succ kj2 =>
   have H := HA.out
   clear HA
   simp only [impl_PlanMake.j0] at H
   by_cases c12 : x15_2 = true
   ·subst c12
    have H1 : (some (([] : List Int), false)) = some (r1, r2) := by rw [if_pos rfl] at H; exact H
    clear H
    have H := H1
    clear H1
    simp only [oE_q, pE_q] at H
    obtain ⟨rfl, rfl⟩ := H
    go_wp2
    go_ret2
    exact ⟨_, m3_q, m68_q, m14_q⟩
   replace c12 := fM_q.mpr c12
   subst c12
   have H1 : (impl_PlanMake.l0 kj2 l0 (([] : List Int)) (l0.length : Int) 0 a1_0 l1_1) = some (r1, r2) := by rw [if_neg (show ¬ (false = true) by decide)] at H; exact H
   clear H
   have H := H1
   clear H1
   obtain ⟨y371, hy371⟩ : ∃ y_ : List Int, y_ = (([] : List Int)) := ⟨_, rfl⟩
   replace H : (impl_PlanMake.l0 kj2 l0 y371 (l0.length : Int) 0 a1_0 l1_1) = some (r1, r2) := by first | (rw [hy371]; with_reducible exact H) | (have H2_ := (oS_q _ _).symm.trans H; rw [hy371]; with_reducible exact H2_) | (have H2_ := (oS_q _ _).symm.trans H; with_reducible exact H2_) | with_reducible exact H | (rw [hy371]; exact H) | exact H
   have Ny371 := Ae_q hy371
   clear hy371
   have H' := Ae_q H
   clear H
   go_wp2_with (first | ((with_reducible refine gD_q (N := 16) rfl ?_); refine Kd.R_lit kI_q _ 3 ?hg (N := 16) ?hd (xs := ([] : List Int)) (inner := []) (ok := fun _ => True) (okp := fun _ => True) ?hr ?hp (fun _ hk => hk) trivial (bR_q _ _) (nR_q _) (by simp) ?_; (case hd => rfl); (case hg => rfl); (case hr => exact m6_q); (case hp => exact m92_q); intro v372 w13 ho14 hb hg_ hnew_; clear hg_ hnew_; (first | rw [← Ny371.out] at ho14 | (simp only [Int.reduceToNat] at ho14; rw [← Ny371.out] at ho14)); have HO373 := Ae_q (rL_q ho14 (bZ_q m14_q)); replace BK368 := Ae_q (bB_q (g := gb368) (o := .cells #[.int .i64 a1_0, .slice A1_1 l1_1.length c1_1] 43 (0, 0)) (bup BK368.out) hb); replace HB := Ae_q (bT_q m14_q hb); clear hb ho14))
   go_loopg [6, 19] kj2 (fun kq v6 v19 w' => ∃ (x6_2 : List Int) (x19_2 : Int), v19 = .int .i64 x19_2 ∧ Aside0 (impl_PlanMake.l0 kq l0 x6_2 (l0.length : Int) x19_2 a1_0 l1_1 = some (r1, r2)) ∧ Aside0 (kq ≤ kj2) ∧ Aside0 (Kd.R kI_q 3 w' w.heap.size (fun _ => True) v6 x6_2) ∧ Aside0 (w'.heap[gb368]? = some (.cells #[.int .i64 a1_0, (.slice A1_1 l1_1.length c1_1)] 43 (0, 0))) ∧ Aside0 (Below w.heap.size w w'))
   case atStart => exact ⟨(y371), (0), m4_q, H', ⟨nR_q _⟩, ⟨rup HO373.out⟩, ⟨bup BK368.out⟩, ⟨m14_q⟩⟩
   case round =>
    clear H'
    try clear c1
    try clear c2
    try clear p2
    try clear c4
    try clear c6
    try clear c12
    try clear hcz9_0
    try clear hcz9_1
    try clear hfz9_0
    try clear hfz9_1
    try clear p2
    obtain ⟨x6_2, x19_2, rfl, HA, HK2, HO_6, BK368, HB⟩ := hrel
    cases gk with
    | zero => exact absurd HA.out (by simp [impl_PlanMake.l0])
    | succ k2 =>
     have H := HA.out
     clear HA
     simp only [impl_PlanMake.l0] at H
     by_cases c15 : x19_2 < (l0.length : Int)
     rotate_left
     ·rw [if_neg c15] at H
      have c15b0 : decide (x19_2 < (l0.length : Int)) = false := dF_q c15
      clear c15
      simp only [oE_q, pE_q] at H
      obtain ⟨rfl, rfl⟩ := H
      go_wp2
      go_ret2
      exact ⟨_, m3_q, rup HO_6.out, m14_q⟩
     rw [if_pos c15] at H
     have c15b0 : decide (x19_2 < (l0.length : Int)) = true := dT_q c15
     clear c15
     replace H := oB_q.mp H
     obtain ⟨t374, A160, H⟩ := H
     replace H : (if t374 < 0 then (some (([] : List Int), false)) else (if x6_2.length < 17592186044416 then (impl_PlanMake.l0 k2 l0 (x6_2 ++ [t374]) (l0.length : Int) (wrap64 (x19_2 + 1)) a1_0 l1_1) else (none))) = some (r1, r2) := H
     have A16 := Ae_q A160
     clear A160
     by_cases c17 : t374 < 0
     ·rw [if_pos c17] at H
      have c17b0 : decide (t374 < 0) = true := dT_q c17
      clear c17
      simp only [oE_q, pE_q] at H
      obtain ⟨rfl, rfl⟩ := H
      have hcz18_0 : cI wr gb368 0 a1_0 := cZ BK368 0 rfl
      have hcz18_1 : wr.cell? ⟨gb368, 1, none⟩ = some (.slice A1_1 l1_1.length c1_1) := (bC_q BK368.out 1).trans rfl
      have hfz18_0 := bF_q BK368.out 0
      have hfz18_1 := bF_q BK368.out 1
      obtain ⟨Ao19, co19, eo19⟩ := rS_q HO_6.out
      subst eo19
      go_wp2_with (first | ((with_reducible refine gC_q (f := 50) rfl ?_); refine gL_q (some 24) rfl rfl Try.func50 m10_q rfl #[.slice A0 l0.length c0, .agg #[.int .i64 a1_0, .slice A1_1 l1_1.length c1_1], .slice Ao19 x6_2.length co19, .int .i64 0, .func (.func 51) #[] #[]] rfl m0_q ?_; (with_reducible refine (impl_place.calls k2 _ _ l0 a1_0 _ _ l1_1 _ _ x6_2 0 0 t374 _ ?side1 ?side2 ?side3 ?side4 ?side5 ?side6 A16.out).mono ?_); (case side1 => exact m23_q); (case side2 => exact m56_q); (case side3 => exact m31_q); (case side4 => exact m65_q); (case side5 => exact m57_q); (case side6 => exact m87_q); rintro e w' ⟨rfl, hb⟩; refine ⟨_, rfl, ?_⟩; replace HO_6 := Ae_q (rO_q (rup HO_6.out) hb); replace BK368 := Ae_q (bB_q (g := gb368) (o := .cells #[.int .i64 a1_0, .slice A1_1 l1_1.length c1_1] 43 (0, 0)) (bup BK368.out) hb); replace HB := Ae_q (bT_q m14_q hb); (try clear hb); (try clear hb2); (try clear hk); (try clear hi)))
      go_ret2
      exact ⟨_, m3_q, m68_q, m14_q⟩
     rw [if_neg c17] at H
     have c17b0 : decide (t374 < 0) = false := dF_q c17
     clear c17
     by_cases c21 : x6_2.length < 17592186044416
     rotate_left
     ·rw [if_neg c21] at H
      exact absurd H (by simp)
     rw [if_pos c21] at H
     have LMc21 := Ae_q c21
     clear c21
     obtain ⟨y375, hy375⟩ : ∃ y_ : List Int, y_ = (x6_2 ++ [t374]) := ⟨_, rfl⟩
     replace H : (impl_PlanMake.l0 k2 l0 y375 (l0.length : Int) (wrap64 (x19_2 + 1)) a1_0 l1_1) = some (r1, r2) := by first | (rw [hy375]; with_reducible exact H) | (have H2_ := (oS_q _ _).symm.trans H; rw [hy375]; with_reducible exact H2_) | (have H2_ := (oS_q _ _).symm.trans H; with_reducible exact H2_) | with_reducible exact H | (rw [hy375]; exact H) | exact H
     have Ny375 := Ae_q hy375
     clear hy375
     have H' := Ae_q H
     clear H
     have hcz22_0 : cI wr gb368 0 a1_0 := cZ BK368 0 rfl
     have hcz22_1 : wr.cell? ⟨gb368, 1, none⟩ = some (.slice A1_1 l1_1.length c1_1) := (bC_q BK368.out 1).trans rfl
     have hfz22_0 := bF_q BK368.out 0
     have hfz22_1 := bF_q BK368.out 1
     obtain ⟨Ao23, co23, eo23⟩ := rS_q HO_6.out
     subst eo23
     go_wp2_with (first | ((with_reducible refine gC_q (f := 50) rfl ?_); refine gL_q (some 24) rfl rfl Try.func50 m10_q rfl #[.slice A0 l0.length c0, .agg #[.int .i64 a1_0, .slice A1_1 l1_1.length c1_1], .slice Ao23 x6_2.length co23, .int .i64 0, .func (.func 51) #[] #[]] rfl m0_q ?_; (with_reducible refine (impl_place.calls k2 _ _ l0 a1_0 _ _ l1_1 _ _ x6_2 0 0 t374 _ ?side1 ?side2 ?side3 ?side4 ?side5 ?side6 A16.out).mono ?_); (case side1 => exact m23_q); (case side2 => exact m56_q); (case side3 => exact m31_q); (case side4 => exact m65_q); (case side5 => exact m57_q); (case side6 => exact m87_q); rintro e w' ⟨rfl, hb⟩; refine ⟨_, rfl, ?_⟩; replace HO_6 := Ae_q (rO_q (rup HO_6.out) hb); replace BK368 := Ae_q (bB_q (g := gb368) (o := .cells #[.int .i64 a1_0, .slice A1_1 l1_1.length c1_1] 43 (0, 0)) (bup BK368.out) hb); replace HB := Ae_q (bT_q m14_q hb); (try clear hb); (try clear hb2); (try clear hk); (try clear hi)) | ((with_reducible refine gate_builtin (b := .append) (xs := #[.tmp 27, .tmp 29]) rfl ?_); at_builtin; refine Kd.R_append kI_q (w0 := w) w.heap.size rfl (.tmp 27) (.tmp 29) 23 3 (.int .i64 0) 8 rfl Try.underlying23 info3 rfl (by decide) (by omega) (.slice Ao23 x6_2.length co23) x6_2 t374 [.int .i64 t374] (fun _ => True) (fun _ => False) rfl rfl ?aP (fun _ hk => hk.elim) ?aF ?aO ?aB ?aS ?aL ?_; (case aP => exact rfl); (case aB => exact m14_q); (case aF => exact (fun _ _ => trivial)); (case aO => exact (rup HO_6.out)); (case aS => exact (bZ_q m14_q)); (case aL => have := LMc21.out; omega); intro v376 w25 ho hb hg hat; rw [← Ny375.out] at ho; replace BK368 := Ae_q (bG_q (g := gb368) (o := .cells #[.int .i64 a1_0, .slice A1_1 l1_1.length c1_1] 43 (0, 0)) (bup BK368.out) hg (Kd.R_ne HO_6.out BK368.out (by decide))); replace HB := Ae_q (hb); have HO377 := Ae_q (ho); clear HO_6; clear ho hb hg hat))
     go_roundg k2
     case measure => have := HJ2.out; have := HK2.out; omega
     case rel => exact ⟨(y375), (wrap64 (x19_2 + 1)), m4_q, H', ⟨by have := HJ2.out; have := HK2.out; omega⟩, ⟨rup HO377.out⟩, ⟨bup BK368.out⟩, ⟨m14_q⟩⟩

def laws_eqKitchen.f (k : Nat) (a0_0 : Int) (l0_1 : List Int) (a1_0 : Int) (l1_1 : List Int) : Option (Bool) := if a0_0 = a1_0 then ((laws_eqIntS.f k l0_1 l1_1).bind fun t380 => (if t380 = true then (some true) else (some false))) else (some false)
set_option maxHeartbeats 8000000 in
set_option maxRecDepth 100000 in
theorem laws_eqKitchen.calls (k : Nat) (a0_0 : Int) (A0_1 : Option Addr) (c0_1 : Nat) (l0_1 : List Int) (a1_0 : Int) (A1_1 : Option Addr) (c1_1 : Nat) (l1_1 : List Int) (r : Bool) (w : World) (hr0_1 : Kd.C kI_q w A0_1 l0_1.length l0_1) (hc0_1 : l0_1.length ≤ c0_1) (hr1_1 : Kd.C kI_q w A1_1 l1_1.length l1_1) (hc1_1 : l1_1.length ≤ c1_1) (h : laws_eqKitchen.f k a0_0 l0_1 a1_0 l1_1 = some r) :
    Calls Try.prog 25 #[.agg #[.int .i64 a0_0, .slice A0_1 l0_1.length c0_1], .agg #[.int .i64 a1_0, .slice A1_1 l1_1.length c1_1]] w fun e w' => e = .returned (.bool r) ∧ Below w.heap.size w w' := by
 have hu43 := Try.underlying43
 have HR0_1 := Ae_q hr0_1
 have HC0_1 := Ae_q hc0_1
 clear hr0_1 hc0_1
 have HR1_1 := Ae_q hr1_1
 have HC1_1 := Ae_q hc1_1
 clear hr1_1 hc1_1
 have HB := Ae_q (bR_q w.heap.size w)
 have H : (if a0_0 = a1_0 then ((laws_eqIntS.f k l0_1 l1_1).bind fun t380 => (if t380 = true then (some true) else (some false))) else (some false)) = some r := h
 clear h
 by_cases c3 : a0_0 = a1_0
 rotate_left
 ·rw [if_neg c3] at H
  have c3b0 : (a0_0 == a1_0) = false := fN_q.mpr c3
  have c3b1 : (a0_0 != a1_0) = true := nI_q.mpr c3
  obtain rfl := oI_q H
  go_enter Try.func25, Try.ntmps25
  go_wp2_with (first | ((with_reducible refine gD_q (N := 2) rfl ?_); refine bE_q ?hg (N := 2) ?hd (cs := #[.int .i64 a0_0, .slice A0_1 l0_1.length c0_1]) (t := 43) ?hr ?_; (case hd => rfl); (case hg => rfl); (case hr => exact m6_q); intro gb378 hg w' hbox hb; have BK378 := Ae_q (hbox); have GW378 := Ae_q ((by rw [hg]; exact (bZ_q (bel HB.out)) : w.heap.size ≤ gb378)); have GE378 := Ae_q ((by rw [hg]; exact (bZ_q (bel HB.out)) : w.heap.size ≤ gb378)); replace HB := Ae_q (bT_q (bel HB.out) hb); clear hb hbox hg) | ((with_reducible refine gD_q (N := 3) rfl ?_); refine bE_q ?hg (N := 3) ?hd (cs := #[.int .i64 a1_0, .slice A1_1 l1_1.length c1_1]) (t := 43) ?hr ?_; (case hd => rfl); (case hg => rfl); (case hr => exact m6_q); intro gb379 hg w17 hbox hb; have BK379 := Ae_q (hbox); have GW379 := Ae_q ((by rw [hg]; exact (bZ_q m21_q) : w.heap.size ≤ gb379)); have GE379 := Ae_q ((by rw [hg]; exact (bZ_q m21_q) : w.heap.size ≤ gb379)); replace HB := Ae_q (bT_q m21_q hb); have NB378_379 := Ae_q ((by rw [hg]; exact nL_q (blk_lt (g := gb378) (o := .cells #[.int .i64 a0_0, .slice A0_1 l0_1.length c0_1] 43 (0, 0)) (bup BK378.out)) : gb378 ≠ gb379)); have NB379_378 := Ae_q ((by rw [hg]; exact nG_q (blk_lt (g := gb378) (o := .cells #[.int .i64 a0_0, .slice A0_1 l0_1.length c0_1] 43 (0, 0)) (bup BK378.out)) : gb379 ≠ gb378)); replace BK378 := Ae_q (bB_q (g := gb378) (o := .cells #[.int .i64 a0_0, .slice A0_1 l0_1.length c0_1] 43 (0, 0)) (bup BK378.out) hb); clear hb hbox hg; have hnb18 := NB378_379.out; have hnc18 := NB379_378.out; have hcz19_0 : cI w17 gb378 0 a0_0 := cZ BK378 0 rfl; have hcz19_1 : w17.cell? ⟨gb378, 1, none⟩ = some (.slice A0_1 l0_1.length c0_1) := (bC_q BK378.out 1).trans rfl; have hfz19_0 := bF_q BK378.out 0; have hfz19_1 := bF_q BK378.out 1; have hcz20_0 : cI w17 gb379 0 a1_0 := cZ BK379 0 rfl; have hcz20_1 : w17.cell? ⟨gb379, 1, none⟩ = some (.slice A1_1 l1_1.length c1_1) := (bC_q BK379.out 1).trans rfl; have hfz20_0 := bF_q BK379.out 0; have hfz20_1 := bF_q BK379.out 1))
  go_ret
  exact ⟨m3_q, m54_q⟩
 rw [if_pos c3] at H
 have c3b0 : (a0_0 == a1_0) = true := beq_iff_eq.mpr c3
 have c3b1 : (a0_0 != a1_0) = false := nE_q.mpr c3
 clear c3
 replace H := oB_q.mp H
 obtain ⟨t380, A40, H⟩ := H
 replace H : (if t380 = true then (some true) else (some false)) = some r := H
 have A4 := Ae_q A40
 clear A40
 by_cases c5 : t380 = true
 ·subst c5
  have H1 : (some true) = some r := by rw [if_pos rfl] at H; exact H
  clear H
  have H := H1
  clear H1
  obtain rfl := oI_q H
  go_enter Try.func25, Try.ntmps25
  go_wp2_with (first | ((with_reducible refine gD_q (N := 2) rfl ?_); refine bE_q ?hg (N := 2) ?hd (cs := #[.int .i64 a0_0, .slice A0_1 l0_1.length c0_1]) (t := 43) ?hr ?_; (case hd => rfl); (case hg => rfl); (case hr => exact m6_q); intro gb378 hg w' hbox hb; have BK378 := Ae_q (hbox); have GW378 := Ae_q ((by rw [hg]; exact (bZ_q (bel HB.out)) : w.heap.size ≤ gb378)); have GE378 := Ae_q ((by rw [hg]; exact (bZ_q (bel HB.out)) : w.heap.size ≤ gb378)); replace HB := Ae_q (bT_q (bel HB.out) hb); clear hb hbox hg) | ((with_reducible refine gD_q (N := 3) rfl ?_); refine bE_q ?hg (N := 3) ?hd (cs := #[.int .i64 a1_0, .slice A1_1 l1_1.length c1_1]) (t := 43) ?hr ?_; (case hd => rfl); (case hg => rfl); (case hr => exact m6_q); intro gb379 hg w7 hbox hb; have BK379 := Ae_q (hbox); have GW379 := Ae_q ((by rw [hg]; exact (bZ_q m21_q) : w.heap.size ≤ gb379)); have GE379 := Ae_q ((by rw [hg]; exact (bZ_q m21_q) : w.heap.size ≤ gb379)); replace HB := Ae_q (bT_q m21_q hb); have NB378_379 := Ae_q ((by rw [hg]; exact nL_q (blk_lt (g := gb378) (o := .cells #[.int .i64 a0_0, .slice A0_1 l0_1.length c0_1] 43 (0, 0)) (bup BK378.out)) : gb378 ≠ gb379)); have NB379_378 := Ae_q ((by rw [hg]; exact nG_q (blk_lt (g := gb378) (o := .cells #[.int .i64 a0_0, .slice A0_1 l0_1.length c0_1] 43 (0, 0)) (bup BK378.out)) : gb379 ≠ gb378)); replace BK378 := Ae_q (bB_q (g := gb378) (o := .cells #[.int .i64 a0_0, .slice A0_1 l0_1.length c0_1] 43 (0, 0)) (bup BK378.out) hb); clear hb hbox hg; have hnb8 := NB378_379.out; have hnc8 := NB379_378.out; have hcz9_0 : cI w7 gb378 0 a0_0 := cZ BK378 0 rfl; have hcz9_1 : w7.cell? ⟨gb378, 1, none⟩ = some (.slice A0_1 l0_1.length c0_1) := (bC_q BK378.out 1).trans rfl; have hfz9_0 := bF_q BK378.out 0; have hfz9_1 := bF_q BK378.out 1; have hcz10_0 : cI w7 gb379 0 a1_0 := cZ BK379 0 rfl; have hcz10_1 : w7.cell? ⟨gb379, 1, none⟩ = some (.slice A1_1 l1_1.length c1_1) := (bC_q BK379.out 1).trans rfl; have hfz10_0 := bF_q BK379.out 0; have hfz10_1 := bF_q BK379.out 1) | ((with_reducible refine gC_q (f := 16) rfl ?_); refine gL_q (some 14) rfl rfl Try.func16 m10_q rfl #[.slice A0_1 l0_1.length c0_1, .slice A1_1 l1_1.length c1_1] rfl m0_q ?_; (with_reducible refine (laws_eqIntS.calls k _ _ l0_1 _ _ l1_1 true _ ?side1 ?side2 ?side3 ?side4 A4.out).mono ?_); (case side1 => exact m97_q); (case side2 => exact HC0_1.out); (case side3 => exact m31_q); (case side4 => exact m65_q); rintro e w' ⟨rfl, ⟨nd, rfl⟩⟩; refine ⟨_, rfl, ?_⟩))
  go_ret
  exact ⟨m3_q, m54_q⟩
 replace c5 := fM_q.mpr c5
 subst c5
 have H1 : (some false) = some r := by rw [if_neg (show ¬ (false = true) by decide)] at H; exact H
 clear H
 have H := H1
 clear H1
 obtain rfl := oI_q H
 go_enter Try.func25, Try.ntmps25
 go_wp2_with (first | ((with_reducible refine gD_q (N := 2) rfl ?_); refine bE_q ?hg (N := 2) ?hd (cs := #[.int .i64 a0_0, .slice A0_1 l0_1.length c0_1]) (t := 43) ?hr ?_; (case hd => rfl); (case hg => rfl); (case hr => exact m6_q); intro gb378 hg w' hbox hb; have BK378 := Ae_q (hbox); have GW378 := Ae_q ((by rw [hg]; exact (bZ_q (bel HB.out)) : w.heap.size ≤ gb378)); have GE378 := Ae_q ((by rw [hg]; exact (bZ_q (bel HB.out)) : w.heap.size ≤ gb378)); replace HB := Ae_q (bT_q (bel HB.out) hb); clear hb hbox hg) | ((with_reducible refine gD_q (N := 3) rfl ?_); refine bE_q ?hg (N := 3) ?hd (cs := #[.int .i64 a1_0, .slice A1_1 l1_1.length c1_1]) (t := 43) ?hr ?_; (case hd => rfl); (case hg => rfl); (case hr => exact m6_q); intro gb379 hg w12 hbox hb; have BK379 := Ae_q (hbox); have GW379 := Ae_q ((by rw [hg]; exact (bZ_q m21_q) : w.heap.size ≤ gb379)); have GE379 := Ae_q ((by rw [hg]; exact (bZ_q m21_q) : w.heap.size ≤ gb379)); replace HB := Ae_q (bT_q m21_q hb); have NB378_379 := Ae_q ((by rw [hg]; exact nL_q (blk_lt (g := gb378) (o := .cells #[.int .i64 a0_0, .slice A0_1 l0_1.length c0_1] 43 (0, 0)) (bup BK378.out)) : gb378 ≠ gb379)); have NB379_378 := Ae_q ((by rw [hg]; exact nG_q (blk_lt (g := gb378) (o := .cells #[.int .i64 a0_0, .slice A0_1 l0_1.length c0_1] 43 (0, 0)) (bup BK378.out)) : gb379 ≠ gb378)); replace BK378 := Ae_q (bB_q (g := gb378) (o := .cells #[.int .i64 a0_0, .slice A0_1 l0_1.length c0_1] 43 (0, 0)) (bup BK378.out) hb); clear hb hbox hg; have hnb13 := NB378_379.out; have hnc13 := NB379_378.out; have hcz14_0 : cI w12 gb378 0 a0_0 := cZ BK378 0 rfl; have hcz14_1 : w12.cell? ⟨gb378, 1, none⟩ = some (.slice A0_1 l0_1.length c0_1) := (bC_q BK378.out 1).trans rfl; have hfz14_0 := bF_q BK378.out 0; have hfz14_1 := bF_q BK378.out 1; have hcz15_0 : cI w12 gb379 0 a1_0 := cZ BK379 0 rfl; have hcz15_1 : w12.cell? ⟨gb379, 1, none⟩ = some (.slice A1_1 l1_1.length c1_1) := (bC_q BK379.out 1).trans rfl; have hfz15_0 := bF_q BK379.out 0; have hfz15_1 := bF_q BK379.out 1) | ((with_reducible refine gC_q (f := 16) rfl ?_); refine gL_q (some 14) rfl rfl Try.func16 m10_q rfl #[.slice A0_1 l0_1.length c0_1, .slice A1_1 l1_1.length c1_1] rfl m0_q ?_; (with_reducible refine (laws_eqIntS.calls k _ _ l0_1 _ _ l1_1 false _ ?side1 ?side2 ?side3 ?side4 A4.out).mono ?_); (case side1 => exact m97_q); (case side2 => exact HC0_1.out); (case side3 => exact m31_q); (case side4 => exact m65_q); rintro e w' ⟨rfl, ⟨nd, rfl⟩⟩; refine ⟨_, rfl, ?_⟩))
 go_ret
 exact ⟨m3_q, m54_q⟩

def laws_markKitchen.f (k : Nat) (a0_0 : Int) (l0_1 : List Int) (a1 : Int) : Option (Int × List Int) := (laws_markIntS.f k l0_1 a1).bind fun bt382 => (some (bt382.1, bt382.2))
set_option maxHeartbeats 8000000 in
set_option maxRecDepth 100000 in
theorem laws_markKitchen.calls (k : Nat) (a0_0 : Int) (P0_1_ : Nat → Prop) (u9000_ : Value) (l0_1 : List Int) (a1 : Int) (r1 : Int) (r2 : List Int) (w0 w : World) (hB : Below w0.heap.size w0 w) (ho0_1 : Kd.R kI_q 3 w w0.heap.size P0_1_ u9000_ l0_1) (h : laws_markKitchen.f k a0_0 l0_1 a1 = some (r1, r2)) :
    Calls Try.prog 26 #[.agg #[.int .i64 a0_0, u9000_], .int .i64 a1] w fun e w' => e = .returned (.int .i64 r1) ∧ Kd.R kI_q 3 w' w0.heap.size (fun k_ => (P0_1_ k_ ∨ w.heap.size ≤ k_)) u9000_ r2 ∧ Below w0.heap.size w0 w' ∧ Kept w w' (fun k_ => P0_1_ k_) := by
 have hu43 := Try.underlying43
 have HO0_1 := Ae_q (show Kd.R kI_q 3 w w0.heap.size (fun k_ => (P0_1_ k_ ∨ w.heap.size ≤ k_)) u9000_ l0_1 from rM_q ho0_1 (fun k_ hk => (.inl hk)))
 have HK := Ae_q (Kept.refl w (fun k_ => P0_1_ k_))
 have HW0 := Ae_q hB.size
 have HB := Ae_q hB
 clear hB
 have H : ((laws_markIntS.f k l0_1 a1).bind fun bt382 => (some (bt382.1, bt382.2))) = some (r1, r2) := h
 clear h
 replace H := oB_q.mp H
 obtain ⟨⟨t382, t383⟩, A30, H⟩ := H
 replace H : (some (t382, t383)) = some (r1, r2) := H
 have A3 := Ae_q A30
 clear A30
 simp only [oE_q, pE_q] at H
 obtain ⟨rfl, rfl⟩ := H
 obtain ⟨Ao4, co4, eo4⟩ := rS_q HO0_1.out
 subst eo4
 go_enter Try.func26, Try.ntmps26
 go_wp2_with (first | ((with_reducible refine gD_q (N := 2) rfl ?_); refine bE_q ?hg (N := 2) ?hd (cs := #[.int .i64 a0_0, .slice Ao4 l0_1.length co4]) (t := 43) ?hr ?_; (case hd => rfl); (case hg => rfl); (case hr => exact m6_q); intro gb381 hg w5 hbox hb; replace HO0_1 := Ae_q (rO_q (rup HO0_1.out) hb); have BK381 := Ae_q (hbox); have GW381 := Ae_q ((by rw [hg]; exact (by first | exact HK.out.1 | exact (show Kept w _ (fun k_ => P0_1_ k_) from by repeat (with_reducible first | exact HK.out | apply Kept.alloc | apply Kept.drewN | apply Kept.drew)).1) : w.heap.size ≤ gb381)); replace HK := Ae_q (Kept.below (S := (fun k_ => P0_1_ k_)) m39_q hb); have GE381 := Ae_q ((by rw [hg]; exact (bZ_q (bel HB.out)) : w0.heap.size ≤ gb381)); replace HB := Ae_q (bT_q (bel HB.out) hb); clear hb hbox hg; have hcz6_0 : cI w5 gb381 0 a0_0 := cZ BK381 0 rfl; have hcz6_1 : w5.cell? ⟨gb381, 1, none⟩ = some (.slice Ao4 l0_1.length co4) := (bC_q BK381.out 1).trans rfl; have hfz6_0 := bF_q BK381.out 0; have hfz6_1 := bF_q BK381.out 1) | ((with_reducible refine gC_q (f := 19) rfl ?_); refine gL_q (some 8) rfl rfl Try.func19 m10_q rfl #[.slice Ao4 l0_1.length co4, .int .i64 a1] rfl m0_q ?_; (with_reducible refine (laws_markIntS.calls k (fun k_ => some k_ = (.slice Ao4 l0_1.length co4 : Value).ownBlock) (.slice Ao4 l0_1.length co4) l0_1 a1 t382 t383 w0 _ ?side1 ?side2 A3.out).mono ?_); (case side1 => exact m85_q); (case side2 => exact Kd.R_tight rfl HO0_1.out); rintro e w7 ⟨rfl, hy0, hb, hkp⟩; refine ⟨_, rfl, ?_⟩; replace BK381 := Ae_q (blk_kept (bup BK381.out) hkp (fun hs_ => (fun e_ => (Kd.R_ne HO0_1.out BK381.out (by decide)) e_) hs_)); replace HK := Ae_q (Kept.then_ (S := (fun k_ => P0_1_ k_)) m66_q hkp (fun k_ hs_ => (fun e_ => (HO0_1.out.1 k_ e_.symm)) hs_)); replace HO0_1 := Ae_q (Kd.R_reok rfl hy0 (fun k_ e_ => HO0_1.out.1 k_ e_)); replace HB := Ae_q (hb); (try clear hb); (try clear hkp); (try clear hy0)))
 go_ret
 exact ⟨m3_q, rup HO0_1.out, m85_q, m66_q⟩

end Go.Proofs.Ytfnpiacmlahegaa.PRp
