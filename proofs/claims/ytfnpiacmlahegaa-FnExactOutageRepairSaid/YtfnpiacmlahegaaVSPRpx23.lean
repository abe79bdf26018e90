import Derived.Test.YtfnpiacmlahegaaVSPRpx0
import Derived.Test.YtfnpiacmlahegaaVSPRpx4
import Derived.Test.YtfnpiacmlahegaaVSPRpx5
import Derived.Test.YtfnpiacmlahegaaVSPRpx15
import Derived.Test.YtfnpiacmlahegaaVSPRpx18
import Derived.Test.YtfnpiacmlahegaaVSPRpx20
namespace Go.Proofs.Ytfnpiacmlahegaa.PRp
open Go.RowKit Go.Proofs.YtfnpiacmlahegaaW.PrintWords Go.Proofs.YtfnpiacmlahegaaW.PrintLast Go.Proofs.YtfnpiacmlahegaaW.PrintMore
attribute [local go_sem] max2_int min2_int max_two min_two max_three min_three max_four min_four
set_option linter.unusedVariables false
set_option linter.unusedSimpArgs false

def impl_PlanValid.f (k : Nat) (l0 : List (S63)) (a1_0 : Int) (l1_1 : List Int) (l2 : List Int) : Option (Bool) := (impl_KitchenValid.f a1_0 l1_1).bind fun t440 => (if t440 = true then ((impl_startsValid.f k l0 l2).bind fun t441 => (if t441 = true then ((impl_planFits.f k l0 a1_0 l1_1 l2).bind fun t442 => (some t442)) else (some false))) else (some false))
set_option maxHeartbeats 8000000 in
set_option maxRecDepth 100000 in
theorem impl_PlanValid.calls (k : Nat) (A0 : Option Addr) (c0 : Nat) (l0 : List (S63)) (a1_0 : Int) (A1_1 : Option Addr) (c1_1 : Nat) (l1_1 : List Int) (A2 : Option Addr) (c2 : Nat) (l2 : List Int) (r : Bool) (w : World) (hr0 : Kd.C k63 w A0 l0.length l0) (hc0 : l0.length ≤ c0) (hr1_1 : Kd.C kI_q w A1_1 l1_1.length l1_1) (hc1_1 : l1_1.length ≤ c1_1) (hr2 : Kd.C kI_q w A2 l2.length l2) (hc2 : l2.length ≤ c2) (h : impl_PlanValid.f k l0 a1_0 l1_1 l2 = some r) :
    Calls Try.prog 31 #[.slice A0 l0.length c0, .agg #[.int .i64 a1_0, .slice A1_1 l1_1.length c1_1], .slice A2 l2.length c2] w fun e w' => e = .returned (.bool r) ∧ Below w.heap.size w w' := by
 have hu43 := Try.underlying43
 have HR0 := Ae_q hr0
 have HC0 := Ae_q hc0
 clear hr0 hc0
 have HR1_1 := Ae_q hr1_1
 have HC1_1 := Ae_q hc1_1
 clear hr1_1 hc1_1
 have HR2 := Ae_q hr2
 have HC2 := Ae_q hc2
 clear hr2 hc2
 have HB := Ae_q (bR_q w.heap.size w)
 have H : ((impl_KitchenValid.f a1_0 l1_1).bind fun t440 => (if t440 = true then ((impl_startsValid.f k l0 l2).bind fun t441 => (if t441 = true then ((impl_planFits.f k l0 a1_0 l1_1 l2).bind fun t442 => (some t442)) else (some false))) else (some false))) = some r := h
 clear h
 replace H := oB_q.mp H
 obtain ⟨t440, A40, H⟩ := H
 replace H : (if t440 = true then ((impl_startsValid.f k l0 l2).bind fun t441 => (if t441 = true then ((impl_planFits.f k l0 a1_0 l1_1 l2).bind fun t442 => (some t442)) else (some false))) else (some false)) = some r := H
 have A4 := Ae_q A40
 clear A40
 by_cases c5 : t440 = true
 rotate_left
 ·replace c5 := fM_q.mpr c5
  subst c5
  have H1 : (some false) = some r := by rw [if_neg (show ¬ (false = true) by decide)] at H; exact H
  clear H
  have H := H1
  clear H1
  obtain rfl := oI_q H
  go_enter Try.func31, Try.ntmps31
  go_wp2_with (first | ((with_reducible refine gD_q (N := 4) rfl ?_); refine bE_q ?hg (N := 4) ?hd (cs := #[.int .i64 a1_0, .slice A1_1 l1_1.length c1_1]) (t := 43) ?hr ?_; (case hd => rfl); (case hg => rfl); (case hr => exact m6_q); intro gb439 hg w19 hbox hb; have BK439 := Ae_q (hbox); have GW439 := Ae_q ((by rw [hg]; exact (bZ_q (bel HB.out)) : w.heap.size ≤ gb439)); have GE439 := Ae_q ((by rw [hg]; exact (bZ_q (bel HB.out)) : w.heap.size ≤ gb439)); replace HB := Ae_q (bT_q (bel HB.out) hb); clear hb hbox hg; have hcz20_0 : cI w19 gb439 0 a1_0 := cZ BK439 0 rfl; have hcz20_1 : w19.cell? ⟨gb439, 1, none⟩ = some (.slice A1_1 l1_1.length c1_1) := (bC_q BK439.out 1).trans rfl; have hfz20_0 := bF_q BK439.out 0; have hfz20_1 := bF_q BK439.out 1) | ((with_reducible refine gC_q (f := 49) rfl ?_); refine gL_q (some 8) rfl rfl Try.func49 m7_q rfl #[.agg #[.int .i64 a1_0, .slice A1_1 l1_1.length c1_1]] rfl m1_q ?_; (with_reducible refine (impl_KitchenValid.calls a1_0 _ _ l1_1 false _ ?side1 ?side2 A4.out).mono ?_); (case side1 => exact m32_q); (case side2 => exact m64_q); rintro e w' ⟨rfl, hb⟩; refine ⟨_, rfl, ?_⟩; replace BK439 := Ae_q (bB_q (g := gb439) (o := .cells #[.int .i64 a1_0, .slice A1_1 l1_1.length c1_1] 43 (0, 0)) (bup BK439.out) hb); replace HB := Ae_q (bT_q m41_q hb); (try clear hb); (try clear hb2); (try clear hk); (try clear hi)))
  go_ret
  exact ⟨m4_q, m41_q⟩
 subst c5
 have H1 : ((impl_startsValid.f k l0 l2).bind fun t441 => (if t441 = true then ((impl_planFits.f k l0 a1_0 l1_1 l2).bind fun t442 => (some t442)) else (some false))) = some r := by rw [if_pos rfl] at H; exact H
 clear H
 have H := H1
 clear H1
 replace H := oB_q.mp H
 obtain ⟨t441, A60, H⟩ := H
 replace H : (if t441 = true then ((impl_planFits.f k l0 a1_0 l1_1 l2).bind fun t442 => (some t442)) else (some false)) = some r := H
 have A6 := Ae_q A60
 clear A60
 by_cases c7 : t441 = true
 rotate_left
 ·replace c7 := fM_q.mpr c7
  subst c7
  have H1 : (some false) = some r := by rw [if_neg (show ¬ (false = true) by decide)] at H; exact H
  clear H
  have H := H1
  clear H1
  obtain rfl := oI_q H
  go_enter Try.func31, Try.ntmps31
  go_wp2_with (first | ((with_reducible refine gD_q (N := 4) rfl ?_); refine bE_q ?hg (N := 4) ?hd (cs := #[.int .i64 a1_0, .slice A1_1 l1_1.length c1_1]) (t := 43) ?hr ?_; (case hd => rfl); (case hg => rfl); (case hr => exact m6_q); intro gb439 hg w15 hbox hb; have BK439 := Ae_q (hbox); have GW439 := Ae_q ((by rw [hg]; exact (bZ_q (bel HB.out)) : w.heap.size ≤ gb439)); have GE439 := Ae_q ((by rw [hg]; exact (bZ_q (bel HB.out)) : w.heap.size ≤ gb439)); replace HB := Ae_q (bT_q (bel HB.out) hb); clear hb hbox hg; have hcz16_0 : cI w15 gb439 0 a1_0 := cZ BK439 0 rfl; have hcz16_1 : w15.cell? ⟨gb439, 1, none⟩ = some (.slice A1_1 l1_1.length c1_1) := (bC_q BK439.out 1).trans rfl; have hfz16_0 := bF_q BK439.out 0; have hfz16_1 := bF_q BK439.out 1) | ((first | ((with_reducible refine gC_q (f := 49) rfl ?_); refine gL_q (some 8) rfl rfl Try.func49 m7_q rfl #[.agg #[.int .i64 a1_0, .slice A1_1 l1_1.length c1_1]] rfl m1_q ?_; (with_reducible refine (impl_KitchenValid.calls a1_0 _ _ l1_1 true _ ?side1 ?side2 A4.out).mono ?_); (case side1 => exact m32_q); (case side2 => exact m64_q); rintro e w' ⟨rfl, hb⟩; refine ⟨_, rfl, ?_⟩) | (go_at_call 38; (with_reducible refine (impl_startsValid.calls k _ _ l0 _ _ l2 false _ ?side1 ?side2 ?side3 ?side4 A6.out).mono ?_); (case side1 => exact m20_q); (case side2 => exact m57_q); (case side3 => exact m28_q); (case side4 => exact m63_q); rintro e w' ⟨rfl, hb⟩)); replace BK439 := Ae_q (bB_q (g := gb439) (o := .cells #[.int .i64 a1_0, .slice A1_1 l1_1.length c1_1] 43 (0, 0)) (bup BK439.out) hb); replace HB := Ae_q (bT_q m41_q hb); (try clear hb); (try clear hb2); (try clear hk); (try clear hi)))
  go_ret
  exact ⟨m4_q, m41_q⟩
 subst c7
 have H1 : ((impl_planFits.f k l0 a1_0 l1_1 l2).bind fun t442 => (some t442)) = some r := by rw [if_pos rfl] at H; exact H
 clear H
 have H := H1
 clear H1
 replace H := oB_q.mp H
 obtain ⟨t442, A80, H⟩ := H
 replace H : (some t442) = some r := H
 have A8 := Ae_q A80
 clear A80
 obtain rfl := oI_q H
 go_enter Try.func31, Try.ntmps31
 go_wp2_with (first | ((with_reducible refine gD_q (N := 4) rfl ?_); refine bE_q ?hg (N := 4) ?hd (cs := #[.int .i64 a1_0, .slice A1_1 l1_1.length c1_1]) (t := 43) ?hr ?_; (case hd => rfl); (case hg => rfl); (case hr => exact m6_q); intro gb439 hg w9 hbox hb; have BK439 := Ae_q (hbox); have GW439 := Ae_q ((by rw [hg]; exact (bZ_q (bel HB.out)) : w.heap.size ≤ gb439)); have GE439 := Ae_q ((by rw [hg]; exact (bZ_q (bel HB.out)) : w.heap.size ≤ gb439)); replace HB := Ae_q (bT_q (bel HB.out) hb); clear hb hbox hg; have hcz10_0 : cI w9 gb439 0 a1_0 := cZ BK439 0 rfl; have hcz10_1 : w9.cell? ⟨gb439, 1, none⟩ = some (.slice A1_1 l1_1.length c1_1) := (bC_q BK439.out 1).trans rfl; have hfz10_0 := bF_q BK439.out 0; have hfz10_1 := bF_q BK439.out 1) | ((with_reducible refine gC_q (f := 49) rfl ?_); refine gL_q (some 8) rfl rfl Try.func49 m7_q rfl #[.agg #[.int .i64 a1_0, .slice A1_1 l1_1.length c1_1]] rfl m1_q ?_; (with_reducible refine (impl_KitchenValid.calls a1_0 _ _ l1_1 true _ ?side1 ?side2 A4.out).mono ?_); (case side1 => exact m32_q); (case side2 => exact m64_q); rintro e w' ⟨rfl, hb⟩; refine ⟨_, rfl, ?_⟩; replace BK439 := Ae_q (bB_q (g := gb439) (o := .cells #[.int .i64 a1_0, .slice A1_1 l1_1.length c1_1] 43 (0, 0)) (bup BK439.out) hb); replace HB := Ae_q (bT_q m41_q hb); (try clear hb); (try clear hb2); (try clear hk); (try clear hi)) | (go_at_call 38; (with_reducible refine (impl_startsValid.calls k _ _ l0 _ _ l2 true _ ?side1 ?side2 ?side3 ?side4 A6.out).mono ?_); (case side1 => exact m20_q); (case side2 => exact m57_q); (case side3 => exact m28_q); (case side4 => exact m63_q); rintro e w12 ⟨rfl, hb⟩; replace BK439 := Ae_q (bB_q (g := gb439) (o := .cells #[.int .i64 a1_0, .slice A1_1 l1_1.length c1_1] 43 (0, 0)) (bup BK439.out) hb); replace HB := Ae_q (bT_q m41_q hb); (try clear hb); (try clear hb2); (try clear hk); (try clear hi); have hcz13_0 : cI w12 gb439 0 a1_0 := cZ BK439 0 rfl; have hcz13_1 : w12.cell? ⟨gb439, 1, none⟩ = some (.slice A1_1 l1_1.length c1_1) := (bC_q BK439.out 1).trans rfl; have hfz13_0 := bF_q BK439.out 0; have hfz13_1 := bF_q BK439.out 1) | (go_at_call 57; (with_reducible refine (impl_planFits.calls k _ _ l0 a1_0 _ _ l1_1 _ _ l2 t442 _ ?side1 ?side2 ?side3 ?side4 ?side5 ?side6 A8.out).mono ?_); (case side1 => exact m20_q); (case side2 => exact m57_q); (case side3 => exact m32_q); (case side4 => exact m64_q); (case side5 => exact m28_q); (case side6 => exact m63_q); rintro e w' ⟨rfl, hb⟩; replace BK439 := Ae_q (bB_q (g := gb439) (o := .cells #[.int .i64 a1_0, .slice A1_1 l1_1.length c1_1] 43 (0, 0)) (bup BK439.out) hb); replace HB := Ae_q (bT_q m41_q hb); (try clear hb); (try clear hb2); (try clear hk); (try clear hi)))
 go_ret
 exact ⟨m4_q, m41_q⟩

def impl_mayO (o0 o1 o2 : Int) (s : S63) (x : Int) : Option Bool := (impl_Outage_disturbs.f o0 o1 o2 s.f0 s.f1 s.f2 s.f3 x).bind fun b => some (!b)
theorem impl_mayO.calls (o0 o1 o2 : Int) (s0 s1 s2 : Int) (l : List Int) (A : Option Addr) (c Bo Bs : Nat) (x : Int) (r : Bool) (W : World) (hbo : W.heap[Bo]? = some (.cells #[.int .i64 o0, .int .i64 o1, .int .i64 o2] 31 (0, 0))) (hbs : W.heap[Bs]? = some (.cells #[.int .i64 s0, .int .i64 s1, .int .i64 s2, .slice A l.length c] 63 (0, 0)))
    (hr : Kd.C kI_q W A l.length l) (hc : l.length ≤ c) (h : impl_mayO o0 o1 o2 ⟨s0, s1, s2, l⟩ x = some r) :
    Calls Try.prog 55 #[.int .i64 x, .pointer (some ⟨Bo, 0, none⟩), .pointer (some ⟨Bs, 0, none⟩)] W fun e w' => e = .returned (.bool r) ∧ Below W.heap.size W w' := by
 have o_0 : W.cell? ⟨Bo, 0, none⟩ = some (.int .i64 o0) := (bC_q hbo 0).trans rfl
 have o_1 : W.cell? ⟨Bo, 1, none⟩ = some (.int .i64 o1) := (bC_q hbo 1).trans rfl
 have o_2 : W.cell? ⟨Bo, 2, none⟩ = some (.int .i64 o2) := (bC_q hbo 2).trans rfl
 have s_0 : W.cell? ⟨Bs, 0, none⟩ = some (.int .i64 s0) := (bC_q hbs 0).trans rfl
 have s_1 : W.cell? ⟨Bs, 1, none⟩ = some (.int .i64 s1) := (bC_q hbs 1).trans rfl
 have s_2 : W.cell? ⟨Bs, 2, none⟩ = some (.int .i64 s2) := (bC_q hbs 2).trans rfl
 have s_3 : W.cell? ⟨Bs, 3, none⟩ = some (.slice A l.length c) := (bC_q hbs 3).trans rfl
 clear hbo hbs
 obtain ⟨b, h1, h2⟩ := oB_q.mp h
 obtain rfl := oI_q h2
 clear h h2
 have hcon := impl_Outage_disturbs.calls o0 o1 o2 s0 s1 s2 A c l x b W hr hc h1
 clear h1 hr hc
 go_enter Try.func55, Try.ntmps55
 go_wp2_with (go_at_call 40; refine hcon.mono ?_; rintro e w' ⟨rfl, hb⟩)
 go_ret
 exact ⟨rfl, hb⟩
mutual
def impl_OutageRepair.j0 (o0 o1 o2 : Int) : Nat → List (S63) → List Int → Bool → Int → List Int → Option (List Int × Bool)
 | 0, _, _, _, _, _ => none
 | k + 1, x0, x2, x23, x444000, x444001 => if x23 = true then (some (([] : List Int), false)) else (impl_OutageRepair.l0 o0 o1 o2 k x0 x2 (([] : List Int)) x0 (x0.length : Int) 0 x444000 x444001)
def impl_OutageRepair.l0 (o0 o1 o2 : Int) : Nat → List (S63) → List Int → List Int → List (S63) → Int → Int → Int → List Int → Option (List Int × Bool)
 | 0, _, _, _, _, _, _, _, _ => none
 | k + 1, x0, x2, x10, x25, x26, x27, x444000, x444001 => if x27 < x26 then (if 0 ≤ x27 then (if x27 < (x25.length : Int) then (if x27 < (x2.length : Int) then ((impl_placeO.f (impl_mayO o0 o1 o2 (rd_T63 x25 x27)) k x0 x444000 x444001 x10 (rd x2 x27) 0).bind fun t453 => (if t453 < 0 then (some (([] : List Int), false)) else (if x10.length < 17592186044416 then (impl_OutageRepair.l0 o0 o1 o2 k x0 x2 (x10 ++ [t453]) x25 x26 (wrap64 (x27 + 1)) x444000 x444001) else (none)))) else (none)) else (none)) else (none)) else (some (x10, true))
end
def impl_OutageRepair.f (k : Nat) (l0 : List (S63)) (a1_0 : Int) (l1_1 : List Int) (l2 : List Int) (a3_0 : Int) (a3_1 : Int) (a3_2 : Int) : Option (List Int × Bool) := (impl_PlanValid.f k l0 a1_0 l1_1 l2).bind fun t445 => (if t445 = true then ((impl_outageValid.f a3_0 a3_1 a3_2).bind fun t446 => (impl_OutageRepair.j0 a3_0 a3_1 a3_2 k l0 l2 (!t446) a1_0 l1_1)) else (impl_OutageRepair.j0 a3_0 a3_1 a3_2 k l0 l2 true a1_0 l1_1))
def impl_OutageRepair.T7 : Bool × List (List Nat × List Nat) := (true, [([], []), ([], []), ([], []), ([], []), ([], []), ([3, 4], [3, 4]), ([5], [5]), ([], []), ([0, 1, 2, 6, 7], [0, 1, 2, 6, 7]), ([8, 8, 0, 1, 2, 3, 4, 5, 6, 7, 8], [8])])
def impl_OutageRepair.B7 : List Nat := [0, 0, 0, 0, 0, 24, 56, 0, 255, 511]
theorem impl_OutageRepair.tab7 : rtab .any (opsOf Try.f28 7) = impl_OutageRepair.T7 := by kernel_rfl
theorem impl_OutageRepair.bits7 : waitsOk impl_OutageRepair.T7.2 impl_OutageRepair.B7 = true := by kernel_rfl
set_option maxHeartbeats 8000000 in
set_option maxRecDepth 100000 in
theorem impl_OutageRepair.calls (k : Nat) (A0 : Option Addr) (c0 : Nat) (l0 : List (S63)) (a1_0 : Int) (A1_1 : Option Addr) (c1_1 : Nat) (l1_1 : List Int) (A2 : Option Addr) (c2 : Nat) (l2 : List Int) (a3_0 : Int) (a3_1 : Int) (a3_2 : Int) (r1 : List Int) (r2 : Bool) (w : World) (hr0 : Kd.C k63 w A0 l0.length l0) (hc0 : l0.length ≤ c0) (hr1_1 : Kd.C kI_q w A1_1 l1_1.length l1_1) (hc1_1 : l1_1.length ≤ c1_1) (hr2 : Kd.C kI_q w A2 l2.length l2) (hc2 : l2.length ≤ c2) (h : impl_OutageRepair.f k l0 a1_0 l1_1 l2 a3_0 a3_1 a3_2 = some (r1, r2)) :
    Calls Try.prog 28 #[.slice A0 l0.length c0, .agg #[.int .i64 a1_0, .slice A1_1 l1_1.length c1_1], .slice A2 l2.length c2, .agg #[.int .i64 a3_0, .int .i64 a3_1, .int .i64 a3_2]] w fun e w' => ∃ v0_ : Value, e = .returned (.tuple #[v0_, .bool r2]) ∧ Kd.R kI_q 3 w' w.heap.size (fun _ => True) v0_ r1 ∧ Below w.heap.size w w' := by
 have hu43 := Try.underlying43
 have hu31 := Try.underlying31
 have hu63 := Try.underlying63
 have HR0 := Ae_q hr0
 have HC0 := Ae_q hc0
 clear hr0 hc0
 have HR1_1 := Ae_q hr1_1
 have HC1_1 := Ae_q hc1_1
 clear hr1_1 hc1_1
 have HR2 := Ae_q hr2
 have HC2 := Ae_q hc2
 clear hr2 hc2
 have HB := Ae_q (bR_q w.heap.size w)
 have H : ((impl_PlanValid.f k l0 a1_0 l1_1 l2).bind fun t445 => (if t445 = true then ((impl_outageValid.f a3_0 a3_1 a3_2).bind fun t446 => (impl_OutageRepair.j0 a3_0 a3_1 a3_2 k l0 l2 (!t446) a1_0 l1_1)) else (impl_OutageRepair.j0 a3_0 a3_1 a3_2 k l0 l2 true a1_0 l1_1))) = some (r1, r2) := h
 clear h
 have HC5 := Ae_q H
 clear H
 go_enter Try.func28, Try.ntmps28
 go_upto_region 1 with (first | ((first | ((with_reducible refine gD_q (N := 5) rfl ?_); refine bE_q ?hg (N := 5) ?hd (cs := #[.int .i64 a1_0, .slice A1_1 l1_1.length c1_1]) (t := 43) ?hr ?_; (case hd => rfl); (case hg => rfl); (case hr => exact m6_q); intro gb443 hg w' hbox hb; have BK443 := Ae_q (hbox); have GW443 := Ae_q ((by rw [hg]; exact (bZ_q (bel HB.out)) : w.heap.size ≤ gb443)); have GE443 := Ae_q ((by rw [hg]; exact (bZ_q (bel HB.out)) : w.heap.size ≤ gb443)); replace HB := Ae_q (bT_q (bel HB.out) hb)) | ((with_reducible refine gD_q (N := 7) rfl ?_); refine bE_q ?hg (N := 7) ?hd (cs := #[.int .i64 a3_0, .int .i64 a3_1, .int .i64 a3_2]) (t := 31) ?hr ?_; (case hd => rfl); (case hg => rfl); (case hr => exact m6_q); intro gb444 hg w7 hbox hb; have BK444 := Ae_q (hbox); have GW444 := Ae_q ((by rw [hg]; exact (bZ_q m86_q) : w.heap.size ≤ gb444)); have GE444 := Ae_q ((by rw [hg]; exact (bZ_q m86_q) : w.heap.size ≤ gb444)); replace HB := Ae_q (bT_q m86_q hb); have NB443_444 := Ae_q ((by rw [hg]; exact nL_q (blk_lt (g := gb443) (o := .cells #[.int .i64 a1_0, .slice A1_1 l1_1.length c1_1] 43 (0, 0)) (bup BK443.out)) : gb443 ≠ gb444)); have NB444_443 := Ae_q ((by rw [hg]; exact nG_q (blk_lt (g := gb443) (o := .cells #[.int .i64 a1_0, .slice A1_1 l1_1.length c1_1] 43 (0, 0)) (bup BK443.out)) : gb444 ≠ gb443)); replace BK443 := Ae_q (bB_q (g := gb443) (o := .cells #[.int .i64 a1_0, .slice A1_1 l1_1.length c1_1] 43 (0, 0)) (bup BK443.out) hb))); clear hb hbox hg))
 (try simp only [Act.put, sA_q, sZ_q, sS_q])
 go_cut [23] (fun v23 wc => ∃ (kq : Nat) (x23_4 : Bool), v23 = .bool x23_4 ∧ Aside0 (impl_OutageRepair.j0 a3_0 a3_1 a3_2 kq l0 l2 x23_4 a1_0 l1_1 = some (r1, r2)) ∧ Aside0 (kq ≤ k) ∧ Aside0 (wc.heap[gb443]? = some (.cells #[.int .i64 a1_0, (.slice A1_1 l1_1.length c1_1)] 43 (0, 0))) ∧ Aside0 (wc.heap[gb444]? = some (.cells #[.int .i64 a3_0, .int .i64 a3_1, .int .i64 a3_2] 31 (0, 0))) ∧ Aside0 (Below w.heap.size w wc))
 case first =>
  have H := HC5.out
  clear HC5
  replace H := oB_q.mp H
  obtain ⟨t445, A80, H⟩ := H
  replace H : (if t445 = true then ((impl_outageValid.f a3_0 a3_1 a3_2).bind fun t446 => (impl_OutageRepair.j0 a3_0 a3_1 a3_2 k l0 l2 (!t446) a1_0 l1_1)) else (impl_OutageRepair.j0 a3_0 a3_1 a3_2 k l0 l2 true a1_0 l1_1)) = some (r1, r2) := H
  have A8 := Ae_q A80
  clear A80
  by_cases c9 : t445 = true
  rotate_left
  ·replace c9 := fM_q.mpr c9
   subst c9
   have H1 : (impl_OutageRepair.j0 a3_0 a3_1 a3_2 k l0 l2 true a1_0 l1_1) = some (r1, r2) := by rw [if_neg (show ¬ (false = true) by decide)] at H; exact H
   clear H
   have H := H1
   clear H1
   have H' := Ae_q H
   clear H
   have hnb16 := NB443_444.out
   have hnc16 := NB444_443.out
   have hcz17_0 : cI w7 gb443 0 a1_0 := cZ BK443 0 rfl
   have hcz17_1 : w7.cell? ⟨gb443, 1, none⟩ = some (.slice A1_1 l1_1.length c1_1) := (bC_q BK443.out 1).trans rfl
   have hfz17_0 := bF_q BK443.out 0
   have hfz17_1 := bF_q BK443.out 1
   go_wp2_with (first | ((with_reducible refine gC_q (f := 31) rfl ?_); refine gL_q (some 17) rfl rfl Try.func31 m7_q rfl #[.slice A0 l0.length c0, .agg #[.int .i64 a1_0, .slice A1_1 l1_1.length c1_1], .slice A2 l2.length c2] rfl m1_q ?_; (with_reducible refine (impl_PlanValid.calls k _ _ l0 a1_0 _ _ l1_1 _ _ l2 false _ ?side1 ?side2 ?side3 ?side4 ?side5 ?side6 A8.out).mono ?_); (case side1 => exact m20_q); (case side2 => exact m57_q); (case side3 => exact m32_q); (case side4 => exact m64_q); (case side5 => exact m28_q); (case side6 => exact m63_q); rintro e w' ⟨rfl, hb⟩; refine ⟨_, rfl, ?_⟩; replace BK443 := Ae_q (bB_q (g := gb443) (o := .cells #[.int .i64 a1_0, .slice A1_1 l1_1.length c1_1] 43 (0, 0)) (bup BK443.out) hb); replace BK444 := Ae_q (bB_q (g := gb444) (o := .cells #[.int .i64 a3_0, .int .i64 a3_1, .int .i64 a3_2] 31 (0, 0)) (bup BK444.out) hb); replace HB := Ae_q (bT_q m12_q hb); (try clear hb); (try clear hb2); (try clear hk); (try clear hi)))
   go_meet
   case rel => exact ⟨_, (true), m5_q, H', ⟨m106_q⟩, ⟨bup BK443.out⟩, ⟨bup BK444.out⟩, ⟨m12_q⟩⟩
  subst c9
  have H1 : ((impl_outageValid.f a3_0 a3_1 a3_2).bind fun t446 => (impl_OutageRepair.j0 a3_0 a3_1 a3_2 k l0 l2 (!t446) a1_0 l1_1)) = some (r1, r2) := by rw [if_pos rfl] at H; exact H
  clear H
  have H := H1
  clear H1
  replace H := oB_q.mp H
  obtain ⟨t446, A100, H⟩ := H
  replace H : (impl_OutageRepair.j0 a3_0 a3_1 a3_2 k l0 l2 (!t446) a1_0 l1_1) = some (r1, r2) := H
  have A10 := Ae_q A100
  clear A100
  have H' := Ae_q H
  clear H
  have hnb11 := NB443_444.out
  have hnc11 := NB444_443.out
  have hcz12_0 : cI w7 gb443 0 a1_0 := cZ BK443 0 rfl
  have hcz12_1 : w7.cell? ⟨gb443, 1, none⟩ = some (.slice A1_1 l1_1.length c1_1) := (bC_q BK443.out 1).trans rfl
  have hfz12_0 := bF_q BK443.out 0
  have hfz12_1 := bF_q BK443.out 1
  go_wp2_with (first | ((with_reducible refine gC_q (f := 31) rfl ?_); refine gL_q (some 17) rfl rfl Try.func31 m7_q rfl #[.slice A0 l0.length c0, .agg #[.int .i64 a1_0, .slice A1_1 l1_1.length c1_1], .slice A2 l2.length c2] rfl m1_q ?_; (with_reducible refine (impl_PlanValid.calls k _ _ l0 a1_0 _ _ l1_1 _ _ l2 true _ ?side1 ?side2 ?side3 ?side4 ?side5 ?side6 A8.out).mono ?_); (case side1 => exact m20_q); (case side2 => exact m57_q); (case side3 => exact m32_q); (case side4 => exact m64_q); (case side5 => exact m28_q); (case side6 => exact m63_q); rintro e w13 ⟨rfl, hb⟩; refine ⟨_, rfl, ?_⟩; replace BK443 := Ae_q (bB_q (g := gb443) (o := .cells #[.int .i64 a1_0, .slice A1_1 l1_1.length c1_1] 43 (0, 0)) (bup BK443.out) hb); replace BK444 := Ae_q (bB_q (g := gb444) (o := .cells #[.int .i64 a3_0, .int .i64 a3_1, .int .i64 a3_2] 31 (0, 0)) (bup BK444.out) hb); replace HB := Ae_q (bT_q m12_q hb); (try clear hb); (try clear hb2); (try clear hk); (try clear hi); have hcz14_0 : cI w13 gb444 0 a3_0 := cZ BK444 0 rfl; have hcz14_1 : cI w13 gb444 1 a3_1 := cZ BK444 1 rfl; have hcz14_2 : cI w13 gb444 2 a3_2 := cZ BK444 2 rfl; have hfz14_0 := bF_q BK444.out 0; have hfz14_1 := bF_q BK444.out 1; have hfz14_2 := bF_q BK444.out 2) | (go_at_call 39; (with_reducible refine (impl_outageValid.calls a3_0 a3_1 a3_2 t446 _ A10.out).mono ?_); rintro e w15 ⟨rfl, hb⟩; replace BK443 := Ae_q (bB_q (g := gb443) (o := .cells #[.int .i64 a1_0, .slice A1_1 l1_1.length c1_1] 43 (0, 0)) (bup BK443.out) hb); replace BK444 := Ae_q (bB_q (g := gb444) (o := .cells #[.int .i64 a3_0, .int .i64 a3_1, .int .i64 a3_2] 31 (0, 0)) (bup BK444.out) hb); replace HB := Ae_q (bT_q m12_q hb); (try clear hb); (try clear hb2); (try clear hk); (try clear hi)))
  go_meet
  case rel => exact ⟨_, (!t446), m5_q, H', ⟨m106_q⟩, ⟨bup BK443.out⟩, ⟨bup BK444.out⟩, ⟨m12_q⟩⟩
 case rest =>
  clear HC5
  try clear c1
  try clear c2
  try clear p2
  try clear c3
  try clear c9
  try clear c11
  try clear c16
  try clear hcz12_0
  try clear hcz12_1
  try clear hcz14_0
  try clear hcz14_1
  try clear hcz14_2
  try clear hcz17_0
  try clear hcz17_1
  try clear hfz12_0
  try clear hfz12_1
  try clear hfz14_0
  try clear hfz14_1
  try clear hfz14_2
  try clear hfz17_0
  try clear hfz17_1
  obtain ⟨kq, x23_4, rfl, HA, HJ4, BK443, BK444, HB⟩ := hcut
  cases kq with
  | zero => exact absurd HA.out (by simp [impl_OutageRepair.j0])
  | succ kj4 =>
   have H := HA.out
   clear HA
   simp only [impl_OutageRepair.j0] at H
   by_cases c19 : x23_4 = true
   ·subst c19
    have H1 : (some (([] : List Int), false)) = some (r1, r2) := by rw [if_pos rfl] at H; exact H
    clear H
    have H := H1
    clear H1
    simp only [oE_q, pE_q] at H
    obtain ⟨rfl, rfl⟩ := H
    go_wp2
    go_ret2
    exact ⟨_, m4_q, m92_q, m12_q⟩
   replace c19 := fM_q.mpr c19
   subst c19
   have H1 : (impl_OutageRepair.l0 a3_0 a3_1 a3_2 kj4 l0 l2 (([] : List Int)) l0 (l0.length : Int) 0 a1_0 l1_1) = some (r1, r2) := by rw [if_neg (show ¬ (false = true) by decide)] at H; exact H
   clear H
   have H := H1
   clear H1
   obtain ⟨y447, hy447⟩ : ∃ y_ : List Int, y_ = (([] : List Int)) := ⟨_, rfl⟩
   replace H : (impl_OutageRepair.l0 a3_0 a3_1 a3_2 kj4 l0 l2 y447 l0 (l0.length : Int) 0 a1_0 l1_1) = some (r1, r2) := by first | (rw [hy447]; with_reducible exact H) | (have H2_ := (oS_q _ _).symm.trans H; rw [hy447]; with_reducible exact H2_) | (have H2_ := (oS_q _ _).symm.trans H; with_reducible exact H2_) | with_reducible exact H | (rw [hy447]; exact H) | exact H
   have Ny447 := Ae_q hy447
   clear hy447
   have H' := Ae_q H
   clear H
   go_wp2_with (first | ((with_reducible refine gD_q (N := 24) rfl ?_); refine Kd.R_lit kI_q _ 3 ?hg (N := 24) ?hd (xs := ([] : List Int)) (inner := []) (ok := fun _ => True) (okp := fun _ => True) ?hr ?hp (fun _ hk => hk) trivial (bR_q _ _) (nR_q _) (by simp) ?_; (case hd => rfl); (case hg => rfl); (case hr => exact m6_q); (case hp => exact m111_q); intro v448 w20 ho21 hb hg_ hnew_; clear hg_ hnew_; (first | rw [← Ny447.out] at ho21 | (simp only [Int.reduceToNat] at ho21; rw [← Ny447.out] at ho21)); have HO449 := Ae_q (rL_q ho21 (bZ_q m12_q)); replace BK443 := Ae_q (bB_q (g := gb443) (o := .cells #[.int .i64 a1_0, .slice A1_1 l1_1.length c1_1] 43 (0, 0)) (bup BK443.out) hb); replace BK444 := Ae_q (bB_q (g := gb444) (o := .cells #[.int .i64 a3_0, .int .i64 a3_1, .int .i64 a3_2] 31 (0, 0)) (bup BK444.out) hb); replace HB := Ae_q (bT_q m12_q hb); clear hb ho21))
   go_loopg [10, 27] kj4 (fun kq v10 v27 w' => ∃ (x10_2 : List Int) (x27_2 : Int), v27 = .int .i64 x27_2 ∧ Aside0 (impl_OutageRepair.l0 a3_0 a3_1 a3_2 kq l0 l2 x10_2 l0 (l0.length : Int) x27_2 a1_0 l1_1 = some (r1, r2)) ∧ Aside0 (kq ≤ kj4) ∧ Aside0 (Kd.R kI_q 3 w' w.heap.size (fun _ => True) v10 x10_2) ∧ Aside0 (w'.heap[gb443]? = some (.cells #[.int .i64 a1_0, (.slice A1_1 l1_1.length c1_1)] 43 (0, 0))) ∧ Aside0 (w'.heap[gb444]? = some (.cells #[.int .i64 a3_0, .int .i64 a3_1, .int .i64 a3_2] 31 (0, 0))) ∧ Aside0 (Below w.heap.size w w'))
   case atStart => exact ⟨(y447), (0), m5_q, H', ⟨nR_q _⟩, ⟨rup HO449.out⟩, ⟨bup BK443.out⟩, ⟨bup BK444.out⟩, ⟨m12_q⟩⟩
   case round =>
    clear H'
    try clear c1
    try clear c2
    try clear p2
    try clear c3
    try clear c9
    try clear c11
    try clear c16
    try clear c19
    try clear hcz12_0
    try clear hcz12_1
    try clear hcz14_0
    try clear hcz14_1
    try clear hcz14_2
    try clear hcz17_0
    try clear hcz17_1
    try clear hfz12_0
    try clear hfz12_1
    try clear hfz14_0
    try clear hfz14_1
    try clear hfz14_2
    try clear hfz17_0
    try clear hfz17_1
    try clear p2
    obtain ⟨x10_2, x27_2, rfl, HA, HK2, HO_10, BK443, BK444, HB⟩ := hrel
    cases gk with
    | zero => exact absurd HA.out (by simp [impl_OutageRepair.l0])
    | succ k2 =>
     have H := HA.out
     clear HA
     simp only [impl_OutageRepair.l0] at H
     by_cases c22 : x27_2 < (l0.length : Int)
     rotate_left
     ·rw [if_neg c22] at H
      have c22b0 : decide (x27_2 < (l0.length : Int)) = false := dF_q c22
      clear c22
      simp only [oE_q, pE_q] at H
      obtain ⟨rfl, rfl⟩ := H
      go_wp2
      go_ret2
      exact ⟨_, m4_q, rup HO_10.out, m12_q⟩
     rw [if_pos c22] at H
     have c22b0 : decide (x27_2 < (l0.length : Int)) = true := dT_q c22
     clear c22
     by_cases c23 : 0 ≤ x27_2
     rotate_left
     ·rw [if_neg c23] at H
      exact absurd H (by simp)
     rw [if_pos c23] at H
     have c23b0 : decide (0 ≤ x27_2) = true := dT_q c23
     clear c23
     by_cases c24 : x27_2 < (l0.length : Int)
     rotate_left
     ·rw [if_neg c24] at H
      exact absurd H (by simp)
     rw [if_pos c24] at H
     have c24b0 : decide (x27_2 < (l0.length : Int)) = true := dT_q c24
     clear c24
     by_cases c25 : x27_2 < (l2.length : Int)
     rotate_left
     ·rw [if_neg c25] at H
      exact absurd H (by simp)
     rw [if_pos c25] at H
     have c25b0 : decide (x27_2 < (l2.length : Int)) = true := dT_q c25
     clear c25
     replace H := oB_q.mp H
     obtain ⟨t453, A260, H⟩ := H
     replace H : (if t453 < 0 then (some (([] : List Int), false)) else (if x10_2.length < 17592186044416 then (impl_OutageRepair.l0 a3_0 a3_1 a3_2 k2 l0 l2 (x10_2 ++ [t453]) l0 (l0.length : Int) (wrap64 (x27_2 + 1)) a1_0 l1_1) else (none))) = some (r1, r2) := H
     have A26 := Ae_q A260
     clear A260
     by_cases c27 : t453 < 0
     ·rw [if_pos c27] at H
      have c27b0 : decide (t453 < 0) = true := dT_q c27
      clear c27
      simp only [oE_q, pE_q] at H
      obtain ⟨rfl, rfl⟩ := H
      have p450 : 0 ≤ (x27_2 : Int) := oD_q (by assumption)
      have q450 : x27_2 < (l0.length : Int) := oD_q (by assumption)
      obtain ⟨ad450, A450_3, c450_3, e450, hx450_0, hx450_1, hx450_2, hx450_3, hl450_3, hi450_3⟩ := at_T63 HR0.out x27_2 p450 q450
      cases e450
      replace hx450_0 := cel HB.out hx450_0
      replace hx450_1 := cel HB.out hx450_1
      replace hx450_2 := cel HB.out hx450_2
      replace hx450_3 := cel HB.out hx450_3
      have HR450_3 := Ae_q hi450_3
      have HC450_3 := Ae_q hl450_3
      clear hi450_3 hl450_3
      replace p450 := eq_true p450
      replace q450 := eq_true q450
      try go_wp2_with (first | ((with_reducible refine gD_q (N := 12) rfl ?_); refine bE_q ?hg (N := 12) ?hd (cs := #[.int .i64 0, .int .i64 0, .int .i64 0, .slice none 0 0]) (t := 63) ?hr ?_; (case hd => rfl); (case hg => rfl); (case hr => exact m6_q); intro gb451 hg w28 hbox hb; replace HO_10 := Ae_q (rO_q (rup HO_10.out) hb); have BK451 := Ae_q (hbox); have GW451 := Ae_q ((by rw [hg]; exact (bZ_q m12_q) : w.heap.size ≤ gb451)); have GE451 := Ae_q ((by rw [hg]; exact (bZ_q m12_q) : w.heap.size ≤ gb451)); replace HB := Ae_q (bT_q m12_q hb); have NB443_451 := Ae_q ((by rw [hg]; exact nL_q (blk_lt (g := gb443) (o := .cells #[.int .i64 a1_0, .slice A1_1 l1_1.length c1_1] 43 (0, 0)) (bup BK443.out)) : gb443 ≠ gb451)); have NB451_443 := Ae_q ((by rw [hg]; exact nG_q (blk_lt (g := gb443) (o := .cells #[.int .i64 a1_0, .slice A1_1 l1_1.length c1_1] 43 (0, 0)) (bup BK443.out)) : gb451 ≠ gb443)); replace BK443 := Ae_q (bB_q (g := gb443) (o := .cells #[.int .i64 a1_0, .slice A1_1 l1_1.length c1_1] 43 (0, 0)) (bup BK443.out) hb); have NB444_451 := Ae_q ((by rw [hg]; exact nL_q (blk_lt (g := gb444) (o := .cells #[.int .i64 a3_0, .int .i64 a3_1, .int .i64 a3_2] 31 (0, 0)) (bup BK444.out)) : gb444 ≠ gb451)); have NB451_444 := Ae_q ((by rw [hg]; exact nG_q (blk_lt (g := gb444) (o := .cells #[.int .i64 a3_0, .int .i64 a3_1, .int .i64 a3_2] 31 (0, 0)) (bup BK444.out)) : gb451 ≠ gb444)); replace BK444 := Ae_q (bB_q (g := gb444) (o := .cells #[.int .i64 a3_0, .int .i64 a3_1, .int .i64 a3_2] 31 (0, 0)) (bup BK444.out) hb); clear hb hbox hg; have hnb29 := NB451_443.out; have hnc29 := NB443_451.out; have hnb30 := NB451_444.out; have hnc30 := NB444_451.out; have hcz31_0 : cI w28 gb451 0 0 := cZ BK451 0 rfl; have hcz31_1 : cI w28 gb451 1 0 := cZ BK451 1 rfl; have hcz31_2 : cI w28 gb451 2 0 := cZ BK451 2 rfl; have hcz31_3 : w28.cell? ⟨gb451, 3, none⟩ = some (.slice none 0 0) := (bC_q BK451.out 3).trans rfl; have hfz31_0 := bF_q BK451.out 0; have hfz31_1 := bF_q BK451.out 1; have hfz31_2 := bF_q BK451.out 2; have hfz31_3 := bF_q BK451.out 3))
      have n0_ : Aside0 (Kd.R kI_q 3 ((((w28.setCell ⟨gb451, 0, none⟩ (.int .i64 ((rd_T63 l0 x27_2).f0))).setCell ⟨gb451, 1, none⟩ (.int .i64 ((rd_T63 l0 x27_2).f1))).setCell ⟨gb451, 2, none⟩ (.int .i64 ((rd_T63 l0 x27_2).f2))).setCell ⟨gb451, 3, none⟩ (.slice A450_3 ((rd_T63 l0 x27_2).f3).length c450_3)) w.heap.size (fun _ => True) u10 x10_2) := ⟨by (with_reducible repeat (first | apply rA_q | apply rN_q | apply rD_q)); exact rM_q (Kd.R_far (p := ⟨gb451, 3, none⟩) (Kd.R_far (p := ⟨gb451, 2, none⟩) (Kd.R_far (p := ⟨gb451, 1, none⟩) (Kd.R_far (p := ⟨gb451, 0, none⟩) (Kd.R_types HO_10.out BK451.out (by decide)) (fun _ hk => hk.2) (.int .i64 ((rd_T63 l0 x27_2).f0))) (fun _ hk => hk.2) (.int .i64 ((rd_T63 l0 x27_2).f1))) (fun _ hk => hk.2) (.int .i64 ((rd_T63 l0 x27_2).f2))) (fun _ hk => hk.2) (.slice A450_3 ((rd_T63 l0 x27_2).f3).length c450_3)) (fun _ hk => trivial)⟩
      have n1_ : Aside0 (((((w28.setCell ⟨gb451, 0, none⟩ (.int .i64 ((rd_T63 l0 x27_2).f0))).setCell ⟨gb451, 1, none⟩ (.int .i64 ((rd_T63 l0 x27_2).f1))).setCell ⟨gb451, 2, none⟩ (.int .i64 ((rd_T63 l0 x27_2).f2))).setCell ⟨gb451, 3, none⟩ (.slice A450_3 ((rd_T63 l0 x27_2).f3).length c450_3)).heap[gb443]? = some (.cells #[.int .i64 a1_0, .slice A1_1 l1_1.length c1_1] 43 (0, 0))) := ⟨m24_q⟩
      have n2_ : Aside0 (((((w28.setCell ⟨gb451, 0, none⟩ (.int .i64 ((rd_T63 l0 x27_2).f0))).setCell ⟨gb451, 1, none⟩ (.int .i64 ((rd_T63 l0 x27_2).f1))).setCell ⟨gb451, 2, none⟩ (.int .i64 ((rd_T63 l0 x27_2).f2))).setCell ⟨gb451, 3, none⟩ (.slice A450_3 ((rd_T63 l0 x27_2).f3).length c450_3)).heap[gb444]? = some (.cells #[.int .i64 a3_0, .int .i64 a3_1, .int .i64 a3_2] 31 (0, 0))) := ⟨m25_q⟩
      have n3_ : Aside0 (((((w28.setCell ⟨gb451, 0, none⟩ (.int .i64 ((rd_T63 l0 x27_2).f0))).setCell ⟨gb451, 1, none⟩ (.int .i64 ((rd_T63 l0 x27_2).f1))).setCell ⟨gb451, 2, none⟩ (.int .i64 ((rd_T63 l0 x27_2).f2))).setCell ⟨gb451, 3, none⟩ (.slice A450_3 ((rd_T63 l0 x27_2).f3).length c450_3)).heap[gb451]? = some (.cells #[.int .i64 ((rd_T63 l0 x27_2).f0), .int .i64 ((rd_T63 l0 x27_2).f1), .int .i64 ((rd_T63 l0 x27_2).f2), .slice A450_3 ((rd_T63 l0 x27_2).f3).length c450_3] 63 (0, 0))) := ⟨m16_q⟩
      have n4_ : Aside0 (Below w.heap.size w ((((w28.setCell ⟨gb451, 0, none⟩ (.int .i64 ((rd_T63 l0 x27_2).f0))).setCell ⟨gb451, 1, none⟩ (.int .i64 ((rd_T63 l0 x27_2).f1))).setCell ⟨gb451, 2, none⟩ (.int .i64 ((rd_T63 l0 x27_2).f2))).setCell ⟨gb451, 3, none⟩ (.slice A450_3 ((rd_T63 l0 x27_2).f3).length c450_3))) := ⟨m22_q⟩
      (try clear HO_10)
      (try clear BK443)
      (try clear BK444)
      (try clear BK451)
      (try clear HB)
      generalize ((((w28.setCell ⟨gb451, 0, none⟩ (.int .i64 ((rd_T63 l0 x27_2).f0))).setCell ⟨gb451, 1, none⟩ (.int .i64 ((rd_T63 l0 x27_2).f1))).setCell ⟨gb451, 2, none⟩ (.int .i64 ((rd_T63 l0 x27_2).f2))).setCell ⟨gb451, 3, none⟩ (.slice A450_3 ((rd_T63 l0 x27_2).f3).length c450_3)) = w32 at n0_ n1_ n2_ n3_ n4_ ⊢
      have HO_10 := n0_
      have BK443 := n1_
      have BK444 := n2_
      have BK451 := n3_
      have HB := n4_
      clear n0_ n1_ n2_ n3_ n4_
      replace HO_10 := Ae_q (rD_q HO_10.out)
      replace BK443 := Ae_q (bW_q BK443.out)
      replace BK444 := Ae_q (bW_q BK444.out)
      replace BK451 := Ae_q (bW_q BK451.out)
      replace HB := Ae_q (bD_q HB.out)
      have p452 : 0 ≤ (x27_2 : Int) := oD_q (by assumption)
      have q452 : x27_2 < (l2.length : Int) := oD_q (by assumption)
      obtain ⟨ad452, e452, hx452_0⟩ := aI_q HR2.out x27_2 p452 q452
      have hw452_0 := hx452_0
      cases e452
      replace hx452_0 := cel HB.out hx452_0
      replace p452 := eq_true p452
      replace q452 := eq_true q452
      obtain ⟨Ao34, co34, eo34⟩ := rS_q HO_10.out
      (first | subst eo34 | (injection eo34 with f1_ f2_ f3_; have f4_ := f1_.symm; have f5_ := f3_.symm; clear f1_ f2_ f3_; subst f4_; subst f5_))
      refine start_ (n := 10) (S := fun w' => w'.cell? ⟨gb443, 0, none⟩ = some (.int .i64 a1_0) ∧ w'.cell? ⟨gb443, 1, none⟩ = some (.slice A1_1 l1_1.length c1_1) ∧ w'.cell? ⟨gb444, 0, none⟩ = some (.int .i64 a3_0) ∧ w'.cell? ⟨gb444, 1, none⟩ = some (.int .i64 a3_1) ∧ w'.cell? ⟨gb444, 2, none⟩ = some (.int .i64 a3_2) ∧ w'.cell? ⟨gb451, 0, none⟩ = some (.int .i64 ((rd_T63 l0 x27_2).f0)) ∧ w'.cell? ⟨gb451, 1, none⟩ = some (.int .i64 ((rd_T63 l0 x27_2).f1)) ∧ w'.cell? ⟨gb451, 2, none⟩ = some (.int .i64 ((rd_T63 l0 x27_2).f2)) ∧ w'.cell? ⟨gb451, 3, none⟩ = some (.slice A450_3 ((rd_T63 l0 x27_2).f3).length c450_3) ∧ w'.cell? (ad452.add (x27_2).toNat) = some (.int .i64 (rd l2 x27_2))) (ds := []) #[false, false, false, false, false, false, false, false, false, false] m7_q rfl rfl ⟨(bC_q BK443.out 0).trans rfl, (bC_q BK443.out 1).trans rfl, (bC_q BK444.out 0).trans rfl, (bC_q BK444.out 1).trans rfl, (bC_q BK444.out 2).trans rfl, (bC_q BK451.out 0).trans rfl, (bC_q BK451.out 1).trans rfl, (bC_q BK451.out 2).trans rfl, (bC_q BK451.out 3).trans rfl, (cel HB.out hw452_0)⟩ (fun hHeld => ?_); refine with_tabW impl_OutageRepair.tab7 impl_OutageRepair.bits7 (fun HT_ HW_ => ?_)
      generalize w32.drew = w33 at HO_10 BK443 BK444 BK451 HB hx452_0 hHeld ⊢
      refine pJ HT_ 0 32 rfl rfl ?_
      refine pJ HT_ 2 34 rfl rfl ?_
      refine pJ HT_ 3 35 rfl rfl ?_
      refine pJ HT_ 4 36 rfl rfl ?_
      refine pJ HT_ 5 37 rfl rfl ?_
      refine pJ HT_ 7 39 rfl rfl ?_
      refine take_ (i := 1) (N := some 33) (v := ?_) (a' := ?_) #[true, true, true, true, true, true, false, true, false, false] rfl rfl (take_ofW HT_.out HW_.out m7_q) (fun _ _ _ h => h) (Or.inl ⟨by rfl, ?_⟩) hHeld ?_ ?_
      rotate_left
      ·rintro w' ⟨s0, s1, s2, s3, s4, s5, s6, s7, s8, s9⟩
       go_simp
       with_reducible rfl
      rotate_left
      ·simp only [pS_q]
       rfl
      refine take_ (i := 6) (N := some 38) (v := ?_) (a' := ?_) #[true, true, true, true, true, true, true, true, false, false] rfl rfl (take_ofW HT_.out HW_.out m7_q) (fun _ _ _ h => h) (Or.inl ⟨by rfl, ?_⟩) hHeld ?_ ?_
      rotate_left
      ·rintro w' ⟨s0, s1, s2, s3, s4, s5, s6, s7, s8, s9⟩
       go_simp
       with_reducible rfl
      rotate_left
      ·simp only [pS_q]
       rfl
      refine one_ (i := 8) (N := some 40) #[true, true, true, true, true, true, true, true, true, false] rfl rfl (one_of HT_.out m7_q) (by decide) (fun K hK => ?_)
      refine goes_ Try.func50 m7_q rfl #[.slice (some ad450) l0.length c0, .agg #[.int .i64 a1_0, .slice A1_1 l1_1.length c1_1], .slice Ao34 x10_2.length co34, .int .i64 (rd l2 x27_2), .func (.func 55) #[] #[.pointer (some ⟨gb444, 0, none⟩), .pointer (some ⟨gb451, 0, none⟩)]] (by rfl) rfl rfl m1_q ?_
      refine (impl_placeO.calls (impl_mayO a3_0 a3_1 a3_2 (rd_T63 l0 x27_2)) gb444 gb451 k2 _ _ l0 a1_0 _ _ l1_1 _ _ x10_2 (rd l2 x27_2) 0 t453 _ ?side1 ?side2 ?side3 ?side4 ?side5 ?side6 ?sidem A26.out).mono ?_
      (case sidem => exact m36_q)
      (case side1 => exact m20_q)
      (case side2 => exact m57_q)
      (case side3 => exact m32_q)
      (case side4 => exact m64_q)
      (case side5 => exact m62_q)
      (case side6 => exact m112_q)
      rintro e w' ⟨rfl, hb⟩
      refine ⟨_, rfl, ?_⟩
      replace HO_10 := Ae_q (rO_q (rup HO_10.out) hb)
      replace BK443 := Ae_q (bB_q (g := gb443) (o := .cells #[.int .i64 a1_0, .slice A1_1 l1_1.length c1_1] 43 (0, 0)) (bup BK443.out) hb)
      replace BK444 := Ae_q (bB_q (g := gb444) (o := .cells #[.int .i64 a3_0, .int .i64 a3_1, .int .i64 a3_2] 31 (0, 0)) (bup BK444.out) hb)
      replace BK451 := Ae_q (bB_q (g := gb451) (o := .cells #[.int .i64 ((rd_T63 l0 x27_2).f0), .int .i64 ((rd_T63 l0 x27_2).f1), .int .i64 ((rd_T63 l0 x27_2).f2), .slice A450_3 ((rd_T63 l0 x27_2).f3).length c450_3] 63 (0, 0)) (bup BK451.out) hb)
      replace HB := Ae_q (bT_q m22_q hb)
      (try clear hb)
      (try clear hb2)
      (try clear hk)
      (try clear hi)
      refine hK.out _ _ ⟨(bC_q BK443.out 0).trans rfl, (bC_q BK443.out 1).trans rfl, (bC_q BK444.out 0).trans rfl, (bC_q BK444.out 1).trans rfl, (bC_q BK444.out 2).trans rfl, (bC_q BK451.out 0).trans rfl, (bC_q BK451.out 1).trans rfl, (bC_q BK451.out 2).trans rfl, (bC_q BK451.out 3).trans rfl, (cel HB.out hw452_0)⟩ (fun hHeld => ?_)
      clear hK K
      refine nJ_q ?_
      refine pJ HT_ 9 13 rfl rfl ?_
      refine done_ (done_of HT_.out m7_q) ?_
      try go_wp2
      go_ret2
      exact ⟨_, m4_q, m92_q, m22_q⟩
     rw [if_neg c27] at H
     have c27b0 : decide (t453 < 0) = false := dF_q c27
     clear c27
     by_cases c36 : x10_2.length < 17592186044416
     rotate_left
     ·rw [if_neg c36] at H
      exact absurd H (by simp)
     rw [if_pos c36] at H
     have LMc36 := Ae_q c36
     clear c36
     obtain ⟨y454, hy454⟩ : ∃ y_ : List Int, y_ = (x10_2 ++ [t453]) := ⟨_, rfl⟩
     replace H : (impl_OutageRepair.l0 a3_0 a3_1 a3_2 k2 l0 l2 y454 l0 (l0.length : Int) (wrap64 (x27_2 + 1)) a1_0 l1_1) = some (r1, r2) := by first | (rw [hy454]; with_reducible exact H) | (have H2_ := (oS_q _ _).symm.trans H; rw [hy454]; with_reducible exact H2_) | (have H2_ := (oS_q _ _).symm.trans H; with_reducible exact H2_) | with_reducible exact H | (rw [hy454]; exact H) | exact H
     have Ny454 := Ae_q hy454
     clear hy454
     have H' := Ae_q H
     clear H
     have p450 : 0 ≤ (x27_2 : Int) := oD_q (by assumption)
     have q450 : x27_2 < (l0.length : Int) := oD_q (by assumption)
     obtain ⟨ad450, A450_3, c450_3, e450, hx450_0, hx450_1, hx450_2, hx450_3, hl450_3, hi450_3⟩ := at_T63 HR0.out x27_2 p450 q450
     cases e450
     replace hx450_0 := cel HB.out hx450_0
     replace hx450_1 := cel HB.out hx450_1
     replace hx450_2 := cel HB.out hx450_2
     replace hx450_3 := cel HB.out hx450_3
     have HR450_3 := Ae_q hi450_3
     have HC450_3 := Ae_q hl450_3
     clear hi450_3 hl450_3
     replace p450 := eq_true p450
     replace q450 := eq_true q450
     try go_wp2_with (first | ((with_reducible refine gD_q (N := 12) rfl ?_); refine bE_q ?hg (N := 12) ?hd (cs := #[.int .i64 0, .int .i64 0, .int .i64 0, .slice none 0 0]) (t := 63) ?hr ?_; (case hd => rfl); (case hg => rfl); (case hr => exact m6_q); intro gb451 hg w37 hbox hb; replace HO_10 := Ae_q (rO_q (rup HO_10.out) hb); have BK451 := Ae_q (hbox); have GW451 := Ae_q ((by rw [hg]; exact (bZ_q m12_q) : w.heap.size ≤ gb451)); have GE451 := Ae_q ((by rw [hg]; exact (bZ_q m12_q) : w.heap.size ≤ gb451)); replace HB := Ae_q (bT_q m12_q hb); have NB443_451 := Ae_q ((by rw [hg]; exact nL_q (blk_lt (g := gb443) (o := .cells #[.int .i64 a1_0, .slice A1_1 l1_1.length c1_1] 43 (0, 0)) (bup BK443.out)) : gb443 ≠ gb451)); have NB451_443 := Ae_q ((by rw [hg]; exact nG_q (blk_lt (g := gb443) (o := .cells #[.int .i64 a1_0, .slice A1_1 l1_1.length c1_1] 43 (0, 0)) (bup BK443.out)) : gb451 ≠ gb443)); replace BK443 := Ae_q (bB_q (g := gb443) (o := .cells #[.int .i64 a1_0, .slice A1_1 l1_1.length c1_1] 43 (0, 0)) (bup BK443.out) hb); have NB444_451 := Ae_q ((by rw [hg]; exact nL_q (blk_lt (g := gb444) (o := .cells #[.int .i64 a3_0, .int .i64 a3_1, .int .i64 a3_2] 31 (0, 0)) (bup BK444.out)) : gb444 ≠ gb451)); have NB451_444 := Ae_q ((by rw [hg]; exact nG_q (blk_lt (g := gb444) (o := .cells #[.int .i64 a3_0, .int .i64 a3_1, .int .i64 a3_2] 31 (0, 0)) (bup BK444.out)) : gb451 ≠ gb444)); replace BK444 := Ae_q (bB_q (g := gb444) (o := .cells #[.int .i64 a3_0, .int .i64 a3_1, .int .i64 a3_2] 31 (0, 0)) (bup BK444.out) hb); clear hb hbox hg; have hnb38 := NB451_443.out; have hnc38 := NB443_451.out; have hnb39 := NB451_444.out; have hnc39 := NB444_451.out; have hcz40_0 : cI w37 gb451 0 0 := cZ BK451 0 rfl; have hcz40_1 : cI w37 gb451 1 0 := cZ BK451 1 rfl; have hcz40_2 : cI w37 gb451 2 0 := cZ BK451 2 rfl; have hcz40_3 : w37.cell? ⟨gb451, 3, none⟩ = some (.slice none 0 0) := (bC_q BK451.out 3).trans rfl; have hfz40_0 := bF_q BK451.out 0; have hfz40_1 := bF_q BK451.out 1; have hfz40_2 := bF_q BK451.out 2; have hfz40_3 := bF_q BK451.out 3))
     have n0_ : Aside0 (Kd.R kI_q 3 ((((w37.setCell ⟨gb451, 0, none⟩ (.int .i64 ((rd_T63 l0 x27_2).f0))).setCell ⟨gb451, 1, none⟩ (.int .i64 ((rd_T63 l0 x27_2).f1))).setCell ⟨gb451, 2, none⟩ (.int .i64 ((rd_T63 l0 x27_2).f2))).setCell ⟨gb451, 3, none⟩ (.slice A450_3 ((rd_T63 l0 x27_2).f3).length c450_3)) w.heap.size (fun _ => True) u10 x10_2) := ⟨by (with_reducible repeat (first | apply rA_q | apply rN_q | apply rD_q)); exact rM_q (Kd.R_far (p := ⟨gb451, 3, none⟩) (Kd.R_far (p := ⟨gb451, 2, none⟩) (Kd.R_far (p := ⟨gb451, 1, none⟩) (Kd.R_far (p := ⟨gb451, 0, none⟩) (Kd.R_types HO_10.out BK451.out (by decide)) (fun _ hk => hk.2) (.int .i64 ((rd_T63 l0 x27_2).f0))) (fun _ hk => hk.2) (.int .i64 ((rd_T63 l0 x27_2).f1))) (fun _ hk => hk.2) (.int .i64 ((rd_T63 l0 x27_2).f2))) (fun _ hk => hk.2) (.slice A450_3 ((rd_T63 l0 x27_2).f3).length c450_3)) (fun _ hk => trivial)⟩
     have n1_ : Aside0 (((((w37.setCell ⟨gb451, 0, none⟩ (.int .i64 ((rd_T63 l0 x27_2).f0))).setCell ⟨gb451, 1, none⟩ (.int .i64 ((rd_T63 l0 x27_2).f1))).setCell ⟨gb451, 2, none⟩ (.int .i64 ((rd_T63 l0 x27_2).f2))).setCell ⟨gb451, 3, none⟩ (.slice A450_3 ((rd_T63 l0 x27_2).f3).length c450_3)).heap[gb443]? = some (.cells #[.int .i64 a1_0, .slice A1_1 l1_1.length c1_1] 43 (0, 0))) := ⟨m24_q⟩
     have n2_ : Aside0 (((((w37.setCell ⟨gb451, 0, none⟩ (.int .i64 ((rd_T63 l0 x27_2).f0))).setCell ⟨gb451, 1, none⟩ (.int .i64 ((rd_T63 l0 x27_2).f1))).setCell ⟨gb451, 2, none⟩ (.int .i64 ((rd_T63 l0 x27_2).f2))).setCell ⟨gb451, 3, none⟩ (.slice A450_3 ((rd_T63 l0 x27_2).f3).length c450_3)).heap[gb444]? = some (.cells #[.int .i64 a3_0, .int .i64 a3_1, .int .i64 a3_2] 31 (0, 0))) := ⟨m25_q⟩
     have n3_ : Aside0 (((((w37.setCell ⟨gb451, 0, none⟩ (.int .i64 ((rd_T63 l0 x27_2).f0))).setCell ⟨gb451, 1, none⟩ (.int .i64 ((rd_T63 l0 x27_2).f1))).setCell ⟨gb451, 2, none⟩ (.int .i64 ((rd_T63 l0 x27_2).f2))).setCell ⟨gb451, 3, none⟩ (.slice A450_3 ((rd_T63 l0 x27_2).f3).length c450_3)).heap[gb451]? = some (.cells #[.int .i64 ((rd_T63 l0 x27_2).f0), .int .i64 ((rd_T63 l0 x27_2).f1), .int .i64 ((rd_T63 l0 x27_2).f2), .slice A450_3 ((rd_T63 l0 x27_2).f3).length c450_3] 63 (0, 0))) := ⟨m16_q⟩
     have n4_ : Aside0 (Below w.heap.size w ((((w37.setCell ⟨gb451, 0, none⟩ (.int .i64 ((rd_T63 l0 x27_2).f0))).setCell ⟨gb451, 1, none⟩ (.int .i64 ((rd_T63 l0 x27_2).f1))).setCell ⟨gb451, 2, none⟩ (.int .i64 ((rd_T63 l0 x27_2).f2))).setCell ⟨gb451, 3, none⟩ (.slice A450_3 ((rd_T63 l0 x27_2).f3).length c450_3))) := ⟨m22_q⟩
     (try clear HO_10)
     (try clear BK443)
     (try clear BK444)
     (try clear BK451)
     (try clear HB)
     generalize ((((w37.setCell ⟨gb451, 0, none⟩ (.int .i64 ((rd_T63 l0 x27_2).f0))).setCell ⟨gb451, 1, none⟩ (.int .i64 ((rd_T63 l0 x27_2).f1))).setCell ⟨gb451, 2, none⟩ (.int .i64 ((rd_T63 l0 x27_2).f2))).setCell ⟨gb451, 3, none⟩ (.slice A450_3 ((rd_T63 l0 x27_2).f3).length c450_3)) = w41 at n0_ n1_ n2_ n3_ n4_ ⊢
     have HO_10 := n0_
     have BK443 := n1_
     have BK444 := n2_
     have BK451 := n3_
     have HB := n4_
     clear n0_ n1_ n2_ n3_ n4_
     replace HO_10 := Ae_q (rD_q HO_10.out)
     replace BK443 := Ae_q (bW_q BK443.out)
     replace BK444 := Ae_q (bW_q BK444.out)
     replace BK451 := Ae_q (bW_q BK451.out)
     replace HB := Ae_q (bD_q HB.out)
     have p452 : 0 ≤ (x27_2 : Int) := oD_q (by assumption)
     have q452 : x27_2 < (l2.length : Int) := oD_q (by assumption)
     obtain ⟨ad452, e452, hx452_0⟩ := aI_q HR2.out x27_2 p452 q452
     have hw452_0 := hx452_0
     cases e452
     replace hx452_0 := cel HB.out hx452_0
     replace p452 := eq_true p452
     replace q452 := eq_true q452
     obtain ⟨Ao43, co43, eo43⟩ := rS_q HO_10.out
     (first | subst eo43 | (injection eo43 with f1_ f2_ f3_; have f4_ := f1_.symm; have f5_ := f3_.symm; clear f1_ f2_ f3_; subst f4_; subst f5_))
     refine start_ (n := 10) (S := fun w' => w'.cell? ⟨gb443, 0, none⟩ = some (.int .i64 a1_0) ∧ w'.cell? ⟨gb443, 1, none⟩ = some (.slice A1_1 l1_1.length c1_1) ∧ w'.cell? ⟨gb444, 0, none⟩ = some (.int .i64 a3_0) ∧ w'.cell? ⟨gb444, 1, none⟩ = some (.int .i64 a3_1) ∧ w'.cell? ⟨gb444, 2, none⟩ = some (.int .i64 a3_2) ∧ w'.cell? ⟨gb451, 0, none⟩ = some (.int .i64 ((rd_T63 l0 x27_2).f0)) ∧ w'.cell? ⟨gb451, 1, none⟩ = some (.int .i64 ((rd_T63 l0 x27_2).f1)) ∧ w'.cell? ⟨gb451, 2, none⟩ = some (.int .i64 ((rd_T63 l0 x27_2).f2)) ∧ w'.cell? ⟨gb451, 3, none⟩ = some (.slice A450_3 ((rd_T63 l0 x27_2).f3).length c450_3) ∧ w'.cell? (ad452.add (x27_2).toNat) = some (.int .i64 (rd l2 x27_2))) (ds := []) #[false, false, false, false, false, false, false, false, false, false] m7_q rfl rfl ⟨(bC_q BK443.out 0).trans rfl, (bC_q BK443.out 1).trans rfl, (bC_q BK444.out 0).trans rfl, (bC_q BK444.out 1).trans rfl, (bC_q BK444.out 2).trans rfl, (bC_q BK451.out 0).trans rfl, (bC_q BK451.out 1).trans rfl, (bC_q BK451.out 2).trans rfl, (bC_q BK451.out 3).trans rfl, (cel HB.out hw452_0)⟩ (fun hHeld => ?_); refine with_tabW impl_OutageRepair.tab7 impl_OutageRepair.bits7 (fun HT_ HW_ => ?_)
     generalize w41.drew = w42 at HO_10 BK443 BK444 BK451 HB hx452_0 hHeld ⊢
     refine pJ HT_ 0 32 rfl rfl ?_
     refine pJ HT_ 2 34 rfl rfl ?_
     refine pJ HT_ 3 35 rfl rfl ?_
     refine pJ HT_ 4 36 rfl rfl ?_
     refine pJ HT_ 5 37 rfl rfl ?_
     refine pJ HT_ 7 39 rfl rfl ?_
     refine take_ (i := 1) (N := some 33) (v := ?_) (a' := ?_) #[true, true, true, true, true, true, false, true, false, false] rfl rfl (take_ofW HT_.out HW_.out m7_q) (fun _ _ _ h => h) (Or.inl ⟨by rfl, ?_⟩) hHeld ?_ ?_
     rotate_left
     ·rintro w' ⟨s0, s1, s2, s3, s4, s5, s6, s7, s8, s9⟩
      go_simp
      with_reducible rfl
     rotate_left
     ·simp only [pS_q]
      rfl
     refine take_ (i := 6) (N := some 38) (v := ?_) (a' := ?_) #[true, true, true, true, true, true, true, true, false, false] rfl rfl (take_ofW HT_.out HW_.out m7_q) (fun _ _ _ h => h) (Or.inl ⟨by rfl, ?_⟩) hHeld ?_ ?_
     rotate_left
     ·rintro w' ⟨s0, s1, s2, s3, s4, s5, s6, s7, s8, s9⟩
      go_simp
      with_reducible rfl
     rotate_left
     ·simp only [pS_q]
      rfl
     refine one_ (i := 8) (N := some 40) #[true, true, true, true, true, true, true, true, true, false] rfl rfl (one_of HT_.out m7_q) (by decide) (fun K hK => ?_)
     refine goes_ Try.func50 m7_q rfl #[.slice (some ad450) l0.length c0, .agg #[.int .i64 a1_0, .slice A1_1 l1_1.length c1_1], .slice Ao43 x10_2.length co43, .int .i64 (rd l2 x27_2), .func (.func 55) #[] #[.pointer (some ⟨gb444, 0, none⟩), .pointer (some ⟨gb451, 0, none⟩)]] (by rfl) rfl rfl m1_q ?_
     refine (impl_placeO.calls (impl_mayO a3_0 a3_1 a3_2 (rd_T63 l0 x27_2)) gb444 gb451 k2 _ _ l0 a1_0 _ _ l1_1 _ _ x10_2 (rd l2 x27_2) 0 t453 _ ?side1 ?side2 ?side3 ?side4 ?side5 ?side6 ?sidem A26.out).mono ?_
     (case sidem => exact m36_q)
     (case side1 => exact m20_q)
     (case side2 => exact m57_q)
     (case side3 => exact m32_q)
     (case side4 => exact m64_q)
     (case side5 => exact m62_q)
     (case side6 => exact m112_q)
     rintro e w' ⟨rfl, hb⟩
     refine ⟨_, rfl, ?_⟩
     replace HO_10 := Ae_q (rO_q (rup HO_10.out) hb)
     replace BK443 := Ae_q (bB_q (g := gb443) (o := .cells #[.int .i64 a1_0, .slice A1_1 l1_1.length c1_1] 43 (0, 0)) (bup BK443.out) hb)
     replace BK444 := Ae_q (bB_q (g := gb444) (o := .cells #[.int .i64 a3_0, .int .i64 a3_1, .int .i64 a3_2] 31 (0, 0)) (bup BK444.out) hb)
     replace BK451 := Ae_q (bB_q (g := gb451) (o := .cells #[.int .i64 ((rd_T63 l0 x27_2).f0), .int .i64 ((rd_T63 l0 x27_2).f1), .int .i64 ((rd_T63 l0 x27_2).f2), .slice A450_3 ((rd_T63 l0 x27_2).f3).length c450_3] 63 (0, 0)) (bup BK451.out) hb)
     replace HB := Ae_q (bT_q m22_q hb)
     (try clear hb)
     (try clear hb2)
     (try clear hk)
     (try clear hi)
     refine hK.out _ _ ⟨(bC_q BK443.out 0).trans rfl, (bC_q BK443.out 1).trans rfl, (bC_q BK444.out 0).trans rfl, (bC_q BK444.out 1).trans rfl, (bC_q BK444.out 2).trans rfl, (bC_q BK451.out 0).trans rfl, (bC_q BK451.out 1).trans rfl, (bC_q BK451.out 2).trans rfl, (bC_q BK451.out 3).trans rfl, (cel HB.out hw452_0)⟩ (fun hHeld => ?_)
     clear hK K
     refine nJ_q ?_
     refine pJ HT_ 9 13 rfl rfl ?_
     refine done_ (done_of HT_.out m7_q) ?_
     try go_wp2_with (first | ((with_reducible refine gate_builtin (b := .append) (xs := #[.tmp 43, .tmp 45]) rfl ?_); at_builtin; refine Kd.R_append kI_q (w0 := w) w.heap.size rfl (.tmp 43) (.tmp 45) 23 3 (.int .i64 0) 8 rfl Try.underlying23 info3 rfl (by decide) (by omega) (.slice Ao43 x10_2.length co43) x10_2 t453 [.int .i64 t453] (fun _ => True) (fun _ => False) rfl rfl ?aP (fun _ hk => hk.elim) ?aF ?aO ?aB ?aS ?aL ?_; (case aP => exact rfl); (case aB => exact m22_q); (case aF => exact (fun _ _ => trivial)); (case aO => exact (rup HO_10.out)); (case aS => exact (bZ_q m22_q)); (case aL => exact m103_q); intro v455 w45 ho hb hg hat; rw [← Ny454.out] at ho; replace BK443 := Ae_q (bG_q (g := gb443) (o := .cells #[.int .i64 a1_0, .slice A1_1 l1_1.length c1_1] 43 (0, 0)) (bup BK443.out) hg (Kd.R_ne HO_10.out BK443.out (by decide))); replace BK444 := Ae_q (bG_q (g := gb444) (o := .cells #[.int .i64 a3_0, .int .i64 a3_1, .int .i64 a3_2] 31 (0, 0)) (bup BK444.out) hg (Kd.R_ne HO_10.out BK444.out (by decide))); replace BK451 := Ae_q (bG_q (g := gb451) (o := .cells #[.int .i64 ((rd_T63 l0 x27_2).f0), .int .i64 ((rd_T63 l0 x27_2).f1), .int .i64 ((rd_T63 l0 x27_2).f2), .slice A450_3 ((rd_T63 l0 x27_2).f3).length c450_3] 63 (0, 0)) (bup BK451.out) hg (Kd.R_ne HO_10.out BK451.out (by decide))); replace HB := Ae_q (hb); have HO456 := Ae_q (ho); clear HO_10; clear ho hb hg hat))
     go_roundg k2
     case measure => have := HJ4.out; have := HK2.out; omega
     case rel => exact ⟨(y454), (wrap64 (x27_2 + 1)), m5_q, H', ⟨by have := HJ4.out; have := HK2.out; omega⟩, ⟨rup HO456.out⟩, ⟨bup BK443.out⟩, ⟨bup BK444.out⟩, ⟨m22_q⟩⟩

end Go.Proofs.Ytfnpiacmlahegaa.PRp
