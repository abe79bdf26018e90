import Derived.Test.YtfnpiacmlahegaaVDPRpx0
import Derived.Test.YtfnpiacmlahegaaVDPRpx5
import Derived.Test.YtfnpiacmlahegaaVDPRpx18
import Derived.Test.YtfnpiacmlahegaaVDPRpx23
namespace Go.Proofs.Ytfnpiacmlahegaa.PRp
open Go.RowKit Go.Proofs.YtfnpiacmlahegaaW.PrintWords Go.Proofs.YtfnpiacmlahegaaW.PrintLast Go.Proofs.YtfnpiacmlahegaaW.PrintMore
attribute [local go_sem] max2_int min2_int max_two min_two max_three min_three max_four min_four
set_option linter.unusedVariables false
set_option linter.unusedSimpArgs false

def impl_mayO (o0 o1 o2 : Int) (s : S63) (x : Int) : Option Bool := (impl_Outage_disturbs.f o0 o1 o2 s.f0 s.f1 s.f2 s.f3 x).bind fun b => some (!b)
theorem impl_mayO.calls (o0 o1 o2 : Int) (s0 s1 s2 : Int) (l : List Int) (A : Option Addr) (c Bo Bs : Nat) (x : Int) (r : Bool) (W : World) (hbo : W.heap[Bo]? = some (.cells #[.int .i64 o0, .int .i64 o1, .int .i64 o2] 31 (0, 0))) (hbs : W.heap[Bs]? = some (.cells #[.int .i64 s0, .int .i64 s1, .int .i64 s2, .slice A l.length c] 63 (0, 0)))
    (hr : Kd.C kI_q W A l.length l) (hc : l.length ≤ c) (h : impl_mayO o0 o1 o2 ⟨s0, s1, s2, l⟩ x = some r) :
    Calls Try.prog 55 #[.int .i64 x, .pointer (some ⟨Bo, 0, none⟩), .pointer (some ⟨Bs, 0, none⟩)] W fun e w' => e = .returned (.bool r) ∧ Below W.heap.size W w' := by
 have o_0 : W.cell? ⟨Bo, 0, none⟩ = some (.int .i64 o0) := (bC_q hbo 0).trans rfl
 have o_1 : W.cell? ⟨Bo, 1, none⟩ = some (.int .i64 o1) := (bC_q hbo 1).trans rfl
 have o_2 : W.cell? ⟨Bo, 2, none⟩ = some (.int .i64 o2) := (bC_q hbo 2).trans rfl
 have s_0 : W.cell? ⟨Bs, 0, none⟩ = some (.int .i64 s0) := (bC_q hbs 0).trans rfl
 have s_1 : W.cell? ⟨Bs, 1, none⟩ = some (.int .i64 s1) := (bC_q hbs 1).trans rfl
 have s_2 : W.cell? ⟨Bs, 2, none⟩ = some (.int .i64 s2) := (bC_q hbs 2).trans rfl
 have s_3 : W.cell? ⟨Bs, 3, none⟩ = some (.slice A l.length c) := (bC_q hbs 3).trans rfl
 clear hbo hbs
 obtain ⟨b, h1, h2⟩ := oB_q.mp h
 obtain rfl := oI_q h2
 clear h h2
 have hcon := impl_Outage_disturbs.calls o0 o1 o2 s0 s1 s2 A c l x b W hr hc h1
 clear h1 hr hc
 go_enter Try.func55, Try.ntmps55
 go_wp2_with (go_at_call 40; refine hcon.mono ?_; rintro e w' ⟨rfl, hb⟩)
 go_ret
 exact ⟨rfl, hb⟩
mutual
def impl_OutageRepair.j0 (o0 o1 o2 : Int) : Nat → List (S63) → List Int → Bool → Int → List Int → Option (List Int × Bool)
 | 0, _, _, _, _, _ => none
 | k + 1, x0, x2, x23, x610000, x610001 => if x23 = true then (some (([] : List Int), false)) else (impl_OutageRepair.l0 o0 o1 o2 k x0 x2 (([] : List Int)) x0 (x0.length : Int) 0 x610000 x610001)
def impl_OutageRepair.l0 (o0 o1 o2 : Int) : Nat → List (S63) → List Int → List Int → List (S63) → Int → Int → Int → List Int → Option (List Int × Bool)
 | 0, _, _, _, _, _, _, _, _ => none
 | k + 1, x0, x2, x10, x25, x26, x27, x610000, x610001 => if x27 < x26 then (if 0 ≤ x27 then (if x27 < (x25.length : Int) then (if x27 < (x2.length : Int) then ((impl_placeO.f (impl_mayO o0 o1 o2 (rd_T63 x25 x27)) k x0 x610000 x610001 x10 (rd x2 x27) 0).bind fun t619 => (if t619 < 0 then (some (([] : List Int), false)) else (if x10.length < 17592186044416 then (impl_OutageRepair.l0 o0 o1 o2 k x0 x2 (x10 ++ [t619]) x25 x26 (wrap64 (x27 + 1)) x610000 x610001) else (none)))) else (none)) else (none)) else (none)) else (some (x10, true))
end
def impl_OutageRepair.f (k : Nat) (l0 : List (S63)) (a1_0 : Int) (l1_1 : List Int) (l2 : List Int) (a3_0 : Int) (a3_1 : Int) (a3_2 : Int) : Option (List Int × Bool) := (impl_PlanValid.f k l0 a1_0 l1_1 l2).bind fun t611 => (if t611 = true then ((impl_outageValid.f a3_0 a3_1 a3_2).bind fun t612 => (impl_OutageRepair.j0 a3_0 a3_1 a3_2 k l0 l2 (!t612) a1_0 l1_1)) else (impl_OutageRepair.j0 a3_0 a3_1 a3_2 k l0 l2 true a1_0 l1_1))
def impl_OutageRepair.T7 : Bool × List (List Nat × List Nat) := (true, [([], []), ([], []), ([], []), ([], []), ([], []), ([3, 4], [3, 4]), ([5], [5]), ([], []), ([0, 1, 2, 6, 7], [0, 1, 2, 6, 7]), ([8, 8, 0, 1, 2, 3, 4, 5, 6, 7, 8], [8])])
def impl_OutageRepair.B7 : List Nat := [0, 0, 0, 0, 0, 24, 56, 0, 255, 511]
theorem impl_OutageRepair.tab7 : rtab .any (opsOf Try.f28 7) = impl_OutageRepair.T7 := by kernel_rfl
theorem impl_OutageRepair.bits7 : waitsOk impl_OutageRepair.T7.2 impl_OutageRepair.B7 = true := by kernel_rfl
set_option maxHeartbeats 8000000 in
set_option maxRecDepth 100000 in
theorem impl_OutageRepair.calls (k : Nat) (A0 : Option Addr) (c0 : Nat) (l0 : List (S63)) (a1_0 : Int) (A1_1 : Option Addr) (c1_1 : Nat) (l1_1 : List Int) (A2 : Option Addr) (c2 : Nat) (l2 : List Int) (a3_0 : Int) (a3_1 : Int) (a3_2 : Int) (r1 : List Int) (r2 : Bool) (w : World) (hr0 : Kd.C k63 w A0 l0.length l0) (hc0 : l0.length ≤ c0) (hr1_1 : Kd.C kI_q w A1_1 l1_1.length l1_1) (hc1_1 : l1_1.length ≤ c1_1) (hr2 : Kd.C kI_q w A2 l2.length l2) (hc2 : l2.length ≤ c2) (h : impl_OutageRepair.f k l0 a1_0 l1_1 l2 a3_0 a3_1 a3_2 = some (r1, r2)) :
    Calls Try.prog 28 #[.slice A0 l0.length c0, .agg #[.int .i64 a1_0, .slice A1_1 l1_1.length c1_1], .slice A2 l2.length c2, .agg #[.int .i64 a3_0, .int .i64 a3_1, .int .i64 a3_2]] w fun e w' => ∃ v0_ : Value, e = .returned (.tuple #[v0_, .bool r2]) ∧ Kd.R kI_q 3 w' w.heap.size (fun _ => True) v0_ r1 ∧ Below w.heap.size w w' := by
 have hu43 := Try.underlying43
 have hu31 := Try.underlying31
 have hu63 := Try.underlying63
 have HR0 := Ae_q hr0
 have HC0 := Ae_q hc0
 clear hr0 hc0
 have HR1_1 := Ae_q hr1_1
 have HC1_1 := Ae_q hc1_1
 clear hr1_1 hc1_1
 have HR2 := Ae_q hr2
 have HC2 := Ae_q hc2
 clear hr2 hc2
 have HB := Ae_q (bR_q w.heap.size w)
 have H : ((impl_PlanValid.f k l0 a1_0 l1_1 l2).bind fun t611 => (if t611 = true then ((impl_outageValid.f a3_0 a3_1 a3_2).bind fun t612 => (impl_OutageRepair.j0 a3_0 a3_1 a3_2 k l0 l2 (!t612) a1_0 l1_1)) else (impl_OutageRepair.j0 a3_0 a3_1 a3_2 k l0 l2 true a1_0 l1_1))) = some (r1, r2) := h
 clear h
 have HC5 := Ae_q H
 clear H
 go_enter Try.func28, Try.ntmps28
 go_upto_region 1 with (first | ((first | ((with_reducible refine gD_q (N := 5) rfl ?_); refine bE_q ?hg (N := 5) ?hd (cs := #[.int .i64 a1_0, .slice A1_1 l1_1.length c1_1]) (t := 43) ?hr ?_; (case hd => rfl); (case hg => rfl); (case hr => exact m5_q); intro gb609 hg w' hbox hb; have BK609 := Ae_q (hbox); have GW609 := Ae_q ((by rw [hg]; exact (bZ_q (bel HB.out)) : w.heap.size ≤ gb609)); have GE609 := Ae_q ((by rw [hg]; exact (bZ_q (bel HB.out)) : w.heap.size ≤ gb609)); replace HB := Ae_q (bT_q (bel HB.out) hb)) | ((with_reducible refine gD_q (N := 7) rfl ?_); refine bE_q ?hg (N := 7) ?hd (cs := #[.int .i64 a3_0, .int .i64 a3_1, .int .i64 a3_2]) (t := 31) ?hr ?_; (case hd => rfl); (case hg => rfl); (case hr => exact m5_q); intro gb610 hg w7 hbox hb; have BK610 := Ae_q (hbox); have GW610 := Ae_q ((by rw [hg]; exact (bZ_q m134_q) : w.heap.size ≤ gb610)); have GE610 := Ae_q ((by rw [hg]; exact (bZ_q m134_q) : w.heap.size ≤ gb610)); replace HB := Ae_q (bT_q m134_q hb); have NB609_610 := Ae_q ((by rw [hg]; exact nL_q (blk_lt (g := gb609) (o := .cells #[.int .i64 a1_0, .slice A1_1 l1_1.length c1_1] 43 (0, 0)) (bup BK609.out)) : gb609 ≠ gb610)); have NB610_609 := Ae_q ((by rw [hg]; exact nG_q (blk_lt (g := gb609) (o := .cells #[.int .i64 a1_0, .slice A1_1 l1_1.length c1_1] 43 (0, 0)) (bup BK609.out)) : gb610 ≠ gb609)); replace BK609 := Ae_q (bB_q (g := gb609) (o := .cells #[.int .i64 a1_0, .slice A1_1 l1_1.length c1_1] 43 (0, 0)) (bup BK609.out) hb))); clear hb hbox hg))
 (try simp only [Act.put, sA_q, sZ_q, sS_q])
 go_cut [23] (fun v23 wc => ∃ (kq : Nat) (x23_4 : Bool), v23 = .bool x23_4 ∧ Aside0 (impl_OutageRepair.j0 a3_0 a3_1 a3_2 kq l0 l2 x23_4 a1_0 l1_1 = some (r1, r2)) ∧ Aside0 (kq ≤ k) ∧ Aside0 (wc.heap[gb609]? = some (.cells #[.int .i64 a1_0, (.slice A1_1 l1_1.length c1_1)] 43 (0, 0))) ∧ Aside0 (wc.heap[gb610]? = some (.cells #[.int .i64 a3_0, .int .i64 a3_1, .int .i64 a3_2] 31 (0, 0))) ∧ Aside0 (Below w.heap.size w wc))
 case first =>
  have H := HC5.out
  clear HC5
  replace H := oB_q.mp H
  obtain ⟨t611, A80, H⟩ := H
  replace H : (if t611 = true then ((impl_outageValid.f a3_0 a3_1 a3_2).bind fun t612 => (impl_OutageRepair.j0 a3_0 a3_1 a3_2 k l0 l2 (!t612) a1_0 l1_1)) else (impl_OutageRepair.j0 a3_0 a3_1 a3_2 k l0 l2 true a1_0 l1_1)) = some (r1, r2) := H
  have A8 := Ae_q A80
  clear A80
  by_cases c9 : t611 = true
  rotate_left
  ·replace c9 := fM_q.mpr c9
   subst c9
   have H1 : (impl_OutageRepair.j0 a3_0 a3_1 a3_2 k l0 l2 true a1_0 l1_1) = some (r1, r2) := by rw [if_neg (show ¬ (false = true) by decide)] at H; exact H
   clear H
   have H := H1
   clear H1
   have H' := Ae_q H
   clear H
   have hnb16 := NB609_610.out
   have hnc16 := NB610_609.out
   have hcz17_0 : cI w7 gb609 0 a1_0 := cZ BK609 0 rfl
   have hcz17_1 : w7.cell? ⟨gb609, 1, none⟩ = some (.slice A1_1 l1_1.length c1_1) := (bC_q BK609.out 1).trans rfl
   have hfz17_0 := bF_q BK609.out 0
   have hfz17_1 := bF_q BK609.out 1
   go_wp2_with (first | ((with_reducible refine gC_q (f := 31) rfl ?_); refine gL_q (some 17) rfl rfl Try.func31 m8_q rfl #[.slice A0 l0.length c0, .agg #[.int .i64 a1_0, .slice A1_1 l1_1.length c1_1], .slice A2 l2.length c2] rfl m0_q ?_; (with_reducible refine (impl_PlanValid.calls k _ _ l0 a1_0 _ _ l1_1 _ _ l2 false _ ?side1 ?side2 ?side3 ?side4 ?side5 ?side6 A8.out).mono ?_); (case side1 => exact m42_q); (case side2 => exact m97_q); (case side3 => exact m67_q); (case side4 => exact m119_q); (case side5 => exact m64_q); (case side6 => exact m120_q); rintro e w' ⟨rfl, hb⟩; refine ⟨_, rfl, ?_⟩; replace BK609 := Ae_q (bB_q (g := gb609) (o := .cells #[.int .i64 a1_0, .slice A1_1 l1_1.length c1_1] 43 (0, 0)) (bup BK609.out) hb); replace BK610 := Ae_q (bB_q (g := gb610) (o := .cells #[.int .i64 a3_0, .int .i64 a3_1, .int .i64 a3_2] 31 (0, 0)) (bup BK610.out) hb); replace HB := Ae_q (bT_q m20_q hb); (try clear hb); (try clear hb2); (try clear hk); (try clear hi)))
   go_meet
   case rel => exact ⟨_, (true), m7_q, H', ⟨m111_q⟩, ⟨bup BK609.out⟩, ⟨bup BK610.out⟩, ⟨m20_q⟩⟩
  subst c9
  have H1 : ((impl_outageValid.f a3_0 a3_1 a3_2).bind fun t612 => (impl_OutageRepair.j0 a3_0 a3_1 a3_2 k l0 l2 (!t612) a1_0 l1_1)) = some (r1, r2) := by rw [if_pos rfl] at H; exact H
  clear H
  have H := H1
  clear H1
  replace H := oB_q.mp H
  obtain ⟨t612, A100, H⟩ := H
  replace H : (impl_OutageRepair.j0 a3_0 a3_1 a3_2 k l0 l2 (!t612) a1_0 l1_1) = some (r1, r2) := H
  have A10 := Ae_q A100
  clear A100
  have H' := Ae_q H
  clear H
  have hnb11 := NB609_610.out
  have hnc11 := NB610_609.out
  have hcz12_0 : cI w7 gb609 0 a1_0 := cZ BK609 0 rfl
  have hcz12_1 : w7.cell? ⟨gb609, 1, none⟩ = some (.slice A1_1 l1_1.length c1_1) := (bC_q BK609.out 1).trans rfl
  have hfz12_0 := bF_q BK609.out 0
  have hfz12_1 := bF_q BK609.out 1
  go_wp2_with (first | ((with_reducible refine gC_q (f := 31) rfl ?_); refine gL_q (some 17) rfl rfl Try.func31 m8_q rfl #[.slice A0 l0.length c0, .agg #[.int .i64 a1_0, .slice A1_1 l1_1.length c1_1], .slice A2 l2.length c2] rfl m0_q ?_; (with_reducible refine (impl_PlanValid.calls k _ _ l0 a1_0 _ _ l1_1 _ _ l2 true _ ?side1 ?side2 ?side3 ?side4 ?side5 ?side6 A8.out).mono ?_); (case side1 => exact m42_q); (case side2 => exact m97_q); (case side3 => exact m67_q); (case side4 => exact m119_q); (case side5 => exact m64_q); (case side6 => exact m120_q); rintro e w13 ⟨rfl, hb⟩; refine ⟨_, rfl, ?_⟩; replace BK609 := Ae_q (bB_q (g := gb609) (o := .cells #[.int .i64 a1_0, .slice A1_1 l1_1.length c1_1] 43 (0, 0)) (bup BK609.out) hb); replace BK610 := Ae_q (bB_q (g := gb610) (o := .cells #[.int .i64 a3_0, .int .i64 a3_1, .int .i64 a3_2] 31 (0, 0)) (bup BK610.out) hb); replace HB := Ae_q (bT_q m20_q hb); (try clear hb); (try clear hb2); (try clear hk); (try clear hi); have hcz14_0 : cI w13 gb610 0 a3_0 := cZ BK610 0 rfl; have hcz14_1 : cI w13 gb610 1 a3_1 := cZ BK610 1 rfl; have hcz14_2 : cI w13 gb610 2 a3_2 := cZ BK610 2 rfl; have hfz14_0 := bF_q BK610.out 0; have hfz14_1 := bF_q BK610.out 1; have hfz14_2 := bF_q BK610.out 2) | (go_at_call 39; (with_reducible refine (impl_outageValid.calls a3_0 a3_1 a3_2 t612 _ A10.out).mono ?_); rintro e w' ⟨rfl, hb⟩; replace BK609 := Ae_q (bB_q (g := gb609) (o := .cells #[.int .i64 a1_0, .slice A1_1 l1_1.length c1_1] 43 (0, 0)) (bup BK609.out) hb); replace BK610 := Ae_q (bB_q (g := gb610) (o := .cells #[.int .i64 a3_0, .int .i64 a3_1, .int .i64 a3_2] 31 (0, 0)) (bup BK610.out) hb); replace HB := Ae_q (bT_q m20_q hb); (try clear hb); (try clear hb2); (try clear hk); (try clear hi)))
  go_meet
  case rel => exact ⟨_, (!t612), m7_q, H', ⟨m111_q⟩, ⟨bup BK609.out⟩, ⟨bup BK610.out⟩, ⟨m20_q⟩⟩
 case rest =>
  clear HC5
  try clear c1
  try clear c2
  try clear p2
  try clear c3
  try clear c9
  try clear c11
  try clear c16
  try clear hcz12_0
  try clear hcz12_1
  try clear hcz14_0
  try clear hcz14_1
  try clear hcz14_2
  try clear hcz17_0
  try clear hcz17_1
  try clear hfz12_0
  try clear hfz12_1
  try clear hfz14_0
  try clear hfz14_1
  try clear hfz14_2
  try clear hfz17_0
  try clear hfz17_1
  obtain ⟨kq, x23_4, rfl, HA, HJ4, BK609, BK610, HB⟩ := hcut
  cases kq with
  | zero => exact absurd HA.out (by simp [impl_OutageRepair.j0])
  | succ kj4 =>
   have H := HA.out
   clear HA
   simp only [impl_OutageRepair.j0] at H
   by_cases c19 : x23_4 = true
   ·subst c19
    have H1 : (some (([] : List Int), false)) = some (r1, r2) := by rw [if_pos rfl] at H; exact H
    clear H
    have H := H1
    clear H1
    simp only [oE_q, pE_q] at H
    obtain ⟨rfl, rfl⟩ := H
    go_wp2
    go_ret2
    exact ⟨_, m6_q, m141_q, m20_q⟩
   replace c19 := fM_q.mpr c19
   subst c19
   have H1 : (impl_OutageRepair.l0 a3_0 a3_1 a3_2 kj4 l0 l2 (([] : List Int)) l0 (l0.length : Int) 0 a1_0 l1_1) = some (r1, r2) := by rw [if_neg (show ¬ (false = true) by decide)] at H; exact H
   clear H
   have H := H1
   clear H1
   obtain ⟨y613, hy613⟩ : ∃ y_ : List Int, y_ = (([] : List Int)) := ⟨_, rfl⟩
   replace H : (impl_OutageRepair.l0 a3_0 a3_1 a3_2 kj4 l0 l2 y613 l0 (l0.length : Int) 0 a1_0 l1_1) = some (r1, r2) := by first | (rw [hy613]; with_reducible exact H) | (have H2_ := (oS_q _ _).symm.trans H; rw [hy613]; with_reducible exact H2_) | (have H2_ := (oS_q _ _).symm.trans H; with_reducible exact H2_) | with_reducible exact H | (rw [hy613]; exact H) | exact H
   have Ny613 := Ae_q hy613
   clear hy613
   have H' := Ae_q H
   clear H
   go_wp2_with (first | ((with_reducible refine gD_q (N := 24) rfl ?_); refine Kd.R_lit kI_q _ 3 ?hg (N := 24) ?hd (xs := ([] : List Int)) (inner := []) (ok := fun _ => True) (okp := fun _ => True) ?hr ?hp (fun _ hk => hk) trivial (bR_q _ _) (nR_q _) (by simp) ?_; (case hd => rfl); (case hg => rfl); (case hr => exact m5_q); (case hp => exact m104_q); intro v614 w20 ho21 hb hg_ hnew_; clear hg_ hnew_; (first | rw [← Ny613.out] at ho21 | (simp only [Int.reduceToNat] at ho21; rw [← Ny613.out] at ho21)); have HO615 := Ae_q (rL_q ho21 (bZ_q m20_q)); replace BK609 := Ae_q (bB_q (g := gb609) (o := .cells #[.int .i64 a1_0, .slice A1_1 l1_1.length c1_1] 43 (0, 0)) (bup BK609.out) hb); replace BK610 := Ae_q (bB_q (g := gb610) (o := .cells #[.int .i64 a3_0, .int .i64 a3_1, .int .i64 a3_2] 31 (0, 0)) (bup BK610.out) hb); replace HB := Ae_q (bT_q m20_q hb); clear hb ho21))
   go_loopg [10, 27] kj4 (fun kq v10 v27 w' => ∃ (x10_2 : List Int) (x27_2 : Int), v27 = .int .i64 x27_2 ∧ Aside0 (impl_OutageRepair.l0 a3_0 a3_1 a3_2 kq l0 l2 x10_2 l0 (l0.length : Int) x27_2 a1_0 l1_1 = some (r1, r2)) ∧ Aside0 (kq ≤ kj4) ∧ Aside0 (Kd.R kI_q 3 w' w.heap.size (fun _ => True) v10 x10_2) ∧ Aside0 (w'.heap[gb609]? = some (.cells #[.int .i64 a1_0, (.slice A1_1 l1_1.length c1_1)] 43 (0, 0))) ∧ Aside0 (w'.heap[gb610]? = some (.cells #[.int .i64 a3_0, .int .i64 a3_1, .int .i64 a3_2] 31 (0, 0))) ∧ Aside0 (Below w.heap.size w w'))
   case atStart => exact ⟨(y613), (0), m7_q, H', ⟨nR_q _⟩, ⟨rup HO615.out⟩, ⟨bup BK609.out⟩, ⟨bup BK610.out⟩, ⟨m20_q⟩⟩
   case round =>
    clear H'
    try clear c1
    try clear c2
    try clear p2
    try clear c3
    try clear c9
    try clear c11
    try clear c16
    try clear c19
    try clear hcz12_0
    try clear hcz12_1
    try clear hcz14_0
    try clear hcz14_1
    try clear hcz14_2
    try clear hcz17_0
    try clear hcz17_1
    try clear hfz12_0
    try clear hfz12_1
    try clear hfz14_0
    try clear hfz14_1
    try clear hfz14_2
    try clear hfz17_0
    try clear hfz17_1
    try clear p2
    obtain ⟨x10_2, x27_2, rfl, HA, HK2, HO_10, BK609, BK610, HB⟩ := hrel
    cases gk with
    | zero => exact absurd HA.out (by simp [impl_OutageRepair.l0])
    | succ k2 =>
     have H := HA.out
     clear HA
     simp only [impl_OutageRepair.l0] at H
     by_cases c22 : x27_2 < (l0.length : Int)
     rotate_left
     ·rw [if_neg c22] at H
      have c22b0 : decide (x27_2 < (l0.length : Int)) = false := dF_q c22
      clear c22
      simp only [oE_q, pE_q] at H
      obtain ⟨rfl, rfl⟩ := H
      go_wp2
      go_ret2
      exact ⟨_, m6_q, rup HO_10.out, m20_q⟩
     rw [if_pos c22] at H
     have c22b0 : decide (x27_2 < (l0.length : Int)) = true := dT_q c22
     clear c22
     by_cases c23 : 0 ≤ x27_2
     rotate_left
     ·rw [if_neg c23] at H
      exact absurd H (by simp)
     rw [if_pos c23] at H
     have c23b0 : decide (0 ≤ x27_2) = true := dT_q c23
     clear c23
     by_cases c24 : x27_2 < (l0.length : Int)
     rotate_left
     ·rw [if_neg c24] at H
      exact absurd H (by simp)
     rw [if_pos c24] at H
     have c24b0 : decide (x27_2 < (l0.length : Int)) = true := dT_q c24
     clear c24
     by_cases c25 : x27_2 < (l2.length : Int)
     rotate_left
     ·rw [if_neg c25] at H
      exact absurd H (by simp)
     rw [if_pos c25] at H
     have c25b0 : decide (x27_2 < (l2.length : Int)) = true := dT_q c25
     clear c25
     replace H := oB_q.mp H
     obtain ⟨t619, A260, H⟩ := H
     replace H : (if t619 < 0 then (some (([] : List Int), false)) else (if x10_2.length < 17592186044416 then (impl_OutageRepair.l0 a3_0 a3_1 a3_2 k2 l0 l2 (x10_2 ++ [t619]) l0 (l0.length : Int) (wrap64 (x27_2 + 1)) a1_0 l1_1) else (none))) = some (r1, r2) := H
     have A26 := Ae_q A260
     clear A260
     by_cases c27 : t619 < 0
     ·rw [if_pos c27] at H
      have c27b0 : decide (t619 < 0) = true := dT_q c27
      clear c27
      simp only [oE_q, pE_q] at H
      obtain ⟨rfl, rfl⟩ := H
      have p616 : 0 ≤ (x27_2 : Int) := oD_q (by assumption)
      have q616 : x27_2 < (l0.length : Int) := oD_q (by assumption)
      obtain ⟨ad616, A616_3, c616_3, e616, hx616_0, hx616_1, hx616_2, hx616_3, hl616_3, hi616_3⟩ := at_T63 HR0.out x27_2 p616 q616
      cases e616
      replace hx616_0 := cel HB.out hx616_0
      replace hx616_1 := cel HB.out hx616_1
      replace hx616_2 := cel HB.out hx616_2
      replace hx616_3 := cel HB.out hx616_3
      have HR616_3 := Ae_q hi616_3
      have HC616_3 := Ae_q hl616_3
      clear hi616_3 hl616_3
      replace p616 := eq_true p616
      replace q616 := eq_true q616
      try go_wp2_with (first | ((with_reducible refine gD_q (N := 12) rfl ?_); refine bE_q ?hg (N := 12) ?hd (cs := #[.int .i64 0, .int .i64 0, .int .i64 0, .slice none 0 0]) (t := 63) ?hr ?_; (case hd => rfl); (case hg => rfl); (case hr => exact m5_q); intro gb617 hg w28 hbox hb; replace HO_10 := Ae_q (rO_q (rup HO_10.out) hb); have BK617 := Ae_q (hbox); have GW617 := Ae_q ((by rw [hg]; exact (bZ_q m20_q) : w.heap.size ≤ gb617)); have GE617 := Ae_q ((by rw [hg]; exact (bZ_q m20_q) : w.heap.size ≤ gb617)); replace HB := Ae_q (bT_q m20_q hb); have NB609_617 := Ae_q ((by rw [hg]; exact nL_q (blk_lt (g := gb609) (o := .cells #[.int .i64 a1_0, .slice A1_1 l1_1.length c1_1] 43 (0, 0)) (bup BK609.out)) : gb609 ≠ gb617)); have NB617_609 := Ae_q ((by rw [hg]; exact nG_q (blk_lt (g := gb609) (o := .cells #[.int .i64 a1_0, .slice A1_1 l1_1.length c1_1] 43 (0, 0)) (bup BK609.out)) : gb617 ≠ gb609)); replace BK609 := Ae_q (bB_q (g := gb609) (o := .cells #[.int .i64 a1_0, .slice A1_1 l1_1.length c1_1] 43 (0, 0)) (bup BK609.out) hb); have NB610_617 := Ae_q ((by rw [hg]; exact nL_q (blk_lt (g := gb610) (o := .cells #[.int .i64 a3_0, .int .i64 a3_1, .int .i64 a3_2] 31 (0, 0)) (bup BK610.out)) : gb610 ≠ gb617)); have NB617_610 := Ae_q ((by rw [hg]; exact nG_q (blk_lt (g := gb610) (o := .cells #[.int .i64 a3_0, .int .i64 a3_1, .int .i64 a3_2] 31 (0, 0)) (bup BK610.out)) : gb617 ≠ gb610)); replace BK610 := Ae_q (bB_q (g := gb610) (o := .cells #[.int .i64 a3_0, .int .i64 a3_1, .int .i64 a3_2] 31 (0, 0)) (bup BK610.out) hb); clear hb hbox hg; have hnb29 := NB617_609.out; have hnc29 := NB609_617.out; have hnb30 := NB617_610.out; have hnc30 := NB610_617.out; have hcz31_0 : cI w28 gb617 0 0 := cZ BK617 0 rfl; have hcz31_1 : cI w28 gb617 1 0 := cZ BK617 1 rfl; have hcz31_2 : cI w28 gb617 2 0 := cZ BK617 2 rfl; have hcz31_3 : w28.cell? ⟨gb617, 3, none⟩ = some (.slice none 0 0) := (bC_q BK617.out 3).trans rfl; have hfz31_0 := bF_q BK617.out 0; have hfz31_1 := bF_q BK617.out 1; have hfz31_2 := bF_q BK617.out 2; have hfz31_3 := bF_q BK617.out 3))
      have n0_ : Aside0 (Kd.R kI_q 3 ((((w28.setCell ⟨gb617, 0, none⟩ (.int .i64 ((rd_T63 l0 x27_2).f0))).setCell ⟨gb617, 1, none⟩ (.int .i64 ((rd_T63 l0 x27_2).f1))).setCell ⟨gb617, 2, none⟩ (.int .i64 ((rd_T63 l0 x27_2).f2))).setCell ⟨gb617, 3, none⟩ (.slice A616_3 ((rd_T63 l0 x27_2).f3).length c616_3)) w.heap.size (fun _ => True) u10 x10_2) := ⟨by (with_reducible repeat (first | apply rA_q | apply rN_q | apply rD_q)); exact rM_q (Kd.R_far (p := ⟨gb617, 3, none⟩) (Kd.R_far (p := ⟨gb617, 2, none⟩) (Kd.R_far (p := ⟨gb617, 1, none⟩) (Kd.R_far (p := ⟨gb617, 0, none⟩) (Kd.R_types HO_10.out BK617.out (by decide)) (fun _ hk => hk.2) (.int .i64 ((rd_T63 l0 x27_2).f0))) (fun _ hk => hk.2) (.int .i64 ((rd_T63 l0 x27_2).f1))) (fun _ hk => hk.2) (.int .i64 ((rd_T63 l0 x27_2).f2))) (fun _ hk => hk.2) (.slice A616_3 ((rd_T63 l0 x27_2).f3).length c616_3)) (fun _ hk => trivial)⟩
      have n1_ : Aside0 (((((w28.setCell ⟨gb617, 0, none⟩ (.int .i64 ((rd_T63 l0 x27_2).f0))).setCell ⟨gb617, 1, none⟩ (.int .i64 ((rd_T63 l0 x27_2).f1))).setCell ⟨gb617, 2, none⟩ (.int .i64 ((rd_T63 l0 x27_2).f2))).setCell ⟨gb617, 3, none⟩ (.slice A616_3 ((rd_T63 l0 x27_2).f3).length c616_3)).heap[gb609]? = some (.cells #[.int .i64 a1_0, .slice A1_1 l1_1.length c1_1] 43 (0, 0))) := ⟨m50_q⟩
      have n2_ : Aside0 (((((w28.setCell ⟨gb617, 0, none⟩ (.int .i64 ((rd_T63 l0 x27_2).f0))).setCell ⟨gb617, 1, none⟩ (.int .i64 ((rd_T63 l0 x27_2).f1))).setCell ⟨gb617, 2, none⟩ (.int .i64 ((rd_T63 l0 x27_2).f2))).setCell ⟨gb617, 3, none⟩ (.slice A616_3 ((rd_T63 l0 x27_2).f3).length c616_3)).heap[gb610]? = some (.cells #[.int .i64 a3_0, .int .i64 a3_1, .int .i64 a3_2] 31 (0, 0))) := ⟨m51_q⟩
      have n3_ : Aside0 (((((w28.setCell ⟨gb617, 0, none⟩ (.int .i64 ((rd_T63 l0 x27_2).f0))).setCell ⟨gb617, 1, none⟩ (.int .i64 ((rd_T63 l0 x27_2).f1))).setCell ⟨gb617, 2, none⟩ (.int .i64 ((rd_T63 l0 x27_2).f2))).setCell ⟨gb617, 3, none⟩ (.slice A616_3 ((rd_T63 l0 x27_2).f3).length c616_3)).heap[gb617]? = some (.cells #[.int .i64 ((rd_T63 l0 x27_2).f0), .int .i64 ((rd_T63 l0 x27_2).f1), .int .i64 ((rd_T63 l0 x27_2).f2), .slice A616_3 ((rd_T63 l0 x27_2).f3).length c616_3] 63 (0, 0))) := ⟨m25_q⟩
      have n4_ : Aside0 (Below w.heap.size w ((((w28.setCell ⟨gb617, 0, none⟩ (.int .i64 ((rd_T63 l0 x27_2).f0))).setCell ⟨gb617, 1, none⟩ (.int .i64 ((rd_T63 l0 x27_2).f1))).setCell ⟨gb617, 2, none⟩ (.int .i64 ((rd_T63 l0 x27_2).f2))).setCell ⟨gb617, 3, none⟩ (.slice A616_3 ((rd_T63 l0 x27_2).f3).length c616_3))) := ⟨m43_q⟩
      (try clear HO_10)
      (try clear BK609)
      (try clear BK610)
      (try clear BK617)
      (try clear HB)
      generalize ((((w28.setCell ⟨gb617, 0, none⟩ (.int .i64 ((rd_T63 l0 x27_2).f0))).setCell ⟨gb617, 1, none⟩ (.int .i64 ((rd_T63 l0 x27_2).f1))).setCell ⟨gb617, 2, none⟩ (.int .i64 ((rd_T63 l0 x27_2).f2))).setCell ⟨gb617, 3, none⟩ (.slice A616_3 ((rd_T63 l0 x27_2).f3).length c616_3)) = w32 at n0_ n1_ n2_ n3_ n4_ ⊢
      have HO_10 := n0_
      have BK609 := n1_
      have BK610 := n2_
      have BK617 := n3_
      have HB := n4_
      clear n0_ n1_ n2_ n3_ n4_
      replace HO_10 := Ae_q (rD_q HO_10.out)
      replace BK609 := Ae_q (bW_q BK609.out)
      replace BK610 := Ae_q (bW_q BK610.out)
      replace BK617 := Ae_q (bW_q BK617.out)
      replace HB := Ae_q (bD_q HB.out)
      have p618 : 0 ≤ (x27_2 : Int) := oD_q (by assumption)
      have q618 : x27_2 < (l2.length : Int) := oD_q (by assumption)
      obtain ⟨ad618, e618, hx618_0⟩ := aI_q HR2.out x27_2 p618 q618
      have hw618_0 := hx618_0
      cases e618
      replace hx618_0 := cel HB.out hx618_0
      replace p618 := eq_true p618
      replace q618 := eq_true q618
      obtain ⟨Ao34, co34, eo34⟩ := rS_q HO_10.out
      (first | subst eo34 | (injection eo34 with f1_ f2_ f3_; have f4_ := f1_.symm; have f5_ := f3_.symm; clear f1_ f2_ f3_; subst f4_; subst f5_))
      refine start_ (n := 10) (S := fun w' => w'.cell? ⟨gb609, 0, none⟩ = some (.int .i64 a1_0) ∧ w'.cell? ⟨gb609, 1, none⟩ = some (.slice A1_1 l1_1.length c1_1) ∧ w'.cell? ⟨gb610, 0, none⟩ = some (.int .i64 a3_0) ∧ w'.cell? ⟨gb610, 1, none⟩ = some (.int .i64 a3_1) ∧ w'.cell? ⟨gb610, 2, none⟩ = some (.int .i64 a3_2) ∧ w'.cell? ⟨gb617, 0, none⟩ = some (.int .i64 ((rd_T63 l0 x27_2).f0)) ∧ w'.cell? ⟨gb617, 1, none⟩ = some (.int .i64 ((rd_T63 l0 x27_2).f1)) ∧ w'.cell? ⟨gb617, 2, none⟩ = some (.int .i64 ((rd_T63 l0 x27_2).f2)) ∧ w'.cell? ⟨gb617, 3, none⟩ = some (.slice A616_3 ((rd_T63 l0 x27_2).f3).length c616_3) ∧ w'.cell? (ad618.add (x27_2).toNat) = some (.int .i64 (rd l2 x27_2))) (ds := []) #[false, false, false, false, false, false, false, false, false, false] m8_q rfl rfl ⟨(bC_q BK609.out 0).trans rfl, (bC_q BK609.out 1).trans rfl, (bC_q BK610.out 0).trans rfl, (bC_q BK610.out 1).trans rfl, (bC_q BK610.out 2).trans rfl, (bC_q BK617.out 0).trans rfl, (bC_q BK617.out 1).trans rfl, (bC_q BK617.out 2).trans rfl, (bC_q BK617.out 3).trans rfl, (cel HB.out hw618_0)⟩ (fun hHeld => ?_); refine with_tabW impl_OutageRepair.tab7 impl_OutageRepair.bits7 (fun HT_ HW_ => ?_)
      generalize w32.drew = w33 at HO_10 BK609 BK610 BK617 HB hx618_0 hHeld ⊢
      refine pJ HT_ 0 32 rfl rfl ?_
      refine pJ HT_ 2 34 rfl rfl ?_
      refine pJ HT_ 3 35 rfl rfl ?_
      refine pJ HT_ 4 36 rfl rfl ?_
      refine pJ HT_ 5 37 rfl rfl ?_
      refine pJ HT_ 7 39 rfl rfl ?_
      refine take_ (i := 1) (N := some 33) (v := ?_) (a' := ?_) #[true, true, true, true, true, true, false, true, false, false] rfl rfl (take_ofW HT_.out HW_.out m8_q) (fun _ _ _ h => h) (Or.inl ⟨by rfl, ?_⟩) hHeld ?_ ?_
      rotate_left
      ·rintro w' ⟨s0, s1, s2, s3, s4, s5, s6, s7, s8, s9⟩
       go_simp
       with_reducible rfl
      rotate_left
      ·simp only [pS_q]
       rfl
      refine take_ (i := 6) (N := some 38) (v := ?_) (a' := ?_) #[true, true, true, true, true, true, true, true, false, false] rfl rfl (take_ofW HT_.out HW_.out m8_q) (fun _ _ _ h => h) (Or.inl ⟨by rfl, ?_⟩) hHeld ?_ ?_
      rotate_left
      ·rintro w' ⟨s0, s1, s2, s3, s4, s5, s6, s7, s8, s9⟩
       go_simp
       with_reducible rfl
      rotate_left
      ·simp only [pS_q]
       rfl
      refine one_ (i := 8) (N := some 40) #[true, true, true, true, true, true, true, true, true, false] rfl rfl (one_of HT_.out m8_q) (by decide) (fun K hK => ?_)
      refine goes_ Try.func50 m8_q rfl #[.slice (some ad616) l0.length c0, .agg #[.int .i64 a1_0, .slice A1_1 l1_1.length c1_1], .slice Ao34 x10_2.length co34, .int .i64 (rd l2 x27_2), .func (.func 55) #[] #[.pointer (some ⟨gb610, 0, none⟩), .pointer (some ⟨gb617, 0, none⟩)]] (by rfl) rfl rfl m0_q ?_
      refine (impl_placeO.calls (impl_mayO a3_0 a3_1 a3_2 (rd_T63 l0 x27_2)) gb610 gb617 k2 _ _ l0 a1_0 _ _ l1_1 _ _ x10_2 (rd l2 x27_2) 0 t619 _ ?side1 ?side2 ?side3 ?side4 ?side5 ?side6 ?sidem A26.out).mono ?_
      (case sidem => exact m63_q)
      (case side1 => exact m42_q)
      (case side2 => exact m97_q)
      (case side3 => exact m67_q)
      (case side4 => exact m119_q)
      (case side5 => exact m125_q)
      (case side6 => exact (rR_q HO_10.out).2.1)
      rintro e w' ⟨rfl, hb⟩
      refine ⟨_, rfl, ?_⟩
      replace HO_10 := Ae_q (rO_q (rup HO_10.out) hb)
      replace BK609 := Ae_q (bB_q (g := gb609) (o := .cells #[.int .i64 a1_0, .slice A1_1 l1_1.length c1_1] 43 (0, 0)) (bup BK609.out) hb)
      replace BK610 := Ae_q (bB_q (g := gb610) (o := .cells #[.int .i64 a3_0, .int .i64 a3_1, .int .i64 a3_2] 31 (0, 0)) (bup BK610.out) hb)
      replace BK617 := Ae_q (bB_q (g := gb617) (o := .cells #[.int .i64 ((rd_T63 l0 x27_2).f0), .int .i64 ((rd_T63 l0 x27_2).f1), .int .i64 ((rd_T63 l0 x27_2).f2), .slice A616_3 ((rd_T63 l0 x27_2).f3).length c616_3] 63 (0, 0)) (bup BK617.out) hb)
      replace HB := Ae_q (bT_q m43_q hb)
      (try clear hb)
      (try clear hb2)
      (try clear hk)
      (try clear hi)
      refine hK.out _ _ ⟨(bC_q BK609.out 0).trans rfl, (bC_q BK609.out 1).trans rfl, (bC_q BK610.out 0).trans rfl, (bC_q BK610.out 1).trans rfl, (bC_q BK610.out 2).trans rfl, (bC_q BK617.out 0).trans rfl, (bC_q BK617.out 1).trans rfl, (bC_q BK617.out 2).trans rfl, (bC_q BK617.out 3).trans rfl, (cel HB.out hw618_0)⟩ (fun hHeld => ?_)
      clear hK K
      refine nJ_q ?_
      refine pJ HT_ 9 13 rfl rfl ?_
      refine done_ (done_of HT_.out m8_q) ?_
      try go_wp2
      go_ret2
      exact ⟨_, m6_q, m141_q, m43_q⟩
     rw [if_neg c27] at H
     have c27b0 : decide (t619 < 0) = false := dF_q c27
     clear c27
     by_cases c36 : x10_2.length < 17592186044416
     rotate_left
     ·rw [if_neg c36] at H
      exact absurd H (by simp)
     rw [if_pos c36] at H
     have LMc36 := Ae_q c36
     clear c36
     obtain ⟨y620, hy620⟩ : ∃ y_ : List Int, y_ = (x10_2 ++ [t619]) := ⟨_, rfl⟩
     replace H : (impl_OutageRepair.l0 a3_0 a3_1 a3_2 k2 l0 l2 y620 l0 (l0.length : Int) (wrap64 (x27_2 + 1)) a1_0 l1_1) = some (r1, r2) := by first | (rw [hy620]; with_reducible exact H) | (have H2_ := (oS_q _ _).symm.trans H; rw [hy620]; with_reducible exact H2_) | (have H2_ := (oS_q _ _).symm.trans H; with_reducible exact H2_) | with_reducible exact H | (rw [hy620]; exact H) | exact H
     have Ny620 := Ae_q hy620
     clear hy620
     have H' := Ae_q H
     clear H
     have p616 : 0 ≤ (x27_2 : Int) := oD_q (by assumption)
     have q616 : x27_2 < (l0.length : Int) := oD_q (by assumption)
     obtain ⟨ad616, A616_3, c616_3, e616, hx616_0, hx616_1, hx616_2, hx616_3, hl616_3, hi616_3⟩ := at_T63 HR0.out x27_2 p616 q616
     cases e616
     replace hx616_0 := cel HB.out hx616_0
     replace hx616_1 := cel HB.out hx616_1
     replace hx616_2 := cel HB.out hx616_2
     replace hx616_3 := cel HB.out hx616_3
     have HR616_3 := Ae_q hi616_3
     have HC616_3 := Ae_q hl616_3
     clear hi616_3 hl616_3
     replace p616 := eq_true p616
     replace q616 := eq_true q616
     try go_wp2_with (first | ((with_reducible refine gD_q (N := 12) rfl ?_); refine bE_q ?hg (N := 12) ?hd (cs := #[.int .i64 0, .int .i64 0, .int .i64 0, .slice none 0 0]) (t := 63) ?hr ?_; (case hd => rfl); (case hg => rfl); (case hr => exact m5_q); intro gb617 hg w37 hbox hb; replace HO_10 := Ae_q (rO_q (rup HO_10.out) hb); have BK617 := Ae_q (hbox); have GW617 := Ae_q ((by rw [hg]; exact (bZ_q m20_q) : w.heap.size ≤ gb617)); have GE617 := Ae_q ((by rw [hg]; exact (bZ_q m20_q) : w.heap.size ≤ gb617)); replace HB := Ae_q (bT_q m20_q hb); have NB609_617 := Ae_q ((by rw [hg]; exact nL_q (blk_lt (g := gb609) (o := .cells #[.int .i64 a1_0, .slice A1_1 l1_1.length c1_1] 43 (0, 0)) (bup BK609.out)) : gb609 ≠ gb617)); have NB617_609 := Ae_q ((by rw [hg]; exact nG_q (blk_lt (g := gb609) (o := .cells #[.int .i64 a1_0, .slice A1_1 l1_1.length c1_1] 43 (0, 0)) (bup BK609.out)) : gb617 ≠ gb609)); replace BK609 := Ae_q (bB_q (g := gb609) (o := .cells #[.int .i64 a1_0, .slice A1_1 l1_1.length c1_1] 43 (0, 0)) (bup BK609.out) hb); have NB610_617 := Ae_q ((by rw [hg]; exact nL_q (blk_lt (g := gb610) (o := .cells #[.int .i64 a3_0, .int .i64 a3_1, .int .i64 a3_2] 31 (0, 0)) (bup BK610.out)) : gb610 ≠ gb617)); have NB617_610 := Ae_q ((by rw [hg]; exact nG_q (blk_lt (g := gb610) (o := .cells #[.int .i64 a3_0, .int .i64 a3_1, .int .i64 a3_2] 31 (0, 0)) (bup BK610.out)) : gb617 ≠ gb610)); replace BK610 := Ae_q (bB_q (g := gb610) (o := .cells #[.int .i64 a3_0, .int .i64 a3_1, .int .i64 a3_2] 31 (0, 0)) (bup BK610.out) hb); clear hb hbox hg; have hnb38 := NB617_609.out; have hnc38 := NB609_617.out; have hnb39 := NB617_610.out; have hnc39 := NB610_617.out; have hcz40_0 : cI w37 gb617 0 0 := cZ BK617 0 rfl; have hcz40_1 : cI w37 gb617 1 0 := cZ BK617 1 rfl; have hcz40_2 : cI w37 gb617 2 0 := cZ BK617 2 rfl; have hcz40_3 : w37.cell? ⟨gb617, 3, none⟩ = some (.slice none 0 0) := (bC_q BK617.out 3).trans rfl; have hfz40_0 := bF_q BK617.out 0; have hfz40_1 := bF_q BK617.out 1; have hfz40_2 := bF_q BK617.out 2; have hfz40_3 := bF_q BK617.out 3))
     have n0_ : Aside0 (Kd.R kI_q 3 ((((w37.setCell ⟨gb617, 0, none⟩ (.int .i64 ((rd_T63 l0 x27_2).f0))).setCell ⟨gb617, 1, none⟩ (.int .i64 ((rd_T63 l0 x27_2).f1))).setCell ⟨gb617, 2, none⟩ (.int .i64 ((rd_T63 l0 x27_2).f2))).setCell ⟨gb617, 3, none⟩ (.slice A616_3 ((rd_T63 l0 x27_2).f3).length c616_3)) w.heap.size (fun _ => True) u10 x10_2) := ⟨by (with_reducible repeat (first | apply rA_q | apply rN_q | apply rD_q)); exact rM_q (Kd.R_far (p := ⟨gb617, 3, none⟩) (Kd.R_far (p := ⟨gb617, 2, none⟩) (Kd.R_far (p := ⟨gb617, 1, none⟩) (Kd.R_far (p := ⟨gb617, 0, none⟩) (Kd.R_types HO_10.out BK617.out (by decide)) (fun _ hk => hk.2) (.int .i64 ((rd_T63 l0 x27_2).f0))) (fun _ hk => hk.2) (.int .i64 ((rd_T63 l0 x27_2).f1))) (fun _ hk => hk.2) (.int .i64 ((rd_T63 l0 x27_2).f2))) (fun _ hk => hk.2) (.slice A616_3 ((rd_T63 l0 x27_2).f3).length c616_3)) (fun _ hk => trivial)⟩
     have n1_ : Aside0 (((((w37.setCell ⟨gb617, 0, none⟩ (.int .i64 ((rd_T63 l0 x27_2).f0))).setCell ⟨gb617, 1, none⟩ (.int .i64 ((rd_T63 l0 x27_2).f1))).setCell ⟨gb617, 2, none⟩ (.int .i64 ((rd_T63 l0 x27_2).f2))).setCell ⟨gb617, 3, none⟩ (.slice A616_3 ((rd_T63 l0 x27_2).f3).length c616_3)).heap[gb609]? = some (.cells #[.int .i64 a1_0, .slice A1_1 l1_1.length c1_1] 43 (0, 0))) := ⟨m50_q⟩
     have n2_ : Aside0 (((((w37.setCell ⟨gb617, 0, none⟩ (.int .i64 ((rd_T63 l0 x27_2).f0))).setCell ⟨gb617, 1, none⟩ (.int .i64 ((rd_T63 l0 x27_2).f1))).setCell ⟨gb617, 2, none⟩ (.int .i64 ((rd_T63 l0 x27_2).f2))).setCell ⟨gb617, 3, none⟩ (.slice A616_3 ((rd_T63 l0 x27_2).f3).length c616_3)).heap[gb610]? = some (.cells #[.int .i64 a3_0, .int .i64 a3_1, .int .i64 a3_2] 31 (0, 0))) := ⟨m51_q⟩
     have n3_ : Aside0 (((((w37.setCell ⟨gb617, 0, none⟩ (.int .i64 ((rd_T63 l0 x27_2).f0))).setCell ⟨gb617, 1, none⟩ (.int .i64 ((rd_T63 l0 x27_2).f1))).setCell ⟨gb617, 2, none⟩ (.int .i64 ((rd_T63 l0 x27_2).f2))).setCell ⟨gb617, 3, none⟩ (.slice A616_3 ((rd_T63 l0 x27_2).f3).length c616_3)).heap[gb617]? = some (.cells #[.int .i64 ((rd_T63 l0 x27_2).f0), .int .i64 ((rd_T63 l0 x27_2).f1), .int .i64 ((rd_T63 l0 x27_2).f2), .slice A616_3 ((rd_T63 l0 x27_2).f3).length c616_3] 63 (0, 0))) := ⟨m25_q⟩
     have n4_ : Aside0 (Below w.heap.size w ((((w37.setCell ⟨gb617, 0, none⟩ (.int .i64 ((rd_T63 l0 x27_2).f0))).setCell ⟨gb617, 1, none⟩ (.int .i64 ((rd_T63 l0 x27_2).f1))).setCell ⟨gb617, 2, none⟩ (.int .i64 ((rd_T63 l0 x27_2).f2))).setCell ⟨gb617, 3, none⟩ (.slice A616_3 ((rd_T63 l0 x27_2).f3).length c616_3))) := ⟨m43_q⟩
     (try clear HO_10)
     (try clear BK609)
     (try clear BK610)
     (try clear BK617)
     (try clear HB)
     generalize ((((w37.setCell ⟨gb617, 0, none⟩ (.int .i64 ((rd_T63 l0 x27_2).f0))).setCell ⟨gb617, 1, none⟩ (.int .i64 ((rd_T63 l0 x27_2).f1))).setCell ⟨gb617, 2, none⟩ (.int .i64 ((rd_T63 l0 x27_2).f2))).setCell ⟨gb617, 3, none⟩ (.slice A616_3 ((rd_T63 l0 x27_2).f3).length c616_3)) = w41 at n0_ n1_ n2_ n3_ n4_ ⊢
     have HO_10 := n0_
     have BK609 := n1_
     have BK610 := n2_
     have BK617 := n3_
     have HB := n4_
     clear n0_ n1_ n2_ n3_ n4_
     replace HO_10 := Ae_q (rD_q HO_10.out)
     replace BK609 := Ae_q (bW_q BK609.out)
     replace BK610 := Ae_q (bW_q BK610.out)
     replace BK617 := Ae_q (bW_q BK617.out)
     replace HB := Ae_q (bD_q HB.out)
     have p618 : 0 ≤ (x27_2 : Int) := oD_q (by assumption)
     have q618 : x27_2 < (l2.length : Int) := oD_q (by assumption)
     obtain ⟨ad618, e618, hx618_0⟩ := aI_q HR2.out x27_2 p618 q618
     have hw618_0 := hx618_0
     cases e618
     replace hx618_0 := cel HB.out hx618_0
     replace p618 := eq_true p618
     replace q618 := eq_true q618
     obtain ⟨Ao43, co43, eo43⟩ := rS_q HO_10.out
     (first | subst eo43 | (injection eo43 with f1_ f2_ f3_; have f4_ := f1_.symm; have f5_ := f3_.symm; clear f1_ f2_ f3_; subst f4_; subst f5_))
     refine start_ (n := 10) (S := fun w' => w'.cell? ⟨gb609, 0, none⟩ = some (.int .i64 a1_0) ∧ w'.cell? ⟨gb609, 1, none⟩ = some (.slice A1_1 l1_1.length c1_1) ∧ w'.cell? ⟨gb610, 0, none⟩ = some (.int .i64 a3_0) ∧ w'.cell? ⟨gb610, 1, none⟩ = some (.int .i64 a3_1) ∧ w'.cell? ⟨gb610, 2, none⟩ = some (.int .i64 a3_2) ∧ w'.cell? ⟨gb617, 0, none⟩ = some (.int .i64 ((rd_T63 l0 x27_2).f0)) ∧ w'.cell? ⟨gb617, 1, none⟩ = some (.int .i64 ((rd_T63 l0 x27_2).f1)) ∧ w'.cell? ⟨gb617, 2, none⟩ = some (.int .i64 ((rd_T63 l0 x27_2).f2)) ∧ w'.cell? ⟨gb617, 3, none⟩ = some (.slice A616_3 ((rd_T63 l0 x27_2).f3).length c616_3) ∧ w'.cell? (ad618.add (x27_2).toNat) = some (.int .i64 (rd l2 x27_2))) (ds := []) #[false, false, false, false, false, false, false, false, false, false] m8_q rfl rfl ⟨(bC_q BK609.out 0).trans rfl, (bC_q BK609.out 1).trans rfl, (bC_q BK610.out 0).trans rfl, (bC_q BK610.out 1).trans rfl, (bC_q BK610.out 2).trans rfl, (bC_q BK617.out 0).trans rfl, (bC_q BK617.out 1).trans rfl, (bC_q BK617.out 2).trans rfl, (bC_q BK617.out 3).trans rfl, (cel HB.out hw618_0)⟩ (fun hHeld => ?_); refine with_tabW impl_OutageRepair.tab7 impl_OutageRepair.bits7 (fun HT_ HW_ => ?_)
     generalize w41.drew = w42 at HO_10 BK609 BK610 BK617 HB hx618_0 hHeld ⊢
     refine pJ HT_ 0 32 rfl rfl ?_
     refine pJ HT_ 2 34 rfl rfl ?_
     refine pJ HT_ 3 35 rfl rfl ?_
     refine pJ HT_ 4 36 rfl rfl ?_
     refine pJ HT_ 5 37 rfl rfl ?_
     refine pJ HT_ 7 39 rfl rfl ?_
     refine take_ (i := 1) (N := some 33) (v := ?_) (a' := ?_) #[true, true, true, true, true, true, false, true, false, false] rfl rfl (take_ofW HT_.out HW_.out m8_q) (fun _ _ _ h => h) (Or.inl ⟨by rfl, ?_⟩) hHeld ?_ ?_
     rotate_left
     ·rintro w' ⟨s0, s1, s2, s3, s4, s5, s6, s7, s8, s9⟩
      go_simp
      with_reducible rfl
     rotate_left
     ·simp only [pS_q]
      rfl
     refine take_ (i := 6) (N := some 38) (v := ?_) (a' := ?_) #[true, true, true, true, true, true, true, true, false, false] rfl rfl (take_ofW HT_.out HW_.out m8_q) (fun _ _ _ h => h) (Or.inl ⟨by rfl, ?_⟩) hHeld ?_ ?_
     rotate_left
     ·rintro w' ⟨s0, s1, s2, s3, s4, s5, s6, s7, s8, s9⟩
      go_simp
      with_reducible rfl
     rotate_left
     ·simp only [pS_q]
      rfl
     refine one_ (i := 8) (N := some 40) #[true, true, true, true, true, true, true, true, true, false] rfl rfl (one_of HT_.out m8_q) (by decide) (fun K hK => ?_)
     refine goes_ Try.func50 m8_q rfl #[.slice (some ad616) l0.length c0, .agg #[.int .i64 a1_0, .slice A1_1 l1_1.length c1_1], .slice Ao43 x10_2.length co43, .int .i64 (rd l2 x27_2), .func (.func 55) #[] #[.pointer (some ⟨gb610, 0, none⟩), .pointer (some ⟨gb617, 0, none⟩)]] (by rfl) rfl rfl m0_q ?_
     refine (impl_placeO.calls (impl_mayO a3_0 a3_1 a3_2 (rd_T63 l0 x27_2)) gb610 gb617 k2 _ _ l0 a1_0 _ _ l1_1 _ _ x10_2 (rd l2 x27_2) 0 t619 _ ?side1 ?side2 ?side3 ?side4 ?side5 ?side6 ?sidem A26.out).mono ?_
     (case sidem => exact m63_q)
     (case side1 => exact m42_q)
     (case side2 => exact m97_q)
     (case side3 => exact m67_q)
     (case side4 => exact m119_q)
     (case side5 => exact m125_q)
     (case side6 => exact (rR_q HO_10.out).2.1)
     rintro e w' ⟨rfl, hb⟩
     refine ⟨_, rfl, ?_⟩
     replace HO_10 := Ae_q (rO_q (rup HO_10.out) hb)
     replace BK609 := Ae_q (bB_q (g := gb609) (o := .cells #[.int .i64 a1_0, .slice A1_1 l1_1.length c1_1] 43 (0, 0)) (bup BK609.out) hb)
     replace BK610 := Ae_q (bB_q (g := gb610) (o := .cells #[.int .i64 a3_0, .int .i64 a3_1, .int .i64 a3_2] 31 (0, 0)) (bup BK610.out) hb)
     replace BK617 := Ae_q (bB_q (g := gb617) (o := .cells #[.int .i64 ((rd_T63 l0 x27_2).f0), .int .i64 ((rd_T63 l0 x27_2).f1), .int .i64 ((rd_T63 l0 x27_2).f2), .slice A616_3 ((rd_T63 l0 x27_2).f3).length c616_3] 63 (0, 0)) (bup BK617.out) hb)
     replace HB := Ae_q (bT_q m43_q hb)
     (try clear hb)
     (try clear hb2)
     (try clear hk)
     (try clear hi)
     refine hK.out _ _ ⟨(bC_q BK609.out 0).trans rfl, (bC_q BK609.out 1).trans rfl, (bC_q BK610.out 0).trans rfl, (bC_q BK610.out 1).trans rfl, (bC_q BK610.out 2).trans rfl, (bC_q BK617.out 0).trans rfl, (bC_q BK617.out 1).trans rfl, (bC_q BK617.out 2).trans rfl, (bC_q BK617.out 3).trans rfl, (cel HB.out hw618_0)⟩ (fun hHeld => ?_)
     clear hK K
     refine nJ_q ?_
     refine pJ HT_ 9 13 rfl rfl ?_
     refine done_ (done_of HT_.out m8_q) ?_
     try go_wp2_with (first | ((with_reducible refine gate_builtin (b := .append) (xs := #[.tmp 43, .tmp 45]) rfl ?_); at_builtin; refine Kd.R_append kI_q (w0 := w) w.heap.size rfl (.tmp 43) (.tmp 45) 23 3 (.int .i64 0) 8 rfl Try.underlying23 info3 rfl (by decide) (by omega) (.slice Ao43 x10_2.length co43) x10_2 t619 [.int .i64 t619] (fun _ => True) (fun _ => False) rfl rfl ?aP (fun _ hk => hk.elim) ?aF ?aO ?aB ?aS ?aL ?_; (case aP => exact rfl); (case aB => exact m43_q); (case aF => exact m155_q); (case aO => exact (rup HO_10.out)); (case aS => exact (bZ_q m43_q)); (case aL => exact m143_q); intro v621 w45 ho hb hg hat; rw [← Ny620.out] at ho; replace BK609 := Ae_q (bG_q (g := gb609) (o := .cells #[.int .i64 a1_0, .slice A1_1 l1_1.length c1_1] 43 (0, 0)) (bup BK609.out) hg (Kd.R_ne HO_10.out BK609.out (by decide))); replace BK610 := Ae_q (bG_q (g := gb610) (o := .cells #[.int .i64 a3_0, .int .i64 a3_1, .int .i64 a3_2] 31 (0, 0)) (bup BK610.out) hg (Kd.R_ne HO_10.out BK610.out (by decide))); replace BK617 := Ae_q (bG_q (g := gb617) (o := .cells #[.int .i64 ((rd_T63 l0 x27_2).f0), .int .i64 ((rd_T63 l0 x27_2).f1), .int .i64 ((rd_T63 l0 x27_2).f2), .slice A616_3 ((rd_T63 l0 x27_2).f3).length c616_3] 63 (0, 0)) (bup BK617.out) hg (Kd.R_ne HO_10.out BK617.out (by decide))); replace HB := Ae_q (hb); have HO622 := Ae_q (ho); clear HO_10; clear ho hb hg hat))
     go_roundg k2
     case measure => have := HJ4.out; have := HK2.out; omega
     case rel => exact ⟨(y620), (wrap64 (x27_2 + 1)), m7_q, H', ⟨by have := HJ4.out; have := HK2.out; omega⟩, ⟨rup HO622.out⟩, ⟨bup BK609.out⟩, ⟨bup BK610.out⟩, ⟨m43_q⟩⟩

end Go.Proofs.Ytfnpiacmlahegaa.PRp
