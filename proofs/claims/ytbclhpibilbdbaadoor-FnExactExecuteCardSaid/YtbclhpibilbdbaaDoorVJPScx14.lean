import Derived.Test.YtbclhpibilbdbaaDoorVJPScx0
import Derived.Test.YtbclhpibilbdbaaDoorVJPScx9
import Derived.Test.YtbclhpibilbdbaaDoorVJPScx10
import Derived.Test.YtbclhpibilbdbaaDoorVJPScx11
import Derived.Test.YtbclhpibilbdbaaDoorVJPScx13
namespace Go.Proofs.YtbclhpibilbdbaaDoor.PSc
open Go.RowKit Go.Proofs.YtbclhpibilbdbaaDoorW.PrintWords Go.Proofs.YtbclhpibilbdbaaDoorW.PrintLast Go.Proofs.YtbclhpibilbdbaaDoorW.PrintMore
attribute [local go_sem] max2_int min2_int max_two min_two max_three min_three max_four min_four
set_option linter.unusedVariables false
set_option linter.unusedSimpArgs false

def impl_StorePut.j0 : Nat → List (S49) → Bool → Int → Int → Int → Option ((List (S49)) × Bool)
 | 0, _, _, _, _, _ => none
 | k + 1, x0, x16, x183000, x183001, x183002 => if x16 = true then (some (([] : List (S49)), false)) else ((impl_Lot_47.f x0).bind fun t185 => ((impl_Lot_48.f k t185 x183000 x183001 x183002 0).bind fun bt188 => (if bt188.2 = true then (if 0 ≤ bt188.1 then (if bt188.1 < (t185.length : Int) then ((some (t185.set (bt188.1 : Int).toNat (⟨(rd_T49 t185 bt188.1).f0, (rd_T49 t185 bt188.1).f1, wrap64 (((rd_T49 t185 bt188.1).f2) + x183002)⟩ : S49) : List (S49))).bind fun y191 => ((impl_StoreValid.f k y191).bind fun t192 => (if t192 = true then (some (y191, true)) else (some (([] : List (S49)), false))))) else (none)) else (none)) else (if (t185.length ≤ 1048576 ∧ 0 ≤ bt188.1 ∧ bt188.1 ≤ (t185.length : Int)) then ((some (insL t185 bt188.1 (⟨x183000, x183001, x183002⟩ : S49) : List (S49))).bind fun y193 => ((impl_StoreValid.f k y193).bind fun t196 => (if t196 = true then (some (y193, true)) else (some (([] : List (S49)), false))))) else (none)))))
def impl_StorePut.f (k : Nat) (l0 : List (S49)) (a1_0 : Int) (a1_1 : Int) (a1_2 : Int) : Option ((List (S49)) × Bool) := (impl_StoreValid.f k l0).bind fun t183 => (if t183 = true then ((impl_lotValid.f a1_0 a1_1 a1_2).bind fun t184 => (impl_StorePut.j0 k l0 (!t184) a1_0 a1_1 a1_2)) else (impl_StorePut.j0 k l0 true a1_0 a1_1 a1_2))
def impl_StorePut.T6 : Bool × List (List Nat × List Nat) := (true, [([], []), ([], []), ([0, 1], [0, 1]), ([2], [2]), ([3], [3]), ([], []), ([5], [5]), ([4, 6], [4, 6]), ([0, 1, 0, 1, 2, 3, 4, 5, 6, 7], [0, 1]), ([8, 0, 1, 2, 3, 4, 5, 6, 7], [8]), ([9, 7, 0, 1, 2, 3, 4, 5, 6, 7], [7, 9])])
def impl_StorePut.B6 : List Nat := [0, 0, 3, 7, 15, 0, 32, 127, 255, 511, 1023]
theorem impl_StorePut.tab6 : rtab .any (opsOf Tryd.f30 6) = impl_StorePut.T6 := by kernel_rfl
theorem impl_StorePut.bits6 : waitsOk impl_StorePut.T6.2 impl_StorePut.B6 = true := by kernel_rfl
set_option maxHeartbeats 8000000 in
set_option maxRecDepth 100000 in
theorem impl_StorePut.calls (k : Nat) (A0 : Option Addr) (c0 : Nat) (l0 : List (S49)) (a1_0 : Int) (a1_1 : Int) (a1_2 : Int) (r1 : List (S49)) (r2 : Bool) (w : World) (hr0 : Kd.C k49 w A0 l0.length l0) (hc0 : l0.length ≤ c0) (h : impl_StorePut.f k l0 a1_0 a1_1 a1_2 = some (r1, r2)) :
    Calls Tryd.prog 30 #[.slice A0 l0.length c0, .agg #[.int .i64 a1_0, .int .i64 a1_1, .int .i64 a1_2]] w fun e w' => ∃ v0_ : Value, e = .returned (.tuple #[v0_, .bool r2]) ∧ Kd.R k49 49 w' w.heap.size (fun _ => True) v0_ r1 ∧ Below w.heap.size w w' := by
 have hu49 := Tryd.underlying49
 have HR0 := Ae_q hr0
 have HC0 := Ae_q hc0
 clear hr0 hc0
 have HB := Ae_q (bR_q w.heap.size w)
 have H : ((impl_StoreValid.f k l0).bind fun t183 => (if t183 = true then ((impl_lotValid.f a1_0 a1_1 a1_2).bind fun t184 => (impl_StorePut.j0 k l0 (!t184) a1_0 a1_1 a1_2)) else (impl_StorePut.j0 k l0 true a1_0 a1_1 a1_2))) = some (r1, r2) := h
 clear h
 have HC3 := Ae_q H
 clear H
 go_enter Tryd.func30, Tryd.ntmps30
 go_upto_region 1 with (first | ((with_reducible refine gD_q (N := 3) rfl ?_); refine bE_q ?hg (N := 3) ?hd (cs := #[.int .i64 a1_0, .int .i64 a1_1, .int .i64 a1_2]) (t := 49) ?hr ?_; (case hd => rfl); (case hg => rfl); (case hr => exact m10_q); intro gb182 hg w' hbox hb; have BK182 := Ae_q (hbox); have GW182 := Ae_q ((by rw [hg]; exact (bZ_q (bel HB.out)) : w.heap.size ≤ gb182)); have GE182 := Ae_q ((by rw [hg]; exact (bZ_q (bel HB.out)) : w.heap.size ≤ gb182)); replace HB := Ae_q (bT_q (bel HB.out) hb); clear hb hbox hg))
 (try simp only [Act.put, sA_q, sZ_q, sS_q])
 go_cut [16] (fun v16 wc => ∃ (kq : Nat) (x16_2 : Bool), v16 = .bool x16_2 ∧ Aside0 (impl_StorePut.j0 kq l0 x16_2 a1_0 a1_1 a1_2 = some (r1, r2)) ∧ Aside0 (kq ≤ k) ∧ Aside0 (wc.heap[gb182]? = some (.cells #[.int .i64 a1_0, .int .i64 a1_1, .int .i64 a1_2] 49 (0, 0))) ∧ Aside0 (Below w.heap.size w wc))
 case first =>
  have H := HC3.out
  clear HC3
  replace H := oB_q.mp H
  obtain ⟨t183, A50, H⟩ := H
  replace H : (if t183 = true then ((impl_lotValid.f a1_0 a1_1 a1_2).bind fun t184 => (impl_StorePut.j0 k l0 (!t184) a1_0 a1_1 a1_2)) else (impl_StorePut.j0 k l0 true a1_0 a1_1 a1_2)) = some (r1, r2) := H
  have A5 := Ae_q A50
  clear A50
  by_cases c6 : t183 = true
  rotate_left
  ·replace c6 := fM_q.mpr c6
   subst c6
   have H1 : (impl_StorePut.j0 k l0 true a1_0 a1_1 a1_2) = some (r1, r2) := by rw [if_neg (show ¬ (false = true) by decide)] at H; exact H
   clear H
   have H := H1
   clear H1
   have H' := Ae_q H
   clear H
   go_wp2_with (first | ((with_reducible refine gC_q (f := 45) rfl ?_); refine gL_q (some 10) rfl rfl Tryd.func45 m6_q rfl #[.slice A0 l0.length c0] rfl m0_q ?_; (with_reducible refine (impl_StoreValid.calls k _ _ l0 false _ ?side1 ?side2 A5.out).mono ?_); (case side1 => exact m37_q); (case side2 => exact m60_q); rintro e w' ⟨rfl, hb⟩; refine ⟨_, rfl, ?_⟩; replace BK182 := Ae_q (bB_q (g := gb182) (o := .cells #[.int .i64 a1_0, .int .i64 a1_1, .int .i64 a1_2] 49 (0, 0)) (bup BK182.out) hb); replace HB := Ae_q (bT_q m5_q hb); (try clear hb); (try clear hb2); (try clear hk); (try clear hi)))
   go_meet
   case rel => exact ⟨_, (true), m2_q, H', ⟨m48_q⟩, ⟨bup BK182.out⟩, ⟨m5_q⟩⟩
  subst c6
  have H1 : ((impl_lotValid.f a1_0 a1_1 a1_2).bind fun t184 => (impl_StorePut.j0 k l0 (!t184) a1_0 a1_1 a1_2)) = some (r1, r2) := by rw [if_pos rfl] at H; exact H
  clear H
  have H := H1
  clear H1
  replace H := oB_q.mp H
  obtain ⟨t184, A70, H⟩ := H
  replace H : (impl_StorePut.j0 k l0 (!t184) a1_0 a1_1 a1_2) = some (r1, r2) := H
  have A7 := Ae_q A70
  clear A70
  have H' := Ae_q H
  clear H
  go_wp2_with (first | ((with_reducible refine gC_q (f := 45) rfl ?_); refine gL_q (some 10) rfl rfl Tryd.func45 m6_q rfl #[.slice A0 l0.length c0] rfl m0_q ?_; (with_reducible refine (impl_StoreValid.calls k _ _ l0 true _ ?side1 ?side2 A5.out).mono ?_); (case side1 => exact m37_q); (case side2 => exact m60_q); rintro e w8 ⟨rfl, hb⟩; refine ⟨_, rfl, ?_⟩; replace BK182 := Ae_q (bB_q (g := gb182) (o := .cells #[.int .i64 a1_0, .int .i64 a1_1, .int .i64 a1_2] 49 (0, 0)) (bup BK182.out) hb); replace HB := Ae_q (bT_q m5_q hb); (try clear hb); (try clear hb2); (try clear hk); (try clear hi); have hcz9_0 : cI w8 gb182 0 a1_0 := cZ BK182 0 rfl; have hcz9_1 : cI w8 gb182 1 a1_1 := cZ BK182 1 rfl; have hcz9_2 : cI w8 gb182 2 a1_2 := cZ BK182 2 rfl; have hfz9_0 := bF_q BK182.out 0; have hfz9_1 := bF_q BK182.out 1; have hfz9_2 := bF_q BK182.out 2) | (go_at_call 46; (with_reducible refine (impl_lotValid.calls a1_0 a1_1 a1_2 t184 _ A7.out).mono ?_); rintro e w' ⟨rfl, hb⟩; replace BK182 := Ae_q (bB_q (g := gb182) (o := .cells #[.int .i64 a1_0, .int .i64 a1_1, .int .i64 a1_2] 49 (0, 0)) (bup BK182.out) hb); replace HB := Ae_q (bT_q m5_q hb); (try clear hb); (try clear hb2); (try clear hk); (try clear hi)))
  go_meet
  case rel => exact ⟨_, (!t184), m2_q, H', ⟨m48_q⟩, ⟨bup BK182.out⟩, ⟨m5_q⟩⟩
 case rest =>
  clear HC3
  try clear p2
  try clear c3
  try clear c4
  try clear c6
  try clear hcz9_0
  try clear hcz9_1
  try clear hcz9_2
  try clear hfz9_0
  try clear hfz9_1
  try clear hfz9_2
  obtain ⟨kq, x16_2, rfl, HA, HJ2, BK182, HB⟩ := hcut
  cases kq with
  | zero => exact absurd HA.out (by simp [impl_StorePut.j0])
  | succ kj2 =>
   have H := HA.out
   clear HA
   simp only [impl_StorePut.j0] at H
   by_cases c12 : x16_2 = true
   ·subst c12
    have H1 : (some (([] : List (S49)), false)) = some (r1, r2) := by rw [if_pos rfl] at H; exact H
    clear H
    have H := H1
    clear H1
    simp only [oE_q, pE_q] at H
    obtain ⟨rfl, rfl⟩ := H
    go_wp2
    go_ret2
    exact ⟨_, m3_q, m30_q, m5_q⟩
   replace c12 := fM_q.mpr c12
   subst c12
   have H1 : ((impl_Lot_47.f l0).bind fun t185 => ((impl_Lot_48.f kj2 t185 a1_0 a1_1 a1_2 0).bind fun bt188 => (if bt188.2 = true then (if 0 ≤ bt188.1 then (if bt188.1 < (t185.length : Int) then ((some (t185.set (bt188.1 : Int).toNat (⟨(rd_T49 t185 bt188.1).f0, (rd_T49 t185 bt188.1).f1, wrap64 (((rd_T49 t185 bt188.1).f2) + a1_2)⟩ : S49) : List (S49))).bind fun y191 => ((impl_StoreValid.f kj2 y191).bind fun t192 => (if t192 = true then (some (y191, true)) else (some (([] : List (S49)), false))))) else (none)) else (none)) else (if (t185.length ≤ 1048576 ∧ 0 ≤ bt188.1 ∧ bt188.1 ≤ (t185.length : Int)) then ((some (insL t185 bt188.1 (⟨a1_0, a1_1, a1_2⟩ : S49) : List (S49))).bind fun y193 => ((impl_StoreValid.f kj2 y193).bind fun t196 => (if t196 = true then (some (y193, true)) else (some (([] : List (S49)), false))))) else (none))))) = some (r1, r2) := by rw [if_neg (show ¬ (false = true) by decide)] at H; exact H
   clear H
   have H := H1
   clear H1
   replace H := oB_q.mp H
   obtain ⟨t185, A130, H⟩ := H
   replace H : ((impl_Lot_48.f kj2 t185 a1_0 a1_1 a1_2 0).bind fun bt188 => (if bt188.2 = true then (if 0 ≤ bt188.1 then (if bt188.1 < (t185.length : Int) then ((some (t185.set (bt188.1 : Int).toNat (⟨(rd_T49 t185 bt188.1).f0, (rd_T49 t185 bt188.1).f1, wrap64 (((rd_T49 t185 bt188.1).f2) + a1_2)⟩ : S49) : List (S49))).bind fun y191 => ((impl_StoreValid.f kj2 y191).bind fun t192 => (if t192 = true then (some (y191, true)) else (some (([] : List (S49)), false))))) else (none)) else (none)) else (if (t185.length ≤ 1048576 ∧ 0 ≤ bt188.1 ∧ bt188.1 ≤ (t185.length : Int)) then ((some (insL t185 bt188.1 (⟨a1_0, a1_1, a1_2⟩ : S49) : List (S49))).bind fun y193 => ((impl_StoreValid.f kj2 y193).bind fun t196 => (if t196 = true then (some (y193, true)) else (some (([] : List (S49)), false))))) else (none)))) = some (r1, r2) := H
   have A13 := Ae_q A130
   clear A130
   replace H := oB_q.mp H
   obtain ⟨⟨t188, t189⟩, A140, H⟩ := H
   replace H : (if t189 = true then (if 0 ≤ t188 then (if t188 < (t185.length : Int) then ((some (t185.set (t188 : Int).toNat (⟨(rd_T49 t185 t188).f0, (rd_T49 t185 t188).f1, wrap64 (((rd_T49 t185 t188).f2) + a1_2)⟩ : S49) : List (S49))).bind fun y191 => ((impl_StoreValid.f kj2 y191).bind fun t192 => (if t192 = true then (some (y191, true)) else (some (([] : List (S49)), false))))) else (none)) else (none)) else (if (t185.length ≤ 1048576 ∧ 0 ≤ t188 ∧ t188 ≤ (t185.length : Int)) then ((some (insL t185 t188 (⟨a1_0, a1_1, a1_2⟩ : S49) : List (S49))).bind fun y193 => ((impl_StoreValid.f kj2 y193).bind fun t196 => (if t196 = true then (some (y193, true)) else (some (([] : List (S49)), false))))) else (none))) = some (r1, r2) := H
   have A14 := Ae_q A140
   clear A140
   by_cases c15 : t189 = true
   rotate_left
   ·replace c15 := fM_q.mpr c15
    subst c15
    have H1 : (if (t185.length ≤ 1048576 ∧ 0 ≤ t188 ∧ t188 ≤ (t185.length : Int)) then ((some (insL t185 t188 (⟨a1_0, a1_1, a1_2⟩ : S49) : List (S49))).bind fun y193 => ((impl_StoreValid.f kj2 y193).bind fun t196 => (if t196 = true then (some (y193, true)) else (some (([] : List (S49)), false))))) else (none)) = some (r1, r2) := by rw [if_neg (show ¬ (false = true) by decide)] at H; exact H
    clear H
    have H := H1
    clear H1
    by_cases c35 : (t185.length ≤ 1048576 ∧ 0 ≤ t188 ∧ t188 ≤ (t185.length : Int))
    rotate_left
    ·rw [if_neg c35] at H
     exact absurd H (by simp)
    rw [if_pos c35] at H
    have LMc35 := Ae_q c35
    clear c35
    obtain ⟨y193, hy193⟩ : ∃ y_ : List (S49), y_ = (insL t185 t188 (⟨a1_0, a1_1, a1_2⟩ : S49)) := ⟨_, rfl⟩
    replace H : ((impl_StoreValid.f kj2 y193).bind fun t196 => (if t196 = true then (some (y193, true)) else (some (([] : List (S49)), false)))) = some (r1, r2) := by first | (rw [hy193]; with_reducible exact H) | (have H2_ := (oS_q _ _).symm.trans H; rw [hy193]; with_reducible exact H2_) | (have H2_ := (oS_q _ _).symm.trans H; with_reducible exact H2_) | with_reducible exact H | (rw [hy193]; exact H) | exact H
    have Ny193 := Ae_q hy193
    clear hy193
    replace H := oB_q.mp H
    obtain ⟨t196, A360, H⟩ := H
    replace H : (if t196 = true then (some (y193, true)) else (some (([] : List (S49)), false))) = some (r1, r2) := H
    have A36 := Ae_q A360
    clear A360
    by_cases c37 : t196 = true
    ·subst c37
     have H1 : (some (y193, true)) = some (r1, r2) := by rw [if_pos rfl] at H; exact H
     clear H
     have H := H1
     clear H1
     simp only [oE_q, pE_q] at H
     obtain ⟨rfl, rfl⟩ := H
     go_wp2_with (first | ((with_reducible refine gC_q (f := 47) rfl ?_); refine gL_q (some 18) rfl rfl Tryd.func47 m6_q rfl #[.slice A0 l0.length c0] rfl m0_q ?_; (with_reducible refine (impl_Lot_47.calls _ _ l0 t185 _ ?side1 ?side2 A13.out).mono ?_); (case side1 => exact m37_q); (case side2 => exact m60_q); rintro e w38 ⟨v186, rfl, ho0, hb⟩; refine ⟨_, rfl, ?_⟩; have HO187 := Ae_q (rL_q (Kd.R_newB ho0 (g := gb182) (o := .cells #[.int .i64 a1_0, .int .i64 a1_1, .int .i64 a1_2] 49 (0, 0)) (bup BK182.out)) (bZ_q m5_q)); replace BK182 := Ae_q (bB_q (g := gb182) (o := .cells #[.int .i64 a1_0, .int .i64 a1_1, .int .i64 a1_2] 49 (0, 0)) (bup BK182.out) hb); replace HB := Ae_q (bT_q m5_q hb); (try clear hb); (try clear hb2); (try clear hk); (try clear hi); (try clear ho0); have hcz39_0 : cI w38 gb182 0 a1_0 := cZ BK182 0 rfl; have hcz39_1 : cI w38 gb182 1 a1_1 := cZ BK182 1 rfl; have hcz39_2 : cI w38 gb182 2 a1_2 := cZ BK182 2 rfl; have hfz39_0 := bF_q BK182.out 0; have hfz39_1 := bF_q BK182.out 1; have hfz39_2 := bF_q BK182.out 2; obtain ⟨Ao40, co40, eo40⟩ := rS_q HO187.out; subst eo40) | ((with_reducible refine gC_q (f := 48) rfl ?_); refine gL_q (some 22) rfl rfl Tryd.func48 m6_q rfl #[.slice Ao40 t185.length co40, .agg #[.int .i64 a1_0, .int .i64 a1_1, .int .i64 a1_2], .func (.func 49) #[] #[]] rfl m0_q ?_; (with_reducible refine (impl_Lot_48.calls kj2 _ _ t185 a1_0 a1_1 a1_2 0 t188 false _ ?side1 ?side2 A14.out).mono ?_); (case side1 => exact m97_q); (case side2 => exact (rR_q HO187.out).2.1); rintro e w41 ⟨rfl, hb⟩; refine ⟨_, rfl, ?_⟩; replace HO187 := Ae_q (rO_q (rup HO187.out) hb); replace BK182 := Ae_q (bB_q (g := gb182) (o := .cells #[.int .i64 a1_0, .int .i64 a1_1, .int .i64 a1_2] 49 (0, 0)) (bup BK182.out) hb); replace HB := Ae_q (bT_q m5_q hb); (try clear hb); (try clear hb2); (try clear hk); (try clear hi); have hcz42_0 : cI w41 gb182 0 a1_0 := cZ BK182 0 rfl; have hcz42_1 : cI w41 gb182 1 a1_1 := cZ BK182 1 rfl; have hcz42_2 : cI w41 gb182 2 a1_2 := cZ BK182 2 rfl; have hfz42_0 := bF_q BK182.out 0; have hfz42_1 := bF_q BK182.out 1; have hfz42_2 := bF_q BK182.out 2) | (go_at_call 50; (refine (insert_lot (w0 := w) w.heap.size (.slice Ao40 t185.length co40) t185 t188 a1_0 a1_1 a1_2 _ _ (fun k_ => k_ ≠ gb182) LMc35.out.2 LMc35.out.1 (heap_alloc_new _ _) (fun e_ => absurd (rT_q HO187.out _ e_.symm) (Nat.lt_irrefl _)) ?aO ?aF ?aB ?aS).mono ?_); (case aO => exact m71_q); (case aF => exact m61_q); (case aB => exact m5_q); (case aS => exact (bZ_q m5_q)); rintro e w' ⟨v194, rfl, ho, hb, hg⟩; rw [← Ny193.out] at ho; replace BK182 := Ae_q (bG_q (g := gb182) (o := .cells #[.int .i64 a1_0, .int .i64 a1_1, .int .i64 a1_2] 49 (0, 0)) (bup BK182.out) hg (Kd.R_away HO187.out (fun _ hk => hk.2))); replace HB := Ae_q (hb); have HO195 := Ae_q (ho); clear HO187; clear ho hb hg; obtain ⟨Ao44, co44, eo44⟩ := rS_q HO195.out; subst eo44) | ((with_reducible refine gC_q (f := 45) rfl ?_); refine gL_q (some 42) rfl rfl Tryd.func45 m6_q rfl #[.slice Ao44 y193.length co44] rfl m0_q ?_; (with_reducible refine (impl_StoreValid.calls kj2 _ _ y193 true _ ?side1 ?side2 A36.out).mono ?_); (case side1 => exact cup (rR_q HO195.out).2.2); (case side2 => exact (rR_q HO195.out).2.1); rintro e w' ⟨rfl, hb⟩; refine ⟨_, rfl, ?_⟩; replace HO195 := Ae_q (rO_q (rup HO195.out) hb); replace BK182 := Ae_q (bB_q (g := gb182) (o := .cells #[.int .i64 a1_0, .int .i64 a1_1, .int .i64 a1_2] 49 (0, 0)) (bup BK182.out) hb); replace HB := Ae_q (bT_q m5_q hb); (try clear hb); (try clear hb2); (try clear hk); (try clear hi)))
     go_ret2
     exact ⟨_, m3_q, by (with_reducible repeat (first | apply rA_q | apply rN_q | apply rD_q)); exact rM_q HO195.out (fun _ hk => trivial), m5_q⟩
    replace c37 := fM_q.mpr c37
    subst c37
    have H1 : (some (([] : List (S49)), false)) = some (r1, r2) := by rw [if_neg (show ¬ (false = true) by decide)] at H; exact H
    clear H
    have H := H1
    clear H1
    simp only [oE_q, pE_q] at H
    obtain ⟨rfl, rfl⟩ := H
    go_wp2_with (first | ((with_reducible refine gC_q (f := 47) rfl ?_); refine gL_q (some 18) rfl rfl Tryd.func47 m6_q rfl #[.slice A0 l0.length c0] rfl m0_q ?_; (with_reducible refine (impl_Lot_47.calls _ _ l0 t185 _ ?side1 ?side2 A13.out).mono ?_); (case side1 => exact m37_q); (case side2 => exact m60_q); rintro e w46 ⟨v186, rfl, ho0, hb⟩; refine ⟨_, rfl, ?_⟩; have HO187 := Ae_q (rL_q (Kd.R_newB ho0 (g := gb182) (o := .cells #[.int .i64 a1_0, .int .i64 a1_1, .int .i64 a1_2] 49 (0, 0)) (bup BK182.out)) (bZ_q m5_q)); replace BK182 := Ae_q (bB_q (g := gb182) (o := .cells #[.int .i64 a1_0, .int .i64 a1_1, .int .i64 a1_2] 49 (0, 0)) (bup BK182.out) hb); replace HB := Ae_q (bT_q m5_q hb); (try clear hb); (try clear hb2); (try clear hk); (try clear hi); (try clear ho0); have hcz47_0 : cI w46 gb182 0 a1_0 := cZ BK182 0 rfl; have hcz47_1 : cI w46 gb182 1 a1_1 := cZ BK182 1 rfl; have hcz47_2 : cI w46 gb182 2 a1_2 := cZ BK182 2 rfl; have hfz47_0 := bF_q BK182.out 0; have hfz47_1 := bF_q BK182.out 1; have hfz47_2 := bF_q BK182.out 2; obtain ⟨Ao48, co48, eo48⟩ := rS_q HO187.out; subst eo48) | ((with_reducible refine gC_q (f := 48) rfl ?_); refine gL_q (some 22) rfl rfl Tryd.func48 m6_q rfl #[.slice Ao48 t185.length co48, .agg #[.int .i64 a1_0, .int .i64 a1_1, .int .i64 a1_2], .func (.func 49) #[] #[]] rfl m0_q ?_; (with_reducible refine (impl_Lot_48.calls kj2 _ _ t185 a1_0 a1_1 a1_2 0 t188 false _ ?side1 ?side2 A14.out).mono ?_); (case side1 => exact m97_q); (case side2 => exact (rR_q HO187.out).2.1); rintro e w49 ⟨rfl, hb⟩; refine ⟨_, rfl, ?_⟩; replace HO187 := Ae_q (rO_q (rup HO187.out) hb); replace BK182 := Ae_q (bB_q (g := gb182) (o := .cells #[.int .i64 a1_0, .int .i64 a1_1, .int .i64 a1_2] 49 (0, 0)) (bup BK182.out) hb); replace HB := Ae_q (bT_q m5_q hb); (try clear hb); (try clear hb2); (try clear hk); (try clear hi); have hcz50_0 : cI w49 gb182 0 a1_0 := cZ BK182 0 rfl; have hcz50_1 : cI w49 gb182 1 a1_1 := cZ BK182 1 rfl; have hcz50_2 : cI w49 gb182 2 a1_2 := cZ BK182 2 rfl; have hfz50_0 := bF_q BK182.out 0; have hfz50_1 := bF_q BK182.out 1; have hfz50_2 := bF_q BK182.out 2) | (go_at_call 50; (refine (insert_lot (w0 := w) w.heap.size (.slice Ao48 t185.length co48) t185 t188 a1_0 a1_1 a1_2 _ _ (fun k_ => k_ ≠ gb182) LMc35.out.2 LMc35.out.1 (heap_alloc_new _ _) (fun e_ => absurd (rT_q HO187.out _ e_.symm) (Nat.lt_irrefl _)) ?aO ?aF ?aB ?aS).mono ?_); (case aO => exact m71_q); (case aF => exact m61_q); (case aB => exact m5_q); (case aS => exact (bZ_q m5_q)); rintro e w' ⟨v194, rfl, ho, hb, hg⟩; rw [← Ny193.out] at ho; replace BK182 := Ae_q (bG_q (g := gb182) (o := .cells #[.int .i64 a1_0, .int .i64 a1_1, .int .i64 a1_2] 49 (0, 0)) (bup BK182.out) hg (Kd.R_away HO187.out (fun _ hk => hk.2))); replace HB := Ae_q (hb); have HO195 := Ae_q (ho); clear HO187; clear ho hb hg; obtain ⟨Ao52, co52, eo52⟩ := rS_q HO195.out; subst eo52) | ((with_reducible refine gC_q (f := 45) rfl ?_); refine gL_q (some 42) rfl rfl Tryd.func45 m6_q rfl #[.slice Ao52 y193.length co52] rfl m0_q ?_; (with_reducible refine (impl_StoreValid.calls kj2 _ _ y193 false _ ?side1 ?side2 A36.out).mono ?_); (case side1 => exact cup (rR_q HO195.out).2.2); (case side2 => exact (rR_q HO195.out).2.1); rintro e w' ⟨rfl, hb⟩; refine ⟨_, rfl, ?_⟩; replace HO195 := Ae_q (rO_q (rup HO195.out) hb); replace BK182 := Ae_q (bB_q (g := gb182) (o := .cells #[.int .i64 a1_0, .int .i64 a1_1, .int .i64 a1_2] 49 (0, 0)) (bup BK182.out) hb); replace HB := Ae_q (bT_q m5_q hb); (try clear hb); (try clear hb2); (try clear hk); (try clear hi)))
    go_ret2
    exact ⟨_, m3_q, m30_q, m5_q⟩
   subst c15
   have H1 : (if 0 ≤ t188 then (if t188 < (t185.length : Int) then ((some (t185.set (t188 : Int).toNat (⟨(rd_T49 t185 t188).f0, (rd_T49 t185 t188).f1, wrap64 (((rd_T49 t185 t188).f2) + a1_2)⟩ : S49) : List (S49))).bind fun y191 => ((impl_StoreValid.f kj2 y191).bind fun t192 => (if t192 = true then (some (y191, true)) else (some (([] : List (S49)), false))))) else (none)) else (none)) = some (r1, r2) := by rw [if_pos rfl] at H; exact H
   clear H
   have H := H1
   clear H1
   by_cases c16 : 0 ≤ t188
   rotate_left
   ·rw [if_neg c16] at H
    exact absurd H (by simp)
   rw [if_pos c16] at H
   have c16b0 : decide (0 ≤ t188) = true := dT_q c16
   clear c16
   by_cases c17 : t188 < (t185.length : Int)
   rotate_left
   ·rw [if_neg c17] at H
    exact absurd H (by simp)
   rw [if_pos c17] at H
   have c17b0 : decide (t188 < (t185.length : Int)) = true := dT_q c17
   clear c17
   obtain ⟨y191, hy191⟩ : ∃ y_ : List (S49), y_ = (t185.set (t188 : Int).toNat (⟨(rd_T49 t185 t188).f0, (rd_T49 t185 t188).f1, wrap64 (((rd_T49 t185 t188).f2) + a1_2)⟩ : S49)) := ⟨_, rfl⟩
   replace H : ((impl_StoreValid.f kj2 y191).bind fun t192 => (if t192 = true then (some (y191, true)) else (some (([] : List (S49)), false)))) = some (r1, r2) := by first | (rw [hy191]; with_reducible exact H) | (have H2_ := (oS_q _ _).symm.trans H; rw [hy191]; with_reducible exact H2_) | (have H2_ := (oS_q _ _).symm.trans H; with_reducible exact H2_) | with_reducible exact H | (rw [hy191]; exact H) | exact H
   have Ny191 := Ae_q hy191
   clear hy191
   replace H := oB_q.mp H
   obtain ⟨t192, A190, H⟩ := H
   replace H : (if t192 = true then (some (y191, true)) else (some (([] : List (S49)), false))) = some (r1, r2) := H
   have A19 := Ae_q A190
   clear A190
   by_cases c20 : t192 = true
   ·subst c20
    have H1 : (some (y191, true)) = some (r1, r2) := by rw [if_pos rfl] at H; exact H
    clear H
    have H := H1
    clear H1
    simp only [oE_q, pE_q] at H
    obtain ⟨rfl, rfl⟩ := H
    try go_wp2_with (first | ((with_reducible refine gC_q (f := 47) rfl ?_); refine gL_q (some 18) rfl rfl Tryd.func47 m6_q rfl #[.slice A0 l0.length c0] rfl m0_q ?_; (with_reducible refine (impl_Lot_47.calls _ _ l0 t185 _ ?side1 ?side2 A13.out).mono ?_); (case side1 => exact m37_q); (case side2 => exact m60_q); rintro e w21 ⟨v186, rfl, ho0, hb⟩; refine ⟨_, rfl, ?_⟩; have HO187 := Ae_q (rL_q (Kd.R_newB ho0 (g := gb182) (o := .cells #[.int .i64 a1_0, .int .i64 a1_1, .int .i64 a1_2] 49 (0, 0)) (bup BK182.out)) (bZ_q m5_q)); replace BK182 := Ae_q (bB_q (g := gb182) (o := .cells #[.int .i64 a1_0, .int .i64 a1_1, .int .i64 a1_2] 49 (0, 0)) (bup BK182.out) hb); replace HB := Ae_q (bT_q m5_q hb); (try clear hb); (try clear hb2); (try clear hk); (try clear hi); (try clear ho0); have hcz22_0 : cI w21 gb182 0 a1_0 := cZ BK182 0 rfl; have hcz22_1 : cI w21 gb182 1 a1_1 := cZ BK182 1 rfl; have hcz22_2 : cI w21 gb182 2 a1_2 := cZ BK182 2 rfl; have hfz22_0 := bF_q BK182.out 0; have hfz22_1 := bF_q BK182.out 1; have hfz22_2 := bF_q BK182.out 2; obtain ⟨Ao23, co23, eo23⟩ := rS_q HO187.out; subst eo23) | ((with_reducible refine gC_q (f := 48) rfl ?_); refine gL_q (some 22) rfl rfl Tryd.func48 m6_q rfl #[.slice Ao23 t185.length co23, .agg #[.int .i64 a1_0, .int .i64 a1_1, .int .i64 a1_2], .func (.func 49) #[] #[]] rfl m0_q ?_; (with_reducible refine (impl_Lot_48.calls kj2 _ _ t185 a1_0 a1_1 a1_2 0 t188 true _ ?side1 ?side2 A14.out).mono ?_); (case side1 => exact m97_q); (case side2 => exact (rR_q HO187.out).2.1); rintro e w24 ⟨rfl, hb⟩; refine ⟨_, rfl, ?_⟩; replace HO187 := Ae_q (rO_q (rup HO187.out) hb); replace BK182 := Ae_q (bB_q (g := gb182) (o := .cells #[.int .i64 a1_0, .int .i64 a1_1, .int .i64 a1_2] 49 (0, 0)) (bup BK182.out) hb); replace HB := Ae_q (bT_q m5_q hb); (try clear hb); (try clear hb2); (try clear hk); (try clear hi)))
    replace HO187 := Ae_q (rD_q HO187.out)
    replace BK182 := Ae_q (bW_q BK182.out)
    replace HB := Ae_q (bD_q HB.out)
    have p190 : 0 ≤ (t188 : Int) := oD_q (by assumption)
    have q190 : t188 < (t185.length : Int) := oD_q (by assumption)
    obtain ⟨ad190, e190, hx190_0, hx190_1, hx190_2⟩ := at_T49 (rR_q HO187.out).2.2 t188 p190 q190
    cases e190
    replace p190 := eq_true p190
    replace q190 := eq_true q190
    have p18 : 0 ≤ (t188 : Int) := oD_q (by assumption)
    have q18 : (t188 : Int) < ((t185.length : Int) : Int) := oD_q (by assumption)
    obtain ⟨go18, co18, eo18, gb18, gl18, cl18, HG18⟩ := Kd.R_form HO187.out (by omega)
    (first | cases eo18 | (injection eo18 with ea_ en_ ec_; (first | subst ea_ | (injection ea_ with ea_; subst ea_)); subst ec_; clear en_))
    have GB18 := Ae_q gb18
    have GG18 := Ae_q HG18
    clear gb18 gl18 HG18
    (first | simp only [add_plain] at hx190_0 | skip)
    (first | simp only [add_plain] at hx190_1 | skip)
    (first | simp only [add_plain] at hx190_2 | skip)
    obtain ⟨ce18, hcl18, hM18, hcc18, hfr18⟩ := Kd.R_elem HO187.out z49 (t188 : Int) p18 q18
    obtain rfl := k49_openM hM18
    have hx18_0 : World.cell? _ ⟨go18, (t188 : Int).toNat * 3, none⟩ = some (.int .i64 ((rd_T49 t185 t188).f0)) := hcc18 0 _ rfl
    have hx18_1 : World.cell? _ ⟨go18, (t188 : Int).toNat * 3 + 1, none⟩ = some (.int .i64 ((rd_T49 t185 t188).f1)) := hcc18 1 _ rfl
    have hx18_2 : World.cell? _ ⟨go18, (t188 : Int).toNat * 3 + 2, none⟩ = some (.int .i64 ((rd_T49 t185 t188).f2)) := hcc18 2 _ rfl
    have hf18_0 : World.frozen? _ ⟨go18, (t188 : Int).toNat * 3, none⟩ = false := hfr18 0
    have hf18_1 : World.frozen? _ ⟨go18, (t188 : Int).toNat * 3 + 1, none⟩ = false := hfr18 1
    have hf18_2 : World.frozen? _ ⟨go18, (t188 : Int).toNat * 3 + 2, none⟩ = false := hfr18 2
    clear hcl18 hcc18 hfr18 hM18
    replace p18 := eq_true p18
    replace q18 := eq_true q18
    obtain ⟨ce26, hcl26, hM26, hcc26, hfr26⟩ := Kd.R_elem HO187.out z49 (t188 : Int) (oD_q (by assumption)) (by have h_ : (t188 : Int) < ((t185.length : Int) : Int) := oD_q (by assumption); first | exact h_ | (have e_ := (rR_q HO187.out).1; omega) | simpa using h_)
    obtain rfl := k49_openM hM26
    have HP26 := (Kd.R_seg HO187.out (t188 : Int) (oD_q (by assumption)) (by have h_ : (t188 : Int) < ((t185.length : Int) : Int) := oD_q (by assumption); first | exact h_ | (have e_ := (rR_q HO187.out).1; omega) | simpa using h_) (seg := [.int .i64 (wrap64 (((rd_T49 t185 t188).f2) + a1_2))]) (j := 2) hcl26 hcc26 (show 3 ≤ 3 from by decide) (x' := (⟨(rd_T49 t185 t188).f0, (rd_T49 t185 t188).f1, wrap64 (((rd_T49 t185 t188).f2) + a1_2)⟩ : S49)) (k49_mkM _ _ _ (⟨(rd_T49 t185 t188).f0, (rd_T49 t185 t188).f1, wrap64 (((rd_T49 t185 t188).f2) + a1_2)⟩ : S49) ) (fun _ hk => hk)).1
    rw [← Ny191.out] at HP26
    have HQ26 := Ae_q HP26
    clear hcl26 hcc26 hfr26 hM26 HP26
    refine start_ (n := 11) (S := fun w' => w'.cell? ⟨gb182, 0, none⟩ = some (.int .i64 a1_0) ∧ w'.cell? ⟨gb182, 1, none⟩ = some (.int .i64 a1_1) ∧ w'.cell? ⟨gb182, 2, none⟩ = some (.int .i64 a1_2) ∧ w'.cell? ⟨go18, ((t188).toNat * 3), none⟩ = some (.int .i64 ((rd_T49 t185 t188).f0)) ∧ w'.cell? ⟨go18, ((t188).toNat * 3) + 1, none⟩ = some (.int .i64 ((rd_T49 t185 t188).f1)) ∧ w'.cell? ⟨go18, ((t188).toNat * 3) + 2, none⟩ = some (.int .i64 ((rd_T49 t185 t188).f2))) (ds := [10]) #[false, false, false, false, false, false, false, false, false, false, false] m6_q rfl rfl ⟨(bC_q BK182.out 0).trans rfl, (bC_q BK182.out 1).trans rfl, (bC_q BK182.out 2).trans rfl, hx190_0, hx190_1, hx190_2⟩ (fun hHeld => ?_); refine with_tabW impl_StorePut.tab6 impl_StorePut.bits6 (fun HT_ HW_ => ?_)
    generalize w24.drew = w25 at HO187 BK182 HB GG18 HQ26 hf18_0 hf18_1 hf18_2 hx18_0 hx18_1 hx18_2 hx190_0 hx190_1 hx190_2 hHeld ⊢
    refine pJ HT_ 0 26 rfl rfl ?_
    refine pJ HT_ 1 27 rfl rfl ?_
    refine pJ HT_ 2 28 rfl rfl ?_
    refine pJ HT_ 3 29 rfl rfl ?_
    refine pJ HT_ 5 31 rfl rfl ?_
    refine take_ (i := 4) (N := some 30) (v := ?_) (a' := ?_) #[true, true, true, true, true, true, false, false, false, false, false] rfl rfl (take_ofW HT_.out HW_.out m6_q) (fun _ _ _ h => h) (Or.inl ⟨by rfl, ?_⟩) hHeld ?_ ?_
    rotate_left
    ·rintro w' ⟨s0, s1, s2, s3, s4, s5⟩
     go_simp
     with_reducible rfl
    rotate_left
    ·simp only [pS_q]
     rfl
    refine take_ (i := 6) (N := some 32) (v := ?_) (a' := ?_) #[true, true, true, true, true, true, true, false, false, false, false] rfl rfl (take_ofW HT_.out HW_.out m6_q) (fun _ _ _ h => h) (Or.inl ⟨by rfl, ?_⟩) hHeld ?_ ?_
    rotate_left
    ·rintro w' ⟨s0, s1, s2, s3, s4, s5⟩
     go_simp
     with_reducible rfl
    rotate_left
    ·simp only [pS_q]
     rfl
    refine pJ HT_ 7 33 rfl rfl ?_
    refine pJ HT_ 8 34 rfl rfl ?_
    refine pJ HT_ 9 35 rfl rfl ?_
    refine last_ (i := 10) (N := none) #[true, true, true, true, true, true, true, true, true, true, true] rfl rfl (one_of HT_.out m6_q) (by decide) (fun K hK => ?_)
    refine skip_ (w1 := ?_) (by rfl) rfl ?_ ?_
    rotate_left
    ·go_simp
     rfl
    refine hK.out _ _ ?_
    clear hK K
    refine done_ (done_of HT_.out m6_q) ?_
    try go_wp2_with (first | ((with_reducible refine gC_q (f := 45) rfl ?_); refine gL_q (some 42) rfl rfl Tryd.func45 m6_q rfl #[.slice (some ⟨go18, 0, none⟩) y191.length co23] rfl (by (try simp only [lM_q, lC_q, lN_q]); first | done | (rw [show y191.length = t185.length from (rR_q HQ26.out).1.symm] <;> rfl) | rfl | (simp only [lD_q, lT_q]; rfl)) ?_; (with_reducible refine (impl_StoreValid.calls kj2 _ _ y191 true _ ?side1 ?side2 A19.out).mono ?_); (case side1 => refine (rR_q (e := 49) (base := w.heap.size) (ok := fun k_ => (True ∧ k_ ≠ gb182)) (n := t185.length) (c := co23) ?_).2.2; exact m86_q); (case side2 => rw [show y191.length = t185.length from (rR_q HQ26.out).1.symm]; exact (rR_q HO187.out).2.1); rintro e w' ⟨rfl, hb⟩; refine ⟨_, rfl, ?_⟩; replace BK182 := Ae_q (bB_q (g := gb182) (o := .cells #[.int .i64 a1_0, .int .i64 a1_1, .int .i64 a1_2] 49 (0, 0)) (by (with_reducible repeat (first | refine bN_q ?_ _ | refine bW_q ?_ | refine bL_q ?_ _)); refine blk_far ?_ (by have h_ := Kd.R_away HO187.out (fun _ hk => hk.2); intro e_; exact h_ (by rw [e_]; rfl)) _; (with_reducible repeat (first | refine bN_q ?_ _ | refine bW_q ?_ | refine bL_q ?_ _)); exact BK182.out) hb); replace HO187 := Ae_q (rO_q m86_q hb); replace HB := Ae_q (bT_q m62_q hb); (try clear hb); (try clear hb2); (try clear hk); (try clear hi)))
    go_ret2
    exact ⟨_, m3_q, by (with_reducible repeat (first | apply rA_q | apply rN_q | apply rD_q)); exact rM_q HO187.out (fun _ hk => trivial), m5_q⟩
   replace c20 := fM_q.mpr c20
   subst c20
   have H1 : (some (([] : List (S49)), false)) = some (r1, r2) := by rw [if_neg (show ¬ (false = true) by decide)] at H; exact H
   clear H
   have H := H1
   clear H1
   simp only [oE_q, pE_q] at H
   obtain ⟨rfl, rfl⟩ := H
   try go_wp2_with (first | ((with_reducible refine gC_q (f := 47) rfl ?_); refine gL_q (some 18) rfl rfl Tryd.func47 m6_q rfl #[.slice A0 l0.length c0] rfl m0_q ?_; (with_reducible refine (impl_Lot_47.calls _ _ l0 t185 _ ?side1 ?side2 A13.out).mono ?_); (case side1 => exact m37_q); (case side2 => exact m60_q); rintro e w28 ⟨v186, rfl, ho0, hb⟩; refine ⟨_, rfl, ?_⟩; have HO187 := Ae_q (rL_q (Kd.R_newB ho0 (g := gb182) (o := .cells #[.int .i64 a1_0, .int .i64 a1_1, .int .i64 a1_2] 49 (0, 0)) (bup BK182.out)) (bZ_q m5_q)); replace BK182 := Ae_q (bB_q (g := gb182) (o := .cells #[.int .i64 a1_0, .int .i64 a1_1, .int .i64 a1_2] 49 (0, 0)) (bup BK182.out) hb); replace HB := Ae_q (bT_q m5_q hb); (try clear hb); (try clear hb2); (try clear hk); (try clear hi); (try clear ho0); have hcz29_0 : cI w28 gb182 0 a1_0 := cZ BK182 0 rfl; have hcz29_1 : cI w28 gb182 1 a1_1 := cZ BK182 1 rfl; have hcz29_2 : cI w28 gb182 2 a1_2 := cZ BK182 2 rfl; have hfz29_0 := bF_q BK182.out 0; have hfz29_1 := bF_q BK182.out 1; have hfz29_2 := bF_q BK182.out 2; obtain ⟨Ao30, co30, eo30⟩ := rS_q HO187.out; subst eo30) | ((with_reducible refine gC_q (f := 48) rfl ?_); refine gL_q (some 22) rfl rfl Tryd.func48 m6_q rfl #[.slice Ao30 t185.length co30, .agg #[.int .i64 a1_0, .int .i64 a1_1, .int .i64 a1_2], .func (.func 49) #[] #[]] rfl m0_q ?_; (with_reducible refine (impl_Lot_48.calls kj2 _ _ t185 a1_0 a1_1 a1_2 0 t188 true _ ?side1 ?side2 A14.out).mono ?_); (case side1 => exact m97_q); (case side2 => exact (rR_q HO187.out).2.1); rintro e w31 ⟨rfl, hb⟩; refine ⟨_, rfl, ?_⟩; replace HO187 := Ae_q (rO_q (rup HO187.out) hb); replace BK182 := Ae_q (bB_q (g := gb182) (o := .cells #[.int .i64 a1_0, .int .i64 a1_1, .int .i64 a1_2] 49 (0, 0)) (bup BK182.out) hb); replace HB := Ae_q (bT_q m5_q hb); (try clear hb); (try clear hb2); (try clear hk); (try clear hi)))
   replace HO187 := Ae_q (rD_q HO187.out)
   replace BK182 := Ae_q (bW_q BK182.out)
   replace HB := Ae_q (bD_q HB.out)
   have p190 : 0 ≤ (t188 : Int) := oD_q (by assumption)
   have q190 : t188 < (t185.length : Int) := oD_q (by assumption)
   obtain ⟨ad190, e190, hx190_0, hx190_1, hx190_2⟩ := at_T49 (rR_q HO187.out).2.2 t188 p190 q190
   cases e190
   replace p190 := eq_true p190
   replace q190 := eq_true q190
   have p18 : 0 ≤ (t188 : Int) := oD_q (by assumption)
   have q18 : (t188 : Int) < ((t185.length : Int) : Int) := oD_q (by assumption)
   obtain ⟨go18, co18, eo18, gb18, gl18, cl18, HG18⟩ := Kd.R_form HO187.out (by omega)
   (first | cases eo18 | (injection eo18 with ea_ en_ ec_; (first | subst ea_ | (injection ea_ with ea_; subst ea_)); subst ec_; clear en_))
   have GB18 := Ae_q gb18
   have GG18 := Ae_q HG18
   clear gb18 gl18 HG18
   (first | simp only [add_plain] at hx190_0 | skip)
   (first | simp only [add_plain] at hx190_1 | skip)
   (first | simp only [add_plain] at hx190_2 | skip)
   obtain ⟨ce18, hcl18, hM18, hcc18, hfr18⟩ := Kd.R_elem HO187.out z49 (t188 : Int) p18 q18
   obtain rfl := k49_openM hM18
   have hx18_0 : World.cell? _ ⟨go18, (t188 : Int).toNat * 3, none⟩ = some (.int .i64 ((rd_T49 t185 t188).f0)) := hcc18 0 _ rfl
   have hx18_1 : World.cell? _ ⟨go18, (t188 : Int).toNat * 3 + 1, none⟩ = some (.int .i64 ((rd_T49 t185 t188).f1)) := hcc18 1 _ rfl
   have hx18_2 : World.cell? _ ⟨go18, (t188 : Int).toNat * 3 + 2, none⟩ = some (.int .i64 ((rd_T49 t185 t188).f2)) := hcc18 2 _ rfl
   have hf18_0 : World.frozen? _ ⟨go18, (t188 : Int).toNat * 3, none⟩ = false := hfr18 0
   have hf18_1 : World.frozen? _ ⟨go18, (t188 : Int).toNat * 3 + 1, none⟩ = false := hfr18 1
   have hf18_2 : World.frozen? _ ⟨go18, (t188 : Int).toNat * 3 + 2, none⟩ = false := hfr18 2
   clear hcl18 hcc18 hfr18 hM18
   replace p18 := eq_true p18
   replace q18 := eq_true q18
   obtain ⟨ce33, hcl33, hM33, hcc33, hfr33⟩ := Kd.R_elem HO187.out z49 (t188 : Int) (oD_q (by assumption)) (by have h_ : (t188 : Int) < ((t185.length : Int) : Int) := oD_q (by assumption); first | exact h_ | (have e_ := (rR_q HO187.out).1; omega) | simpa using h_)
   obtain rfl := k49_openM hM33
   have HP33 := (Kd.R_seg HO187.out (t188 : Int) (oD_q (by assumption)) (by have h_ : (t188 : Int) < ((t185.length : Int) : Int) := oD_q (by assumption); first | exact h_ | (have e_ := (rR_q HO187.out).1; omega) | simpa using h_) (seg := [.int .i64 (wrap64 (((rd_T49 t185 t188).f2) + a1_2))]) (j := 2) hcl33 hcc33 (show 3 ≤ 3 from by decide) (x' := (⟨(rd_T49 t185 t188).f0, (rd_T49 t185 t188).f1, wrap64 (((rd_T49 t185 t188).f2) + a1_2)⟩ : S49)) (k49_mkM _ _ _ (⟨(rd_T49 t185 t188).f0, (rd_T49 t185 t188).f1, wrap64 (((rd_T49 t185 t188).f2) + a1_2)⟩ : S49) ) (fun _ hk => hk)).1
   rw [← Ny191.out] at HP33
   have HQ33 := Ae_q HP33
   clear hcl33 hcc33 hfr33 hM33 HP33
   refine start_ (n := 11) (S := fun w' => w'.cell? ⟨gb182, 0, none⟩ = some (.int .i64 a1_0) ∧ w'.cell? ⟨gb182, 1, none⟩ = some (.int .i64 a1_1) ∧ w'.cell? ⟨gb182, 2, none⟩ = some (.int .i64 a1_2) ∧ w'.cell? ⟨go18, ((t188).toNat * 3), none⟩ = some (.int .i64 ((rd_T49 t185 t188).f0)) ∧ w'.cell? ⟨go18, ((t188).toNat * 3) + 1, none⟩ = some (.int .i64 ((rd_T49 t185 t188).f1)) ∧ w'.cell? ⟨go18, ((t188).toNat * 3) + 2, none⟩ = some (.int .i64 ((rd_T49 t185 t188).f2))) (ds := [10]) #[false, false, false, false, false, false, false, false, false, false, false] m6_q rfl rfl ⟨(bC_q BK182.out 0).trans rfl, (bC_q BK182.out 1).trans rfl, (bC_q BK182.out 2).trans rfl, hx190_0, hx190_1, hx190_2⟩ (fun hHeld => ?_); refine with_tabW impl_StorePut.tab6 impl_StorePut.bits6 (fun HT_ HW_ => ?_)
   generalize w31.drew = w32 at HO187 BK182 HB GG18 HQ33 hf18_0 hf18_1 hf18_2 hx18_0 hx18_1 hx18_2 hx190_0 hx190_1 hx190_2 hHeld ⊢
   refine pJ HT_ 0 26 rfl rfl ?_
   refine pJ HT_ 1 27 rfl rfl ?_
   refine pJ HT_ 2 28 rfl rfl ?_
   refine pJ HT_ 3 29 rfl rfl ?_
   refine pJ HT_ 5 31 rfl rfl ?_
   refine take_ (i := 4) (N := some 30) (v := ?_) (a' := ?_) #[true, true, true, true, true, true, false, false, false, false, false] rfl rfl (take_ofW HT_.out HW_.out m6_q) (fun _ _ _ h => h) (Or.inl ⟨by rfl, ?_⟩) hHeld ?_ ?_
   rotate_left
   ·rintro w' ⟨s0, s1, s2, s3, s4, s5⟩
    go_simp
    with_reducible rfl
   rotate_left
   ·simp only [pS_q]
    rfl
   refine take_ (i := 6) (N := some 32) (v := ?_) (a' := ?_) #[true, true, true, true, true, true, true, false, false, false, false] rfl rfl (take_ofW HT_.out HW_.out m6_q) (fun _ _ _ h => h) (Or.inl ⟨by rfl, ?_⟩) hHeld ?_ ?_
   rotate_left
   ·rintro w' ⟨s0, s1, s2, s3, s4, s5⟩
    go_simp
    with_reducible rfl
   rotate_left
   ·simp only [pS_q]
    rfl
   refine pJ HT_ 7 33 rfl rfl ?_
   refine pJ HT_ 8 34 rfl rfl ?_
   refine pJ HT_ 9 35 rfl rfl ?_
   refine last_ (i := 10) (N := none) #[true, true, true, true, true, true, true, true, true, true, true] rfl rfl (one_of HT_.out m6_q) (by decide) (fun K hK => ?_)
   refine skip_ (w1 := ?_) (by rfl) rfl ?_ ?_
   rotate_left
   ·go_simp
    rfl
   refine hK.out _ _ ?_
   clear hK K
   refine done_ (done_of HT_.out m6_q) ?_
   try go_wp2_with (first | ((with_reducible refine gC_q (f := 45) rfl ?_); refine gL_q (some 42) rfl rfl Tryd.func45 m6_q rfl #[.slice (some ⟨go18, 0, none⟩) y191.length co30] rfl (by (try simp only [lM_q, lC_q, lN_q]); first | done | (rw [show y191.length = t185.length from (rR_q HQ33.out).1.symm] <;> rfl) | rfl | (simp only [lD_q, lT_q]; rfl)) ?_; (with_reducible refine (impl_StoreValid.calls kj2 _ _ y191 false _ ?side1 ?side2 A19.out).mono ?_); (case side1 => refine (rR_q (e := 49) (base := w.heap.size) (ok := fun k_ => (True ∧ k_ ≠ gb182)) (n := t185.length) (c := co30) ?_).2.2; exact m87_q); (case side2 => rw [show y191.length = t185.length from (rR_q HQ33.out).1.symm]; exact (rR_q HO187.out).2.1); rintro e w' ⟨rfl, hb⟩; refine ⟨_, rfl, ?_⟩; replace BK182 := Ae_q (bB_q (g := gb182) (o := .cells #[.int .i64 a1_0, .int .i64 a1_1, .int .i64 a1_2] 49 (0, 0)) (by (with_reducible repeat (first | refine bN_q ?_ _ | refine bW_q ?_ | refine bL_q ?_ _)); refine blk_far ?_ (by have h_ := Kd.R_away HO187.out (fun _ hk => hk.2); intro e_; exact h_ (by rw [e_]; rfl)) _; (with_reducible repeat (first | refine bN_q ?_ _ | refine bW_q ?_ | refine bL_q ?_ _)); exact BK182.out) hb); replace HO187 := Ae_q (rO_q m87_q hb); replace HB := Ae_q (bT_q m62_q hb); (try clear hb); (try clear hb2); (try clear hk); (try clear hi)))
   go_ret2
   exact ⟨_, m3_q, m30_q, m5_q⟩

def impl_StoreHas.l0 : Nat → Int → Int → Int → List (S49) → Int → Int → Option (Int)
 | 0, _, _, _, _, _, _ => none
 | k + 1, x1, x2, x7, x13, x14, x15 => if x15 < x14 then (if 0 ≤ x15 then (if x15 < (x13.length : Int) then (if ((rd_T49 x13 x15).f0) = x1 then (if ((rd_T49 x13 x15).f1) ≥ x2 then (impl_StoreHas.l0 k x1 x2 (wrap64 (x7 + ((rd_T49 x13 x15).f2))) x13 x14 (wrap64 (x15 + 1))) else (impl_StoreHas.l0 k x1 x2 x7 x13 x14 (wrap64 (x15 + 1)))) else (impl_StoreHas.l0 k x1 x2 x7 x13 x14 (wrap64 (x15 + 1)))) else (none)) else (none)) else (some x7)
def impl_StoreHas.f (k : Nat) (l0 : List (S49)) (a1 : Int) (a2 : Int) : Option (Int) := (impl_StoreValid.f k l0).bind fun t197 => (if t197 = true then (impl_StoreHas.l0 k a1 a2 0 l0 (l0.length : Int) 0) else (some (-1)))
set_option maxHeartbeats 8000000 in
set_option maxRecDepth 100000 in
theorem impl_StoreHas.calls (k : Nat) (A0 : Option Addr) (c0 : Nat) (l0 : List (S49)) (a1 : Int) (a2 : Int) (r : Int) (w : World) (hr0 : Kd.C k49 w A0 l0.length l0) (hc0 : l0.length ≤ c0) (h : impl_StoreHas.f k l0 a1 a2 = some r) :
    Calls Tryd.prog 34 #[.slice A0 l0.length c0, .int .i64 a1, .int .i64 a2] w fun e w' => e = .returned (.int .i64 r) ∧ Below w.heap.size w w' := by
 have hu49 := Tryd.underlying49
 have HR0 := Ae_q hr0
 have HC0 := Ae_q hc0
 clear hr0 hc0
 have HB := Ae_q (bR_q w.heap.size w)
 have H : ((impl_StoreValid.f k l0).bind fun t197 => (if t197 = true then (impl_StoreHas.l0 k a1 a2 0 l0 (l0.length : Int) 0) else (some (-1)))) = some r := h
 clear h
 replace H := oB_q.mp H
 obtain ⟨t197, A40, H⟩ := H
 replace H : (if t197 = true then (impl_StoreHas.l0 k a1 a2 0 l0 (l0.length : Int) 0) else (some (-1))) = some r := H
 have A4 := Ae_q A40
 clear A40
 by_cases c5 : t197 = true
 rotate_left
 ·replace c5 := fM_q.mpr c5
  subst c5
  have H1 : (some (-1)) = some r := by rw [if_neg (show ¬ (false = true) by decide)] at H; exact H
  clear H
  have H := H1
  clear H1
  obtain rfl := oI_q H
  go_enter Tryd.func34, Tryd.ntmps34
  go_wp2_with (first | ((with_reducible refine gC_q (f := 45) rfl ?_); refine gL_q (some 11) rfl rfl Tryd.func45 m6_q rfl #[.slice A0 l0.length c0] rfl m0_q ?_; (with_reducible refine (impl_StoreValid.calls k _ _ l0 false _ ?side1 ?side2 A4.out).mono ?_); (case side1 => exact m36_q); (case side2 => exact m60_q); rintro e w' ⟨rfl, hb⟩; refine ⟨_, rfl, ?_⟩; replace HB := Ae_q (bT_q (bel HB.out) hb); (try clear hb); (try clear hb2); (try clear hk); (try clear hi)))
  go_ret
  exact ⟨m3_q, bel HB.out⟩
 subst c5
 have H1 : (impl_StoreHas.l0 k a1 a2 0 l0 (l0.length : Int) 0) = some r := by rw [if_pos rfl] at H; exact H
 clear H
 have H := H1
 clear H1
 have H' := Ae_q H
 clear H
 go_enter Tryd.func34, Tryd.ntmps34
 go_wp2_with (first | ((with_reducible refine gC_q (f := 45) rfl ?_); refine gL_q (some 11) rfl rfl Tryd.func45 m6_q rfl #[.slice A0 l0.length c0] rfl m0_q ?_; (with_reducible refine (impl_StoreValid.calls k _ _ l0 true _ ?side1 ?side2 A4.out).mono ?_); (case side1 => exact m36_q); (case side2 => exact m60_q); rintro e w' ⟨rfl, hb⟩; refine ⟨_, rfl, ?_⟩; replace HB := Ae_q (bT_q (bel HB.out) hb); (try clear hb); (try clear hb2); (try clear hk); (try clear hi)))
 go_loopg [7, 15] k (fun kq v7 v15 w' => ∃ (x7_1 : Int) (x15_1 : Int), v7 = .int .i64 x7_1 ∧ v15 = .int .i64 x15_1 ∧ Aside0 (impl_StoreHas.l0 kq a1 a2 x7_1 l0 (l0.length : Int) x15_1 = some r) ∧ Aside0 (kq ≤ k) ∧ Aside0 (Below w.heap.size w w'))
 case atStart => exact ⟨(0), (0), m2_q, m2_q, H', ⟨nR_q _⟩, ⟨bel HB.out⟩⟩
 case round =>
  clear H'
  try clear p2
  try clear c3
  try clear c4
  try clear c5
  obtain ⟨x7_1, x15_1, rfl, rfl, HA, HK1, HB⟩ := hrel
  cases gk with
  | zero => exact absurd HA.out (by simp [impl_StoreHas.l0])
  | succ k1 =>
   have H := HA.out
   clear HA
   simp only [impl_StoreHas.l0] at H
   by_cases c7 : x15_1 < (l0.length : Int)
   rotate_left
   ·rw [if_neg c7] at H
    have c7b0 : decide (x15_1 < (l0.length : Int)) = false := dF_q c7
    clear c7
    obtain rfl := oI_q H
    go_wp2
    go_ret
    exact ⟨m3_q, bel HB.out⟩
   rw [if_pos c7] at H
   have c7b0 : decide (x15_1 < (l0.length : Int)) = true := dT_q c7
   clear c7
   by_cases c8 : 0 ≤ x15_1
   rotate_left
   ·rw [if_neg c8] at H
    exact absurd H (by simp)
   rw [if_pos c8] at H
   have c8b0 : decide (0 ≤ x15_1) = true := dT_q c8
   clear c8
   by_cases c9 : x15_1 < (l0.length : Int)
   rotate_left
   ·rw [if_neg c9] at H
    exact absurd H (by simp)
   rw [if_pos c9] at H
   have c9b0 : decide (x15_1 < (l0.length : Int)) = true := dT_q c9
   clear c9
   by_cases c10 : ((rd_T49 l0 x15_1).f0) = a1
   rotate_left
   ·rw [if_neg c10] at H
    have c10b0 : (((rd_T49 l0 x15_1).f0) == a1) = false := fN_q.mpr c10
    have c10b1 : (((rd_T49 l0 x15_1).f0) != a1) = true := nI_q.mpr c10
    have H' := Ae_q H
    clear H
    have p198 : 0 ≤ (x15_1 : Int) := oD_q (by assumption)
    have q198 : x15_1 < (l0.length : Int) := oD_q (by assumption)
    obtain ⟨ad198, e198, hx198_0, hx198_1, hx198_2⟩ := at_T49 HR0.out x15_1 p198 q198
    cases e198
    replace hx198_0 := cel HB.out hx198_0
    replace hx198_1 := cel HB.out hx198_1
    replace hx198_2 := cel HB.out hx198_2
    replace p198 := eq_true p198
    replace q198 := eq_true q198
    go_wp2_with (first | ((with_reducible refine gD_q (N := 9) rfl ?_); refine bE_q ?hg (N := 9) ?hd (cs := #[.int .i64 0, .int .i64 0, .int .i64 0]) (t := 49) ?hr ?_; (case hd => rfl); (case hg => rfl); (case hr => exact m10_q); intro gb199 hg w16 hbox hb; have BK199 := Ae_q (hbox); have GW199 := Ae_q ((by rw [hg]; exact (bZ_q (bel HB.out)) : w.heap.size ≤ gb199)); have GE199 := Ae_q ((by rw [hg]; exact (bZ_q (bel HB.out)) : w.heap.size ≤ gb199)); replace HB := Ae_q (bT_q (bel HB.out) hb); clear hb hbox hg; have hcz17_0 : cI w16 gb199 0 0 := cZ BK199 0 rfl; have hcz17_1 : cI w16 gb199 1 0 := cZ BK199 1 rfl; have hcz17_2 : cI w16 gb199 2 0 := cZ BK199 2 rfl; have hfz17_0 := bF_q BK199.out 0; have hfz17_1 := bF_q BK199.out 1; have hfz17_2 := bF_q BK199.out 2))
    go_roundg k1
    case measure => have := HK1.out; omega
    case rel => exact ⟨(x7_1), (wrap64 (x15_1 + 1)), m2_q, m2_q, H', ⟨m38_q⟩, ⟨m53_q⟩⟩
   rw [if_pos c10] at H
   have c10b0 : (((rd_T49 l0 x15_1).f0) == a1) = true := beq_iff_eq.mpr c10
   have c10b1 : (((rd_T49 l0 x15_1).f0) != a1) = false := nE_q.mpr c10
   clear c10
   by_cases c11 : ((rd_T49 l0 x15_1).f1) ≥ a2
   ·rw [if_pos c11] at H
    have c11b0 : decide (a2 ≤ ((rd_T49 l0 x15_1).f1)) = true := dT_q c11
    clear c11
    have H' := Ae_q H
    clear H
    have p198 : 0 ≤ (x15_1 : Int) := oD_q (by assumption)
    have q198 : x15_1 < (l0.length : Int) := oD_q (by assumption)
    obtain ⟨ad198, e198, hx198_0, hx198_1, hx198_2⟩ := at_T49 HR0.out x15_1 p198 q198
    cases e198
    replace hx198_0 := cel HB.out hx198_0
    replace hx198_1 := cel HB.out hx198_1
    replace hx198_2 := cel HB.out hx198_2
    replace p198 := eq_true p198
    replace q198 := eq_true q198
    go_wp2_with (first | ((with_reducible refine gD_q (N := 9) rfl ?_); refine bE_q ?hg (N := 9) ?hd (cs := #[.int .i64 0, .int .i64 0, .int .i64 0]) (t := 49) ?hr ?_; (case hd => rfl); (case hg => rfl); (case hr => exact m10_q); intro gb199 hg w12 hbox hb; have BK199 := Ae_q (hbox); have GW199 := Ae_q ((by rw [hg]; exact (bZ_q (bel HB.out)) : w.heap.size ≤ gb199)); have GE199 := Ae_q ((by rw [hg]; exact (bZ_q (bel HB.out)) : w.heap.size ≤ gb199)); replace HB := Ae_q (bT_q (bel HB.out) hb); clear hb hbox hg; have hcz13_0 : cI w12 gb199 0 0 := cZ BK199 0 rfl; have hcz13_1 : cI w12 gb199 1 0 := cZ BK199 1 rfl; have hcz13_2 : cI w12 gb199 2 0 := cZ BK199 2 rfl; have hfz13_0 := bF_q BK199.out 0; have hfz13_1 := bF_q BK199.out 1; have hfz13_2 := bF_q BK199.out 2))
    go_roundg k1
    case measure => have := HK1.out; omega
    case rel => exact ⟨(wrap64 (x7_1 + ((rd_T49 l0 x15_1).f2))), (wrap64 (x15_1 + 1)), m2_q, m2_q, H', ⟨m38_q⟩, ⟨m53_q⟩⟩
   rw [if_neg c11] at H
   have c11b0 : decide (a2 ≤ ((rd_T49 l0 x15_1).f1)) = false := dF_q c11
   clear c11
   have H' := Ae_q H
   clear H
   have p198 : 0 ≤ (x15_1 : Int) := oD_q (by assumption)
   have q198 : x15_1 < (l0.length : Int) := oD_q (by assumption)
   obtain ⟨ad198, e198, hx198_0, hx198_1, hx198_2⟩ := at_T49 HR0.out x15_1 p198 q198
   cases e198
   replace hx198_0 := cel HB.out hx198_0
   replace hx198_1 := cel HB.out hx198_1
   replace hx198_2 := cel HB.out hx198_2
   replace p198 := eq_true p198
   replace q198 := eq_true q198
   go_wp2_with (first | ((with_reducible refine gD_q (N := 9) rfl ?_); refine bE_q ?hg (N := 9) ?hd (cs := #[.int .i64 0, .int .i64 0, .int .i64 0]) (t := 49) ?hr ?_; (case hd => rfl); (case hg => rfl); (case hr => exact m10_q); intro gb199 hg w14 hbox hb; have BK199 := Ae_q (hbox); have GW199 := Ae_q ((by rw [hg]; exact (bZ_q (bel HB.out)) : w.heap.size ≤ gb199)); have GE199 := Ae_q ((by rw [hg]; exact (bZ_q (bel HB.out)) : w.heap.size ≤ gb199)); replace HB := Ae_q (bT_q (bel HB.out) hb); clear hb hbox hg; have hcz15_0 : cI w14 gb199 0 0 := cZ BK199 0 rfl; have hcz15_1 : cI w14 gb199 1 0 := cZ BK199 1 rfl; have hcz15_2 : cI w14 gb199 2 0 := cZ BK199 2 rfl; have hfz15_0 := bF_q BK199.out 0; have hfz15_1 := bF_q BK199.out 1; have hfz15_2 := bF_q BK199.out 2))
   go_roundg k1
   case measure => have := HK1.out; omega
   case rel => exact ⟨(x7_1), (wrap64 (x15_1 + 1)), m2_q, m2_q, H', ⟨m38_q⟩, ⟨m53_q⟩⟩

end Go.Proofs.YtbclhpibilbdbaaDoor.PSc
