import Derived.Test.YtfnpiacmlahegaaVSPRpx0
import Derived.Test.YtfnpiacmlahegaaVSPRpx16
import Derived.Test.YtfnpiacmlahegaaVSPRpx18
import Derived.Test.YtfnpiacmlahegaaVSPRpx19
namespace Go.Proofs.Ytfnpiacmlahegaa.PRp
open Go.RowKit Go.Proofs.YtfnpiacmlahegaaW.PrintWords Go.Proofs.YtfnpiacmlahegaaW.PrintLast Go.Proofs.YtfnpiacmlahegaaW.PrintMore
attribute [local go_sem] max2_int min2_int max_two min_two max_three min_three max_four min_four
set_option linter.unusedVariables false
set_option linter.unusedSimpArgs false

def impl_place.l0 : Nat → List (S63) → List Int → Int → Int → Int → List Int → Option (Int)
 | 0, _, _, _, _, _, _ => none
 | k + 1, x0, x2, x11, x12, x353000, x353001 => if x12 ≤ 999 then ((impl_PlanMake_1.f x12).bind fun t353 => (if t353 = true then (if 0 ≤ (wrap64 (x11 + 1)) then (if (wrap64 (x11 + 1)) ≤ (x0.length : Int) then ((slices_Clone_int_int.f x2).bind fun t358 => ((some (([x12] : List Int) : List Int)).bind fun y361 => (if t358.length + y361.length < 17592186044416 then ((impl_planFits.f k (x0.take ((wrap64 (x11 + 1)) : Int).toNat) x353000 x353001 (t358 ++ y361)).bind fun t367 => (if t367 = true then (some x12) else (impl_place.l0 k x0 x2 x11 (wrap64 (x12 + 1)) x353000 x353001))) else (none)))) else (none)) else (none)) else (impl_place.l0 k x0 x2 x11 (wrap64 (x12 + 1)) x353000 x353001))) else (some (-1))
def impl_place.f (k : Nat) (l0 : List (S63)) (a1_0 : Int) (l1_1 : List Int) (l2 : List Int) (a3 : Int) (a4 : Int) : Option (Int) := impl_place.l0 k l0 l2 (l2.length : Int) a3 a1_0 l1_1
def impl_place.T5 : Bool × List (List Nat × List Nat) := (true, [([], []), ([], []), ([0, 1], [0, 1]), ([2, 2], [2]), ([3], [3]), ([3], [3]), ([5, 3], [3, 5]), ([4, 6, 3], [3, 4, 6]), ([3], [3]), ([3], [3]), ([9, 3, 3], [3, 9]), ([3], [3]), ([11, 3], [3, 11]), ([10, 12, 10, 3], [3, 10, 12]), ([7, 8, 13, 13, 3], [3, 7, 8, 13]), ([3, 14], [3, 14])])
def impl_place.B5 : List Nat := [0, 0, 3, 7, 15, 15, 47, 127, 15, 15, 527, 15, 2063, 7695, 16383, 32767]
theorem impl_place.tab5 : rtab .any (opsOf Try.f50 5) = impl_place.T5 := by kernel_rfl
theorem impl_place.bits5 : waitsOk impl_place.T5.2 impl_place.B5 = true := by kernel_rfl
theorem goesV_ {P : Program} {ops : Array Oper} {Q : Exit → Act → World → Prop} {oi : Oper} {N : Option Tmp} {a : Act} {w : World} {K : Act → World → Prop} {c : Operand} {caps : Array Value} {f : FuncId} {fn : Func} {as_ : Array Operand} {ts : Array TypeId} (hf : P.funcs[f]? = some fn) (hname : (fn.name == "runtime.NumGoroutine") = false) (hb : fn.body.isSome = true) (args : Array Value)
    (hw : Region.wanted oi (yielded ops a.tmps) = true) (hN : oi.dst = N) (hop : oi.op = .call { callee := .value c, args := as_, argTypes := ts }) (hval : a.eval c = .func (.func f) #[] caps) (hargs : as_.map a.eval = args) {all_ : Array Value} (hall : args ++ caps = all_)
    (h : Calls P f all_ w fun e w' => ∃ v, e = .returned v ∧ K (a.put N v) w') : if Region.wanted oi (yielded ops a.tmps) = true then Oper.wp P oi a w K Q else K (a.put N undef) w := by
 subst hall
 refine call_ f (args ++ caps) hw hN ?_ h
 have he := enters_ hf hname hb (args ++ caps) w
 unfold execOp
 simp [hop, resolve, hval, Deferred.ofValue, invoke, hargs, he]
set_option maxHeartbeats 8000000 in
set_option maxRecDepth 100000 in
theorem impl_place.calls (k : Nat) (A0 : Option Addr) (c0 : Nat) (l0 : List (S63)) (a1_0 : Int) (A1_1 : Option Addr) (c1_1 : Nat) (l1_1 : List Int) (A2 : Option Addr) (c2 : Nat) (l2 : List Int) (a3 : Int) (a4 : Int) (r : Int) (w : World) (hr0 : Kd.C k63 w A0 l0.length l0) (hc0 : l0.length ≤ c0) (hr1_1 : Kd.C kI_q w A1_1 l1_1.length l1_1) (hc1_1 : l1_1.length ≤ c1_1) (hr2 : Kd.C kI_q w A2 l2.length l2) (hc2 : l2.length ≤ c2) (h : impl_place.f k l0 a1_0 l1_1 l2 a3 a4 = some r) :
    Calls Try.prog 50 #[.slice A0 l0.length c0, .agg #[.int .i64 a1_0, .slice A1_1 l1_1.length c1_1], .slice A2 l2.length c2, .int .i64 a3, .func (.func 51) #[] #[]] w fun e w' => e = .returned (.int .i64 r) ∧ Below w.heap.size w w' := by
 have hu43 := Try.underlying43
 have HR0 := Ae_q hr0
 have HC0 := Ae_q hc0
 clear hr0 hc0
 have HR1_1 := Ae_q hr1_1
 have HC1_1 := Ae_q hc1_1
 clear hr1_1 hc1_1
 have HR2 := Ae_q hr2
 have HC2 := Ae_q hc2
 clear hr2 hc2
 have HB := Ae_q (bR_q w.heap.size w)
 have H : (impl_place.l0 k l0 l2 (l2.length : Int) a3 a1_0 l1_1) = some r := h
 clear h
 have H' := Ae_q H
 clear H
 go_enter Try.func50, Try.ntmps50
 go_wp2_with (first | ((with_reducible refine gD_q (N := 6) rfl ?_); (try (refine gate_guard (by rfl) ?_; dsimp only)); refine bE_q ?hg (N := 6) ?hd (cs := #[.int .i64 a1_0, .slice A1_1 l1_1.length c1_1]) (t := 43) ?hr ?_; (case hd => rfl); (case hg => rfl); (case hr => exact m6_q); intro gb352 hg w' hbox hb; have BK352 := Ae_q (hbox); have GW352 := Ae_q ((by rw [hg]; exact (bZ_q (bel HB.out)) : w.heap.size ≤ gb352)); have GE352 := Ae_q ((by rw [hg]; exact (bZ_q (bel HB.out)) : w.heap.size ≤ gb352)); replace HB := Ae_q (bT_q (bel HB.out) hb); clear hb hbox hg))
 go_loopg [12] k (fun kq v12 w' => ∃ (x12_1 : Int), v12 = .int .i64 x12_1 ∧ Aside0 (impl_place.l0 kq l0 l2 (l2.length : Int) x12_1 a1_0 l1_1 = some r) ∧ Aside0 (kq ≤ k) ∧ Aside0 (w'.heap[gb352]? = some (.cells #[.int .i64 a1_0, (.slice A1_1 l1_1.length c1_1)] 43 (0, 0))) ∧ Aside0 (Below w.heap.size w w'))
 case atStart => exact ⟨(a3), m5_q, H', ⟨nR_q _⟩, ⟨bup BK352.out⟩, ⟨m3_q⟩⟩
 case round =>
  clear H'
  try clear c1
  try clear c2
  try clear p2
  try clear c5
  obtain ⟨x12_1, rfl, HA, HK1, BK352, HB⟩ := hrel
  cases gk with
  | zero => exact absurd HA.out (by simp [impl_place.l0])
  | succ k1 =>
   have H := HA.out
   clear HA
   simp only [impl_place.l0] at H
   by_cases c7 : x12_1 ≤ 999
   rotate_left
   ·rw [if_neg c7] at H
    have c7b0 : decide (x12_1 ≤ 999) = false := dF_q c7
    clear c7
    obtain rfl := oI_q H
    go_wp2
    go_ret
    exact ⟨m4_q, m3_q⟩
   rw [if_pos c7] at H
   have c7b0 : decide (x12_1 ≤ 999) = true := dT_q c7
   clear c7
   replace H := oB_q.mp H
   obtain ⟨t353, A80, H⟩ := H
   replace H : (if t353 = true then (if 0 ≤ (wrap64 ((l2.length : Int) + 1)) then (if (wrap64 ((l2.length : Int) + 1)) ≤ (l0.length : Int) then ((slices_Clone_int_int.f l2).bind fun t358 => ((some (([x12_1] : List Int) : List Int)).bind fun y361 => (if t358.length + y361.length < 17592186044416 then ((impl_planFits.f k1 (l0.take ((wrap64 ((l2.length : Int) + 1)) : Int).toNat) a1_0 l1_1 (t358 ++ y361)).bind fun t367 => (if t367 = true then (some x12_1) else (impl_place.l0 k1 l0 l2 (l2.length : Int) (wrap64 (x12_1 + 1)) a1_0 l1_1))) else (none)))) else (none)) else (none)) else (impl_place.l0 k1 l0 l2 (l2.length : Int) (wrap64 (x12_1 + 1)) a1_0 l1_1)) = some r := H
   have A8 := Ae_q A80
   clear A80
   by_cases c9 : t353 = true
   rotate_left
   ·replace c9 := fM_q.mpr c9
    subst c9
    have H1 : (impl_place.l0 k1 l0 l2 (l2.length : Int) (wrap64 (x12_1 + 1)) a1_0 l1_1) = some r := by rw [if_neg (show ¬ (false = true) by decide)] at H; exact H
    clear H
    have H := H1
    clear H1
    have H' := Ae_q H
    clear H
    try go_wp2
    replace BK352 := Ae_q (bW_q BK352.out)
    replace HB := Ae_q (bD_q HB.out)
    refine start_ (n := 16) (S := fun w' => True) (ds := []) #[false, false, false, false, false, false, false, false, false, false, false, false, false, false, false, false] m7_q rfl rfl trivial (fun hHeld => ?_); refine with_tabW impl_place.tab5 impl_place.bits5 (fun HT_ HW_ => ?_)
    generalize wr.drew = w39 at BK352 HB hHeld ⊢
    refine pJ HT_ 0 20 rfl rfl ?_
    refine pJ HT_ 1 21 rfl rfl ?_
    refine one_ (i := 2) (N := some 22) #[true, true, true, false, false, false, false, false, false, false, false, false, false, false, false, false] rfl rfl (one_of HT_.out m7_q) (by decide) (fun K hK => ?_)
    refine goesV_ (caps := #[]) (all_ := #[.int .i64 x12_1]) Try.func51 m7_q rfl #[.int .i64 x12_1] (by rfl) rfl rfl rfl m1_q rfl ?_
    with_reducible refine (impl_PlanMake_1.calls x12_1 false _ A8.out).mono ?_
    rintro e w' ⟨rfl, hb⟩
    refine ⟨_, rfl, ?_⟩
    replace BK352 := Ae_q (bB_q (g := gb352) (o := .cells #[.int .i64 a1_0, .slice A1_1 l1_1.length c1_1] 43 (0, 0)) (bup BK352.out) hb)
    replace HB := Ae_q (bT_q m3_q hb)
    (try clear hb)
    (try clear hb2)
    (try clear hk)
    (try clear hi)
    refine hK.out _ _ trivial (fun hHeld => ?_)
    clear hK K
    refine nJ_q ?_
    refine pJ HT_ 3 23 rfl rfl ?_
    refine pV HT_ 4 24 rfl rfl ?_
    refine pV HT_ 5 25 rfl rfl ?_
    refine pV HT_ 6 26 rfl rfl ?_
    refine pV HT_ 7 27 rfl rfl ?_
    refine pV HT_ 8 28 rfl rfl ?_
    refine pV HT_ 9 29 rfl rfl ?_
    refine pV HT_ 10 30 rfl rfl ?_
    refine pV HT_ 11 31 rfl rfl ?_
    refine pV HT_ 12 32 rfl rfl ?_
    refine pV HT_ 13 33 rfl rfl ?_
    refine pV HT_ 14 34 rfl rfl ?_
    refine pJ HT_ 15 35 rfl rfl ?_
    refine done_ (done_of HT_.out m7_q) ?_
    try go_wp2
    go_roundg k1
    case measure => have := HK1.out; omega
    case rel => exact ⟨(wrap64 (x12_1 + 1)), m5_q, H', ⟨m74_q⟩, ⟨bup BK352.out⟩, ⟨m3_q⟩⟩
   subst c9
   have H1 : (if 0 ≤ (wrap64 ((l2.length : Int) + 1)) then (if (wrap64 ((l2.length : Int) + 1)) ≤ (l0.length : Int) then ((slices_Clone_int_int.f l2).bind fun t358 => ((some (([x12_1] : List Int) : List Int)).bind fun y361 => (if t358.length + y361.length < 17592186044416 then ((impl_planFits.f k1 (l0.take ((wrap64 ((l2.length : Int) + 1)) : Int).toNat) a1_0 l1_1 (t358 ++ y361)).bind fun t367 => (if t367 = true then (some x12_1) else (impl_place.l0 k1 l0 l2 (l2.length : Int) (wrap64 (x12_1 + 1)) a1_0 l1_1))) else (none)))) else (none)) else (none)) = some r := by rw [if_pos rfl] at H; exact H
   clear H
   have H := H1
   clear H1
   obtain ⟨ji10, hji10⟩ : ∃ j_ : Int, (wrap64 ((l2.length : Int) + 1)) = j_ := ⟨_, rfl⟩
   replace H : (if 0 ≤ (ji10) then (if (ji10) ≤ (l0.length : Int) then ((slices_Clone_int_int.f l2).bind fun t358 => ((some (([x12_1] : List Int) : List Int)).bind fun y361 => (if t358.length + y361.length < 17592186044416 then ((impl_planFits.f k1 (l0.take ((ji10) : Int).toNat) a1_0 l1_1 (t358 ++ y361)).bind fun t367 => (if t367 = true then (some x12_1) else (impl_place.l0 k1 l0 l2 (l2.length : Int) (wrap64 (x12_1 + 1)) a1_0 l1_1))) else (none)))) else (none)) else (none)) = some r := by first | (rw [hji10] at H; exact H) | (simp only [hji10] at H ⊢; exact H)
   (try rw [hji10] at A8)
   have hji10w : (IntKind.i64.wrap ((l2.length : Int) + 1)) = ji10 := (i64_w _).trans hji10
   by_cases c11 : 0 ≤ (ji10)
   rotate_left
   ·rw [if_neg c11] at H
    exact absurd H (by simp)
   rw [if_pos c11] at H
   have c11b0 := eq_true c11
   have c11b1 : decide (0 ≤ (ji10)) = true := dT_q c11
   clear c11
   by_cases c12 : (ji10) ≤ (l0.length : Int)
   rotate_left
   ·rw [if_neg c12] at H
    exact absurd H (by simp)
   rw [if_pos c12] at H
   have c12b0 := eq_true c12
   have c12b1 : decide ((ji10) ≤ (l0.length : Int)) = true := dT_q c12
   clear c12
   obtain ⟨y354, hy354⟩ : ∃ y_ : List (S63), y_ = (l0.take ((ji10) : Int).toNat) := ⟨_, rfl⟩
   replace H : ((slices_Clone_int_int.f l2).bind fun t358 => ((some (([x12_1] : List Int) : List Int)).bind fun y361 => (if t358.length + y361.length < 17592186044416 then ((impl_planFits.f k1 y354 a1_0 l1_1 (t358 ++ y361)).bind fun t367 => (if t367 = true then (some x12_1) else (impl_place.l0 k1 l0 l2 (l2.length : Int) (wrap64 (x12_1 + 1)) a1_0 l1_1))) else (none)))) = some r := by first | (rw [hy354]; with_reducible exact H) | (have H2_ := (oS_q _ _).symm.trans H; rw [hy354]; with_reducible exact H2_) | (have H2_ := (oS_q _ _).symm.trans H; with_reducible exact H2_) | with_reducible exact H | (rw [hy354]; exact H) | exact H
   have Ny354 := Ae_q hy354
   clear hy354
   replace H := oB_q.mp H
   obtain ⟨t358, A130, H⟩ := H
   replace H : ((some (([x12_1] : List Int) : List Int)).bind fun y361 => (if t358.length + y361.length < 17592186044416 then ((impl_planFits.f k1 y354 a1_0 l1_1 (t358 ++ y361)).bind fun t367 => (if t367 = true then (some x12_1) else (impl_place.l0 k1 l0 l2 (l2.length : Int) (wrap64 (x12_1 + 1)) a1_0 l1_1))) else (none))) = some r := H
   have A13 := Ae_q A130
   clear A130
   obtain ⟨y361, hy361⟩ : ∃ y_ : List Int, y_ = (([x12_1] : List Int)) := ⟨_, rfl⟩
   replace H : (if t358.length + y361.length < 17592186044416 then ((impl_planFits.f k1 y354 a1_0 l1_1 (t358 ++ y361)).bind fun t367 => (if t367 = true then (some x12_1) else (impl_place.l0 k1 l0 l2 (l2.length : Int) (wrap64 (x12_1 + 1)) a1_0 l1_1))) else (none)) = some r := by first | (rw [hy361]; with_reducible exact H) | (have H2_ := (oS_q _ _).symm.trans H; rw [hy361]; with_reducible exact H2_) | (have H2_ := (oS_q _ _).symm.trans H; with_reducible exact H2_) | with_reducible exact H | (rw [hy361]; exact H) | exact H
   have Ny361 := Ae_q hy361
   clear hy361
   by_cases c14 : t358.length + y361.length < 17592186044416
   rotate_left
   ·rw [if_neg c14] at H
    exact absurd H (by simp)
   rw [if_pos c14] at H
   have LMc14 := Ae_q c14
   clear c14
   obtain ⟨y364, hy364⟩ : ∃ y_ : List Int, y_ = (t358 ++ y361) := ⟨_, rfl⟩
   replace H : ((impl_planFits.f k1 y354 a1_0 l1_1 y364).bind fun t367 => (if t367 = true then (some x12_1) else (impl_place.l0 k1 l0 l2 (l2.length : Int) (wrap64 (x12_1 + 1)) a1_0 l1_1))) = some r := by first | (rw [hy364]; with_reducible exact H) | (have H2_ := (oS_q _ _).symm.trans H; rw [hy364]; with_reducible exact H2_) | (have H2_ := (oS_q _ _).symm.trans H; with_reducible exact H2_) | with_reducible exact H | (rw [hy364]; exact H) | exact H
   have Ny364 := Ae_q hy364
   clear hy364
   replace H := oB_q.mp H
   obtain ⟨t367, A150, H⟩ := H
   replace H : (if t367 = true then (some x12_1) else (impl_place.l0 k1 l0 l2 (l2.length : Int) (wrap64 (x12_1 + 1)) a1_0 l1_1)) = some r := H
   have A15 := Ae_q A150
   clear A150
   by_cases c16 : t367 = true
   ·subst c16
    have H1 : (some x12_1) = some r := by rw [if_pos rfl] at H; exact H
    clear H
    have H := H1
    clear H1
    obtain rfl := oI_q H
    try go_wp2
    replace BK352 := Ae_q (bW_q BK352.out)
    replace HB := Ae_q (bD_q HB.out)
    refine start_ (n := 16) (S := fun w' => w'.cell? ⟨gb352, 0, none⟩ = some (.int .i64 a1_0) ∧ w'.cell? ⟨gb352, 1, none⟩ = some (.slice A1_1 l1_1.length c1_1)) (ds := []) #[false, false, false, false, false, false, false, false, false, false, false, false, false, false, false, false] m7_q rfl rfl ⟨(bC_q BK352.out 0).trans rfl, (bC_q BK352.out 1).trans rfl⟩ (fun hHeld => ?_); refine with_tabW impl_place.tab5 impl_place.bits5 (fun HT_ HW_ => ?_)
    generalize wr.drew = w17 at BK352 HB hHeld ⊢
    refine pJ HT_ 0 20 rfl rfl ?_
    refine pJ HT_ 1 21 rfl rfl ?_
    refine one_ (i := 2) (N := some 22) #[true, true, true, false, false, false, false, false, false, false, false, false, false, false, false, false] rfl rfl (one_of HT_.out m7_q) (by decide) (fun K hK => ?_)
    refine goesV_ (caps := #[]) (all_ := #[.int .i64 x12_1]) Try.func51 m7_q rfl #[.int .i64 x12_1] (by rfl) rfl rfl rfl m1_q rfl ?_
    with_reducible refine (impl_PlanMake_1.calls x12_1 true _ A8.out).mono ?_
    rintro e w' ⟨rfl, hb⟩
    refine ⟨_, rfl, ?_⟩
    replace BK352 := Ae_q (bB_q (g := gb352) (o := .cells #[.int .i64 a1_0, .slice A1_1 l1_1.length c1_1] 43 (0, 0)) (bup BK352.out) hb)
    replace HB := Ae_q (bT_q m3_q hb)
    (try clear hb)
    (try clear hb2)
    (try clear hk)
    (try clear hi)
    have q19 : ((ji10) : Int) ≤ ((l0.length : Int) : Int) := oD_q (by assumption)
    obtain ⟨i019, hi019, _, hsz19, _⟩ := info_parts info63
    have hroom19 : l0.length ≤ c0 := HC0.out
    have hC19 : Kd.C k63 _ A0 l0.length l0 := HR0.out
    have hcut19 := cut_to (P := Try.prog) 28 63 .i64 Try.underlying28 hi019 A0 l0.length c0 (ji10) (oD_q (by assumption)) q19 hroom19
    have hr19 := Kd.C_take (m := ((ji10) : Int).toNat) hC19 (by omega)
    have hy19 : y354.length = ((ji10) : Int).toNat := (by rw [Ny354.out, lT_q]; omega)
    rw [← Ny354.out] at hr19
    rw [← hy19] at hcut19
    have HR357 := Ae_q hr19
    have HC357 := Ae_q (show y354.length ≤ c0 from by omega)
    clear hr19 hC19 hroom19 hi019 hsz19
    have KY19 := Ae_q hy19
    clear hy19
    replace q19 := eq_true q19
    refine hK.out _ _ ⟨(bC_q BK352.out 0).trans rfl, (bC_q BK352.out 1).trans rfl⟩ (fun hHeld => ?_)
    clear hK K
    refine nJ_q ?_
    refine pJ HT_ 3 23 rfl rfl ?_
    refine pJ HT_ 4 24 rfl rfl ?_
    refine pJ HT_ 5 25 rfl rfl ?_
    refine pJ HT_ 6 26 rfl rfl ?_
    refine pJ HT_ 7 27 rfl rfl ?_
    refine pJ HT_ 9 29 rfl rfl ?_
    refine pJ HT_ 11 31 rfl rfl ?_
    refine take_ (i := 8) (N := some 28) (v := ?_) (a' := ?_) #[true, true, true, true, true, true, true, true, true, true, false, true, false, false, false, false] rfl rfl (take_ofW HT_.out HW_.out m7_q) (fun _ _ _ h => h) (Or.inl ⟨by rfl, ?_⟩) hHeld ?_ ?_
    rotate_left
    ·rintro w' ⟨s0, s1⟩
     go_simp
     with_reducible rfl
    rotate_left
    ·simp only [pS_q]
     rfl
    refine join_ (σ := Value × Value) 3 #[true, true, true, true, true, true, true, true, true, true, true, true, true, false, false, false] (fun s_ => [(30, s_.1), (32, s_.2)]) (fun s_ w' => (w'.cell? ⟨gb352, 0, none⟩ = some (.int .i64 a1_0) ∧ w'.cell? ⟨gb352, 1, none⟩ = some (.slice A1_1 l1_1.length c1_1)) ∧ (Kd.R kI_q 3 w' w.heap.size (fun k_ => some k_ ≠ (s_.2 : Value).ownBlock) s_.1 t358) ∧ (Kd.R kI_q 3 w' w.heap.size (fun k_ => some k_ ≠ (s_.1 : Value).ownBlock) s_.2 y361) ∧ (w'.heap[gb352]? = some (.cells #[.int .i64 a1_0, .slice A1_1 l1_1.length c1_1] 43 (0, 0))) ∧ (Below w.heap.size w w')) ?_ ?_
    rotate_left
    ·intro hCont
     refine two_ (i := 10) (j := 12) (Ni := some 30) (Nj := some 32) #[true, true, true, true, true, true, true, true, true, true, true, true, false, false, false, false] #[true, true, true, true, true, true, true, true, true, true, false, true, true, false, false, false] rfl rfl rfl rfl (two_of HT_.out m7_q) (by decide) (by decide) (fun K hK => ?_) (fun K hK => ?_)
     ·skip
      refine goes_ Try.func66 m7_q rfl #[.slice A2 l2.length c2] (by rfl) rfl rfl m1_q ?_
      with_reducible refine (slices_Clone_int_int.calls _ _ l2 t358 _ ?side1 ?side2 A13.out).mono ?_
      (case side1 => exact m28_q)
      (case side2 => exact m63_q)
      rintro e w20 ⟨v359, rfl, ho0, hb⟩
      refine ⟨_, rfl, ?_⟩
      have HO360 := Ae_q (rL_q ho0 (bZ_q m3_q))
      replace BK352 := Ae_q (bB_q (g := gb352) (o := .cells #[.int .i64 a1_0, .slice A1_1 l1_1.length c1_1] 43 (0, 0)) (bup BK352.out) hb)
      replace HB := Ae_q (bT_q m3_q hb)
      (try clear hb)
      (try clear hb2)
      (try clear hk)
      (try clear hi)
      (try clear ho0)
      refine hK.out _ _ ⟨(bC_q BK352.out 0).trans rfl, (bC_q BK352.out 1).trans rfl⟩ (fun hHeld => ?_)
      clear hK K
      refine nJ_q ?_
      refine one_ (i := 12) (N := some 32) #[true, true, true, true, true, true, true, true, true, true, true, true, true, false, false, false] rfl rfl (one_of HT_.out m7_q) (by decide) (fun K hK => ?_)
      refine rI_q kI_q _ 3 ?hg (N := 32) ?hd (xs := ([x12_1] : List Int)) (inner := [.int .i64 x12_1]) (ok := fun _ => True) (okp := fun _ => True) ?hr ?hp (fun _ hk => hk) trivial (bR_q _ _) (nR_q _) (by simp) ?_; (case hd => rfl); (case hg => rfl); (case hr => exact m6_q); (case hp => exact m51_q)
      intro v362 w21 ho22 hb hg_ hnew_
      clear hg_ hnew_
      (first | rw [← Ny361.out] at ho22 | (simp only [Int.reduceToNat] at ho22; rw [← Ny361.out] at ho22))
      have HO363 := Ae_q (rL_q (rW_q ho22 (rT_q (rup HO360.out))) (bZ_q m3_q))
      replace HO360 := Ae_q (rE_q (rup HO360.out) (rB_q ho22) hb)
      replace BK352 := Ae_q (bB_q (g := gb352) (o := .cells #[.int .i64 a1_0, .slice A1_1 l1_1.length c1_1] 43 (0, 0)) (bup BK352.out) hb)
      replace HB := Ae_q (bT_q m3_q hb)
      clear hb ho22
      refine hK.out _ _ ⟨(bC_q BK352.out 0).trans rfl, (bC_q BK352.out 1).trans rfl⟩ (fun hHeld => ?_)
      clear hK K
      refine nJ_q ?_
      exact norm_ m47_q (hCont (v359, v362) _ ⟨hHeld, m39_q, m40_q, (bup BK352.out), m3_q⟩)
     skip
     refine rI_q kI_q _ 3 ?hg (N := 32) ?hd (xs := ([x12_1] : List Int)) (inner := [.int .i64 x12_1]) (ok := fun _ => True) (okp := fun _ => True) ?hr ?hp (fun _ hk => hk) trivial (bR_q _ _) (nR_q _) (by simp) ?_; (case hd => rfl); (case hg => rfl); (case hr => exact m6_q); (case hp => exact m51_q)
     intro v362 w20 ho21 hb hg_ hnew_
     clear hg_ hnew_
     (first | rw [← Ny361.out] at ho21 | (simp only [Int.reduceToNat] at ho21; rw [← Ny361.out] at ho21))
     have HO363 := Ae_q (rL_q ho21 (bZ_q m3_q))
     replace BK352 := Ae_q (bB_q (g := gb352) (o := .cells #[.int .i64 a1_0, .slice A1_1 l1_1.length c1_1] 43 (0, 0)) (bup BK352.out) hb)
     replace HB := Ae_q (bT_q m3_q hb)
     clear hb ho21
     refine hK.out _ _ ⟨(bC_q BK352.out 0).trans rfl, (bC_q BK352.out 1).trans rfl⟩ (fun hHeld => ?_)
     clear hK K
     refine nJ_q ?_
     refine one_ (i := 10) (N := some 30) #[true, true, true, true, true, true, true, true, true, true, true, true, true, false, false, false] rfl rfl (one_of HT_.out m7_q) (by decide) (fun K hK => ?_)
     refine goes_ Try.func66 m7_q rfl #[.slice A2 l2.length c2] (by rfl) rfl rfl m1_q ?_
     with_reducible refine (slices_Clone_int_int.calls _ _ l2 t358 _ ?side1 ?side2 A13.out).mono ?_
     (case side1 => exact m28_q)
     (case side2 => exact m63_q)
     rintro e w' ⟨v359, rfl, ho0, hb⟩
     refine ⟨_, rfl, ?_⟩
     have HO360 := Ae_q (rL_q (rW_q ho0 (rT_q (rup HO363.out))) (bZ_q m3_q))
     replace HO363 := Ae_q (rE_q (rup HO363.out) (rB_q ho0) hb)
     replace BK352 := Ae_q (bB_q (g := gb352) (o := .cells #[.int .i64 a1_0, .slice A1_1 l1_1.length c1_1] 43 (0, 0)) (bup BK352.out) hb)
     replace HB := Ae_q (bT_q m3_q hb)
     (try clear hb)
     (try clear hb2)
     (try clear hk)
     (try clear hi)
     (try clear ho0)
     refine hK.out _ _ ⟨(bC_q BK352.out 0).trans rfl, (bC_q BK352.out 1).trans rfl⟩ (fun hHeld => ?_)
     clear hK K
     refine nJ_q ?_
     exact norm_ m47_q (hCont (v359, v362) _ ⟨hHeld, m39_q, m40_q, (bup BK352.out), m3_q⟩)
    rintro ⟨v359, v362⟩ w23 ⟨hS_, h0_, h1_, h2_, h3_⟩
    have n0_ : Aside0 (Kd.R kI_q 3 w23 w.heap.size (fun k_ => some k_ ≠ (v362 : Value).ownBlock) v359 t358) := ⟨h0_⟩
    have n1_ : Aside0 (Kd.R kI_q 3 w23 w.heap.size (fun k_ => some k_ ≠ (v359 : Value).ownBlock) v362 y361) := ⟨h1_⟩
    have n2_ : Aside0 (w23.heap[gb352]? = some (.cells #[.int .i64 a1_0, .slice A1_1 l1_1.length c1_1] 43 (0, 0))) := ⟨h2_⟩
    have n3_ : Aside0 (Below w.heap.size w w23) := ⟨h3_⟩
    clear BK352
    clear HB
    clear h0_ h1_ h2_ h3_
    have HO360 := n0_
    have HO363 := n1_
    have BK352 := n2_
    have HB := n3_
    clear n0_ n1_ n2_ n3_
    have hHeld : w23.cell? ⟨gb352, 0, none⟩ = some (.int .i64 a1_0) ∧ w23.cell? ⟨gb352, 1, none⟩ = some (.slice A1_1 l1_1.length c1_1) := hS_
    obtain ⟨Ao25, co25, eo25⟩ := rS_q HO363.out
    (first | subst eo25 | (injection eo25 with f1_ f2_ f3_; have f4_ := f1_.symm; have f5_ := f3_.symm; clear f1_ f2_ f3_; subst f4_; subst f5_))
    refine norm_ (a' := ?_) ?_ ?_
    rotate_left
    ·simp only [putAll, Act.put, sA_q, sZ_q, sS_q]
     rfl
    refine one_ (i := 13) (N := some 33) #[true, true, true, true, true, true, true, true, true, true, true, true, true, true, false, false] rfl rfl (one_of HT_.out m7_q) (by decide) (fun K hK => ?_)
    refine rP_q kI_q (w0 := w) w.heap.size (by rfl) (.tmp 30) (.tmp 32) 23 3 (.int .i64 0) 8 rfl Try.underlying23 info3 rfl (by decide) (by omega) v359 t358 y361 _ _ _ (fun k_ => some k_ ≠ (.slice Ao25 y361.length co25 : Value).ownBlock) (fun _ => False) rfl rfl ?aO ?aR (fun _ _ h => h) (fun _ h => h.elim) ?aF ?aB ?aS ?aL ?_
    (case aR => exact m126_q)
    (case aB => exact m3_q)
    (case aF => exact m105_q)
    (case aO => exact (rup HO360.out))
    (case aS => exact (bZ_q m3_q))
    (case aL => have := LMc14.out; omega)
    intro v365 w24 ho hb hg hat
    rw [← Ny364.out] at ho
    replace BK352 := Ae_q (bG_q (g := gb352) (o := .cells #[.int .i64 a1_0, .slice A1_1 l1_1.length c1_1] 43 (0, 0)) (bup BK352.out) hg (Kd.R_ne HO360.out BK352.out (by decide)))
    replace HO363 := Ae_q (rF_q (ok := (fun _ => True)) m61_q hg hat)
    replace HB := Ae_q (hb)
    have HO366 := Ae_q (ho)
    clear HO360
    clear ho hb hg hat
    obtain ⟨Ao26, co26, eo26⟩ := rS_q HO366.out
    (first | subst eo26 | (injection eo26 with f1_ f2_ f3_; have f4_ := f1_.symm; have f5_ := f3_.symm; clear f1_ f2_ f3_; subst f4_; subst f5_))
    refine hK.out _ _ ⟨(bC_q BK352.out 0).trans rfl, (bC_q BK352.out 1).trans rfl⟩ (fun hHeld => ?_)
    clear hK K
    refine nJ_q ?_
    refine one_ (i := 14) (N := some 34) #[true, true, true, true, true, true, true, true, true, true, true, true, true, true, true, false] rfl rfl (one_of HT_.out m7_q) (by decide) (fun K hK => ?_)
    refine goes_ Try.func57 m7_q rfl #[.slice A0 y354.length c0, .agg #[.int .i64 a1_0, .slice A1_1 l1_1.length c1_1], .slice Ao26 y364.length co26] (by rfl) rfl rfl m1_q ?_
    with_reducible refine (impl_planFits.calls k1 _ _ y354 a1_0 _ _ l1_1 _ _ y364 true _ ?side1 ?side2 ?side3 ?side4 ?side5 ?side6 A15.out).mono ?_
    (case side1 => exact m121_q)
    (case side2 => exact HC357.out)
    (case side3 => exact m32_q)
    (case side4 => exact m64_q)
    (case side5 => exact m127_q)
    (case side6 => exact (rR_q HO366.out).2.1)
    rintro e w' ⟨rfl, hb⟩
    refine ⟨_, rfl, ?_⟩
    replace HO363 := Ae_q (rO_q (rup HO363.out) hb)
    replace HO366 := Ae_q (rO_q (rup HO366.out) hb)
    replace BK352 := Ae_q (bB_q (g := gb352) (o := .cells #[.int .i64 a1_0, .slice A1_1 l1_1.length c1_1] 43 (0, 0)) (bup BK352.out) hb)
    replace HB := Ae_q (bT_q m3_q hb)
    (try clear hb)
    (try clear hb2)
    (try clear hk)
    (try clear hi)
    refine hK.out _ _ ⟨(bC_q BK352.out 0).trans rfl, (bC_q BK352.out 1).trans rfl⟩ (fun hHeld => ?_)
    clear hK K
    refine nJ_q ?_
    refine pJ HT_ 15 35 rfl rfl ?_
    refine done_ (done_of HT_.out m7_q) ?_
    try go_wp2
    go_ret
    exact ⟨m91_q, m3_q⟩
   replace c16 := fM_q.mpr c16
   subst c16
   have H1 : (impl_place.l0 k1 l0 l2 (l2.length : Int) (wrap64 (x12_1 + 1)) a1_0 l1_1) = some r := by rw [if_neg (show ¬ (false = true) by decide)] at H; exact H
   clear H
   have H := H1
   clear H1
   have H' := Ae_q H
   clear H
   try go_wp2
   replace BK352 := Ae_q (bW_q BK352.out)
   replace HB := Ae_q (bD_q HB.out)
   refine start_ (n := 16) (S := fun w' => w'.cell? ⟨gb352, 0, none⟩ = some (.int .i64 a1_0) ∧ w'.cell? ⟨gb352, 1, none⟩ = some (.slice A1_1 l1_1.length c1_1)) (ds := []) #[false, false, false, false, false, false, false, false, false, false, false, false, false, false, false, false] m7_q rfl rfl ⟨(bC_q BK352.out 0).trans rfl, (bC_q BK352.out 1).trans rfl⟩ (fun hHeld => ?_); refine with_tabW impl_place.tab5 impl_place.bits5 (fun HT_ HW_ => ?_)
   generalize wr.drew = w28 at BK352 HB hHeld ⊢
   refine pJ HT_ 0 20 rfl rfl ?_
   refine pJ HT_ 1 21 rfl rfl ?_
   refine one_ (i := 2) (N := some 22) #[true, true, true, false, false, false, false, false, false, false, false, false, false, false, false, false] rfl rfl (one_of HT_.out m7_q) (by decide) (fun K hK => ?_)
   refine goesV_ (caps := #[]) (all_ := #[.int .i64 x12_1]) Try.func51 m7_q rfl #[.int .i64 x12_1] (by rfl) rfl rfl rfl m1_q rfl ?_
   with_reducible refine (impl_PlanMake_1.calls x12_1 true _ A8.out).mono ?_
   rintro e w' ⟨rfl, hb⟩
   refine ⟨_, rfl, ?_⟩
   replace BK352 := Ae_q (bB_q (g := gb352) (o := .cells #[.int .i64 a1_0, .slice A1_1 l1_1.length c1_1] 43 (0, 0)) (bup BK352.out) hb)
   replace HB := Ae_q (bT_q m3_q hb)
   (try clear hb)
   (try clear hb2)
   (try clear hk)
   (try clear hi)
   have q30 : ((ji10) : Int) ≤ ((l0.length : Int) : Int) := oD_q (by assumption)
   obtain ⟨i030, hi030, _, hsz30, _⟩ := info_parts info63
   have hroom30 : l0.length ≤ c0 := HC0.out
   have hC30 : Kd.C k63 _ A0 l0.length l0 := HR0.out
   have hcut30 := cut_to (P := Try.prog) 28 63 .i64 Try.underlying28 hi030 A0 l0.length c0 (ji10) (oD_q (by assumption)) q30 hroom30
   have hr30 := Kd.C_take (m := ((ji10) : Int).toNat) hC30 (by omega)
   have hy30 : y354.length = ((ji10) : Int).toNat := (by rw [Ny354.out, lT_q]; omega)
   rw [← Ny354.out] at hr30
   rw [← hy30] at hcut30
   have HR357 := Ae_q hr30
   have HC357 := Ae_q (show y354.length ≤ c0 from by omega)
   clear hr30 hC30 hroom30 hi030 hsz30
   have KY30 := Ae_q hy30
   clear hy30
   replace q30 := eq_true q30
   refine hK.out _ _ ⟨(bC_q BK352.out 0).trans rfl, (bC_q BK352.out 1).trans rfl⟩ (fun hHeld => ?_)
   clear hK K
   refine nJ_q ?_
   refine pJ HT_ 3 23 rfl rfl ?_
   refine pJ HT_ 4 24 rfl rfl ?_
   refine pJ HT_ 5 25 rfl rfl ?_
   refine pJ HT_ 6 26 rfl rfl ?_
   refine pJ HT_ 7 27 rfl rfl ?_
   refine pJ HT_ 9 29 rfl rfl ?_
   refine pJ HT_ 11 31 rfl rfl ?_
   refine take_ (i := 8) (N := some 28) (v := ?_) (a' := ?_) #[true, true, true, true, true, true, true, true, true, true, false, true, false, false, false, false] rfl rfl (take_ofW HT_.out HW_.out m7_q) (fun _ _ _ h => h) (Or.inl ⟨by rfl, ?_⟩) hHeld ?_ ?_
   rotate_left
   ·rintro w' ⟨s0, s1⟩
    go_simp
    with_reducible rfl
   rotate_left
   ·simp only [pS_q]
    rfl
   refine join_ (σ := Value × Value) 3 #[true, true, true, true, true, true, true, true, true, true, true, true, true, false, false, false] (fun s_ => [(30, s_.1), (32, s_.2)]) (fun s_ w' => (w'.cell? ⟨gb352, 0, none⟩ = some (.int .i64 a1_0) ∧ w'.cell? ⟨gb352, 1, none⟩ = some (.slice A1_1 l1_1.length c1_1)) ∧ (Kd.R kI_q 3 w' w.heap.size (fun k_ => some k_ ≠ (s_.2 : Value).ownBlock) s_.1 t358) ∧ (Kd.R kI_q 3 w' w.heap.size (fun k_ => some k_ ≠ (s_.1 : Value).ownBlock) s_.2 y361) ∧ (w'.heap[gb352]? = some (.cells #[.int .i64 a1_0, .slice A1_1 l1_1.length c1_1] 43 (0, 0))) ∧ (Below w.heap.size w w')) ?_ ?_
   rotate_left
   ·intro hCont
    refine two_ (i := 10) (j := 12) (Ni := some 30) (Nj := some 32) #[true, true, true, true, true, true, true, true, true, true, true, true, false, false, false, false] #[true, true, true, true, true, true, true, true, true, true, false, true, true, false, false, false] rfl rfl rfl rfl (two_of HT_.out m7_q) (by decide) (by decide) (fun K hK => ?_) (fun K hK => ?_)
    ·skip
     refine goes_ Try.func66 m7_q rfl #[.slice A2 l2.length c2] (by rfl) rfl rfl m1_q ?_
     with_reducible refine (slices_Clone_int_int.calls _ _ l2 t358 _ ?side1 ?side2 A13.out).mono ?_
     (case side1 => exact m28_q)
     (case side2 => exact m63_q)
     rintro e w31 ⟨v359, rfl, ho0, hb⟩
     refine ⟨_, rfl, ?_⟩
     have HO360 := Ae_q (rL_q ho0 (bZ_q m3_q))
     replace BK352 := Ae_q (bB_q (g := gb352) (o := .cells #[.int .i64 a1_0, .slice A1_1 l1_1.length c1_1] 43 (0, 0)) (bup BK352.out) hb)
     replace HB := Ae_q (bT_q m3_q hb)
     (try clear hb)
     (try clear hb2)
     (try clear hk)
     (try clear hi)
     (try clear ho0)
     refine hK.out _ _ ⟨(bC_q BK352.out 0).trans rfl, (bC_q BK352.out 1).trans rfl⟩ (fun hHeld => ?_)
     clear hK K
     refine nJ_q ?_
     refine one_ (i := 12) (N := some 32) #[true, true, true, true, true, true, true, true, true, true, true, true, true, false, false, false] rfl rfl (one_of HT_.out m7_q) (by decide) (fun K hK => ?_)
     refine rI_q kI_q _ 3 ?hg (N := 32) ?hd (xs := ([x12_1] : List Int)) (inner := [.int .i64 x12_1]) (ok := fun _ => True) (okp := fun _ => True) ?hr ?hp (fun _ hk => hk) trivial (bR_q _ _) (nR_q _) (by simp) ?_; (case hd => rfl); (case hg => rfl); (case hr => exact m6_q); (case hp => exact m51_q)
     intro v362 w32 ho33 hb hg_ hnew_
     clear hg_ hnew_
     (first | rw [← Ny361.out] at ho33 | (simp only [Int.reduceToNat] at ho33; rw [← Ny361.out] at ho33))
     have HO363 := Ae_q (rL_q (rW_q ho33 (rT_q (rup HO360.out))) (bZ_q m3_q))
     replace HO360 := Ae_q (rE_q (rup HO360.out) (rB_q ho33) hb)
     replace BK352 := Ae_q (bB_q (g := gb352) (o := .cells #[.int .i64 a1_0, .slice A1_1 l1_1.length c1_1] 43 (0, 0)) (bup BK352.out) hb)
     replace HB := Ae_q (bT_q m3_q hb)
     clear hb ho33
     refine hK.out _ _ ⟨(bC_q BK352.out 0).trans rfl, (bC_q BK352.out 1).trans rfl⟩ (fun hHeld => ?_)
     clear hK K
     refine nJ_q ?_
     exact norm_ m47_q (hCont (v359, v362) _ ⟨hHeld, m39_q, m40_q, (bup BK352.out), m3_q⟩)
    skip
    refine rI_q kI_q _ 3 ?hg (N := 32) ?hd (xs := ([x12_1] : List Int)) (inner := [.int .i64 x12_1]) (ok := fun _ => True) (okp := fun _ => True) ?hr ?hp (fun _ hk => hk) trivial (bR_q _ _) (nR_q _) (by simp) ?_; (case hd => rfl); (case hg => rfl); (case hr => exact m6_q); (case hp => exact m51_q)
    intro v362 w31 ho32 hb hg_ hnew_
    clear hg_ hnew_
    (first | rw [← Ny361.out] at ho32 | (simp only [Int.reduceToNat] at ho32; rw [← Ny361.out] at ho32))
    have HO363 := Ae_q (rL_q ho32 (bZ_q m3_q))
    replace BK352 := Ae_q (bB_q (g := gb352) (o := .cells #[.int .i64 a1_0, .slice A1_1 l1_1.length c1_1] 43 (0, 0)) (bup BK352.out) hb)
    replace HB := Ae_q (bT_q m3_q hb)
    clear hb ho32
    refine hK.out _ _ ⟨(bC_q BK352.out 0).trans rfl, (bC_q BK352.out 1).trans rfl⟩ (fun hHeld => ?_)
    clear hK K
    refine nJ_q ?_
    refine one_ (i := 10) (N := some 30) #[true, true, true, true, true, true, true, true, true, true, true, true, true, false, false, false] rfl rfl (one_of HT_.out m7_q) (by decide) (fun K hK => ?_)
    refine goes_ Try.func66 m7_q rfl #[.slice A2 l2.length c2] (by rfl) rfl rfl m1_q ?_
    with_reducible refine (slices_Clone_int_int.calls _ _ l2 t358 _ ?side1 ?side2 A13.out).mono ?_
    (case side1 => exact m28_q)
    (case side2 => exact m63_q)
    rintro e w' ⟨v359, rfl, ho0, hb⟩
    refine ⟨_, rfl, ?_⟩
    have HO360 := Ae_q (rL_q (rW_q ho0 (rT_q (rup HO363.out))) (bZ_q m3_q))
    replace HO363 := Ae_q (rE_q (rup HO363.out) (rB_q ho0) hb)
    replace BK352 := Ae_q (bB_q (g := gb352) (o := .cells #[.int .i64 a1_0, .slice A1_1 l1_1.length c1_1] 43 (0, 0)) (bup BK352.out) hb)
    replace HB := Ae_q (bT_q m3_q hb)
    (try clear hb)
    (try clear hb2)
    (try clear hk)
    (try clear hi)
    (try clear ho0)
    refine hK.out _ _ ⟨(bC_q BK352.out 0).trans rfl, (bC_q BK352.out 1).trans rfl⟩ (fun hHeld => ?_)
    clear hK K
    refine nJ_q ?_
    exact norm_ m47_q (hCont (v359, v362) _ ⟨hHeld, m39_q, m40_q, (bup BK352.out), m3_q⟩)
   rintro ⟨v359, v362⟩ w34 ⟨hS_, h0_, h1_, h2_, h3_⟩
   have n0_ : Aside0 (Kd.R kI_q 3 w34 w.heap.size (fun k_ => some k_ ≠ (v362 : Value).ownBlock) v359 t358) := ⟨h0_⟩
   have n1_ : Aside0 (Kd.R kI_q 3 w34 w.heap.size (fun k_ => some k_ ≠ (v359 : Value).ownBlock) v362 y361) := ⟨h1_⟩
   have n2_ : Aside0 (w34.heap[gb352]? = some (.cells #[.int .i64 a1_0, .slice A1_1 l1_1.length c1_1] 43 (0, 0))) := ⟨h2_⟩
   have n3_ : Aside0 (Below w.heap.size w w34) := ⟨h3_⟩
   clear BK352
   clear HB
   clear h0_ h1_ h2_ h3_
   have HO360 := n0_
   have HO363 := n1_
   have BK352 := n2_
   have HB := n3_
   clear n0_ n1_ n2_ n3_
   have hHeld : w34.cell? ⟨gb352, 0, none⟩ = some (.int .i64 a1_0) ∧ w34.cell? ⟨gb352, 1, none⟩ = some (.slice A1_1 l1_1.length c1_1) := hS_
   obtain ⟨Ao36, co36, eo36⟩ := rS_q HO363.out
   (first | subst eo36 | (injection eo36 with f1_ f2_ f3_; have f4_ := f1_.symm; have f5_ := f3_.symm; clear f1_ f2_ f3_; subst f4_; subst f5_))
   refine norm_ (a' := ?_) ?_ ?_
   rotate_left
   ·simp only [putAll, Act.put, sA_q, sZ_q, sS_q]
    rfl
   refine one_ (i := 13) (N := some 33) #[true, true, true, true, true, true, true, true, true, true, true, true, true, true, false, false] rfl rfl (one_of HT_.out m7_q) (by decide) (fun K hK => ?_)
   refine rP_q kI_q (w0 := w) w.heap.size (by rfl) (.tmp 30) (.tmp 32) 23 3 (.int .i64 0) 8 rfl Try.underlying23 info3 rfl (by decide) (by omega) v359 t358 y361 _ _ _ (fun k_ => some k_ ≠ (.slice Ao36 y361.length co36 : Value).ownBlock) (fun _ => False) rfl rfl ?aO ?aR (fun _ _ h => h) (fun _ h => h.elim) ?aF ?aB ?aS ?aL ?_
   (case aR => exact m126_q)
   (case aB => exact m3_q)
   (case aF => exact m105_q)
   (case aO => exact (rup HO360.out))
   (case aS => exact (bZ_q m3_q))
   (case aL => have := LMc14.out; omega)
   intro v365 w35 ho hb hg hat
   rw [← Ny364.out] at ho
   replace BK352 := Ae_q (bG_q (g := gb352) (o := .cells #[.int .i64 a1_0, .slice A1_1 l1_1.length c1_1] 43 (0, 0)) (bup BK352.out) hg (Kd.R_ne HO360.out BK352.out (by decide)))
   replace HO363 := Ae_q (rF_q (ok := (fun _ => True)) m61_q hg hat)
   replace HB := Ae_q (hb)
   have HO366 := Ae_q (ho)
   clear HO360
   clear ho hb hg hat
   obtain ⟨Ao37, co37, eo37⟩ := rS_q HO366.out
   (first | subst eo37 | (injection eo37 with f1_ f2_ f3_; have f4_ := f1_.symm; have f5_ := f3_.symm; clear f1_ f2_ f3_; subst f4_; subst f5_))
   refine hK.out _ _ ⟨(bC_q BK352.out 0).trans rfl, (bC_q BK352.out 1).trans rfl⟩ (fun hHeld => ?_)
   clear hK K
   refine nJ_q ?_
   refine one_ (i := 14) (N := some 34) #[true, true, true, true, true, true, true, true, true, true, true, true, true, true, true, false] rfl rfl (one_of HT_.out m7_q) (by decide) (fun K hK => ?_)
   refine goes_ Try.func57 m7_q rfl #[.slice A0 y354.length c0, .agg #[.int .i64 a1_0, .slice A1_1 l1_1.length c1_1], .slice Ao37 y364.length co37] (by rfl) rfl rfl m1_q ?_
   with_reducible refine (impl_planFits.calls k1 _ _ y354 a1_0 _ _ l1_1 _ _ y364 false _ ?side1 ?side2 ?side3 ?side4 ?side5 ?side6 A15.out).mono ?_
   (case side1 => exact m121_q)
   (case side2 => exact HC357.out)
   (case side3 => exact m32_q)
   (case side4 => exact m64_q)
   (case side5 => exact m127_q)
   (case side6 => exact (rR_q HO366.out).2.1)
   rintro e w' ⟨rfl, hb⟩
   refine ⟨_, rfl, ?_⟩
   replace HO363 := Ae_q (rO_q (rup HO363.out) hb)
   replace HO366 := Ae_q (rO_q (rup HO366.out) hb)
   replace BK352 := Ae_q (bB_q (g := gb352) (o := .cells #[.int .i64 a1_0, .slice A1_1 l1_1.length c1_1] 43 (0, 0)) (bup BK352.out) hb)
   replace HB := Ae_q (bT_q m3_q hb)
   (try clear hb)
   (try clear hb2)
   (try clear hk)
   (try clear hi)
   refine hK.out _ _ ⟨(bC_q BK352.out 0).trans rfl, (bC_q BK352.out 1).trans rfl⟩ (fun hHeld => ?_)
   clear hK K
   refine nJ_q ?_
   refine pJ HT_ 15 35 rfl rfl ?_
   refine done_ (done_of HT_.out m7_q) ?_
   try go_wp2
   go_roundg k1
   case measure => have := HK1.out; omega
   case rel => exact ⟨(wrap64 (x12_1 + 1)), m5_q, H', ⟨m74_q⟩, ⟨bup BK352.out⟩, ⟨m3_q⟩⟩

def impl_placeO.l0 (may : Int → Option Bool) : Nat → List (S63) → List Int → Int → Int → Int → List Int → Option (Int)
 | 0, _, _, _, _, _, _ => none
 | k + 1, x0, x2, x11, x12, x353000, x353001 => if x12 ≤ 999 then ((may x12).bind fun t353 => (if t353 = true then (if 0 ≤ (wrap64 (x11 + 1)) then (if (wrap64 (x11 + 1)) ≤ (x0.length : Int) then ((slices_Clone_int_int.f x2).bind fun t358 => ((some (([x12] : List Int) : List Int)).bind fun y361 => (if t358.length + y361.length < 17592186044416 then ((impl_planFits.f k (x0.take ((wrap64 (x11 + 1)) : Int).toNat) x353000 x353001 (t358 ++ y361)).bind fun t367 => (if t367 = true then (some x12) else (impl_placeO.l0 may k x0 x2 x11 (wrap64 (x12 + 1)) x353000 x353001))) else (none)))) else (none)) else (none)) else (impl_placeO.l0 may k x0 x2 x11 (wrap64 (x12 + 1)) x353000 x353001))) else (some (-1))
def impl_placeO.f (may : Int → Option Bool) (k : Nat) (l0 : List (S63)) (a1_0 : Int) (l1_1 : List Int) (l2 : List Int) (a3 : Int) (a4 : Int) : Option (Int) := impl_placeO.l0 may k l0 l2 (l2.length : Int) a3 a1_0 l1_1
set_option maxHeartbeats 8000000 in
set_option maxRecDepth 100000 in
theorem impl_placeO.calls (may : Int → Option Bool) (Bo Bs : Nat) (k : Nat) (A0 : Option Addr) (c0 : Nat) (l0 : List (S63)) (a1_0 : Int) (A1_1 : Option Addr) (c1_1 : Nat) (l1_1 : List Int) (A2 : Option Addr) (c2 : Nat) (l2 : List Int) (a3 : Int) (a4 : Int) (r : Int) (w : World) (hr0 : Kd.C k63 w A0 l0.length l0) (hc0 : l0.length ≤ c0) (hr1_1 : Kd.C kI_q w A1_1 l1_1.length l1_1) (hc1_1 : l1_1.length ≤ c1_1) (hr2 : Kd.C kI_q w A2 l2.length l2) (hc2 : l2.length ≤ c2) (hmay : ∀ (W : World) (x : Int) (b : Bool), Below w.heap.size w W → may x = some b → Calls Try.prog 55 #[.int .i64 x, .pointer (some ⟨Bo, 0, none⟩), .pointer (some ⟨Bs, 0, none⟩)] W fun e w' => e = .returned (.bool b) ∧ Below W.heap.size W w') (h : impl_placeO.f may k l0 a1_0 l1_1 l2 a3 a4 = some r) :
    Calls Try.prog 50 #[.slice A0 l0.length c0, .agg #[.int .i64 a1_0, .slice A1_1 l1_1.length c1_1], .slice A2 l2.length c2, .int .i64 a3, .func (.func 55) #[] #[.pointer (some ⟨Bo, 0, none⟩), .pointer (some ⟨Bs, 0, none⟩)]] w fun e w' => e = .returned (.int .i64 r) ∧ Below w.heap.size w w' := by
 have HMAY := Ae_q hmay
 clear hmay
 have hu43 := Try.underlying43
 have HR0 := Ae_q hr0
 have HC0 := Ae_q hc0
 clear hr0 hc0
 have HR1_1 := Ae_q hr1_1
 have HC1_1 := Ae_q hc1_1
 clear hr1_1 hc1_1
 have HR2 := Ae_q hr2
 have HC2 := Ae_q hc2
 clear hr2 hc2
 have HB := Ae_q (bR_q w.heap.size w)
 have H : (impl_placeO.l0 may k l0 l2 (l2.length : Int) a3 a1_0 l1_1) = some r := h
 clear h
 have H' := Ae_q H
 clear H
 go_enter Try.func50, Try.ntmps50
 go_wp2_with (first | ((with_reducible refine gD_q (N := 6) rfl ?_); (try (refine gate_guard (by rfl) ?_; dsimp only)); refine bE_q ?hg (N := 6) ?hd (cs := #[.int .i64 a1_0, .slice A1_1 l1_1.length c1_1]) (t := 43) ?hr ?_; (case hd => rfl); (case hg => rfl); (case hr => exact m6_q); intro gb352 hg w' hbox hb; have BK352 := Ae_q (hbox); have GW352 := Ae_q ((by rw [hg]; exact (bZ_q (bel HB.out)) : w.heap.size ≤ gb352)); have GE352 := Ae_q ((by rw [hg]; exact (bZ_q (bel HB.out)) : w.heap.size ≤ gb352)); replace HB := Ae_q (bT_q (bel HB.out) hb); clear hb hbox hg))
 go_loopg [12] k (fun kq v12 w' => ∃ (x12_1 : Int), v12 = .int .i64 x12_1 ∧ Aside0 (impl_placeO.l0 may kq l0 l2 (l2.length : Int) x12_1 a1_0 l1_1 = some r) ∧ Aside0 (kq ≤ k) ∧ Aside0 (w'.heap[gb352]? = some (.cells #[.int .i64 a1_0, (.slice A1_1 l1_1.length c1_1)] 43 (0, 0))) ∧ Aside0 (Below w.heap.size w w'))
 case atStart => exact ⟨(a3), m5_q, H', ⟨nR_q _⟩, ⟨bup BK352.out⟩, ⟨m3_q⟩⟩
 case round =>
  clear H'
  try clear c1
  try clear c2
  try clear p2
  try clear c5
  obtain ⟨x12_1, rfl, HA, HK1, BK352, HB⟩ := hrel
  cases gk with
  | zero => exact absurd HA.out (by simp [impl_placeO.l0])
  | succ k1 =>
   have H := HA.out
   clear HA
   simp only [impl_placeO.l0] at H
   by_cases c7 : x12_1 ≤ 999
   rotate_left
   ·rw [if_neg c7] at H
    have c7b0 : decide (x12_1 ≤ 999) = false := dF_q c7
    clear c7
    obtain rfl := oI_q H
    go_wp2
    go_ret
    exact ⟨m4_q, m3_q⟩
   rw [if_pos c7] at H
   have c7b0 : decide (x12_1 ≤ 999) = true := dT_q c7
   clear c7
   replace H := oB_q.mp H
   obtain ⟨t353, A80, H⟩ := H
   replace H : (if t353 = true then (if 0 ≤ (wrap64 ((l2.length : Int) + 1)) then (if (wrap64 ((l2.length : Int) + 1)) ≤ (l0.length : Int) then ((slices_Clone_int_int.f l2).bind fun t358 => ((some (([x12_1] : List Int) : List Int)).bind fun y361 => (if t358.length + y361.length < 17592186044416 then ((impl_planFits.f k1 (l0.take ((wrap64 ((l2.length : Int) + 1)) : Int).toNat) a1_0 l1_1 (t358 ++ y361)).bind fun t367 => (if t367 = true then (some x12_1) else (impl_placeO.l0 may k1 l0 l2 (l2.length : Int) (wrap64 (x12_1 + 1)) a1_0 l1_1))) else (none)))) else (none)) else (none)) else (impl_placeO.l0 may k1 l0 l2 (l2.length : Int) (wrap64 (x12_1 + 1)) a1_0 l1_1)) = some r := H
   have A8 := Ae_q A80
   clear A80
   by_cases c9 : t353 = true
   rotate_left
   ·replace c9 := fM_q.mpr c9
    subst c9
    have H1 : (impl_placeO.l0 may k1 l0 l2 (l2.length : Int) (wrap64 (x12_1 + 1)) a1_0 l1_1) = some r := by rw [if_neg (show ¬ (false = true) by decide)] at H; exact H
    clear H
    have H := H1
    clear H1
    have H' := Ae_q H
    clear H
    try go_wp2
    replace BK352 := Ae_q (bW_q BK352.out)
    replace HB := Ae_q (bD_q HB.out)
    refine start_ (n := 16) (S := fun w' => True) (ds := []) #[false, false, false, false, false, false, false, false, false, false, false, false, false, false, false, false] m7_q rfl rfl trivial (fun hHeld => ?_); refine with_tabW impl_place.tab5 impl_place.bits5 (fun HT_ HW_ => ?_)
    generalize wr.drew = w39 at BK352 HB hHeld ⊢
    refine pJ HT_ 0 20 rfl rfl ?_
    refine pJ HT_ 1 21 rfl rfl ?_
    refine one_ (i := 2) (N := some 22) #[true, true, true, false, false, false, false, false, false, false, false, false, false, false, false, false] rfl rfl (one_of HT_.out m7_q) (by decide) (fun K hK => ?_)
    refine goesV_ (caps := #[.pointer (some ⟨Bo, 0, none⟩), .pointer (some ⟨Bs, 0, none⟩)]) (all_ := #[.int .i64 x12_1, .pointer (some ⟨Bo, 0, none⟩), .pointer (some ⟨Bs, 0, none⟩)]) Try.func55 m7_q rfl #[.int .i64 x12_1] (by rfl) rfl rfl rfl m1_q rfl ?_
    refine (HMAY.out _ x12_1 false m102_q A8.out).mono ?_
    rintro e w' ⟨rfl, hb⟩
    refine ⟨_, rfl, ?_⟩
    replace BK352 := Ae_q (bB_q (g := gb352) (o := .cells #[.int .i64 a1_0, .slice A1_1 l1_1.length c1_1] 43 (0, 0)) (bup BK352.out) hb)
    replace HB := Ae_q (bT_q m3_q hb)
    (try clear hb)
    (try clear hb2)
    (try clear hk)
    (try clear hi)
    refine hK.out _ _ trivial (fun hHeld => ?_)
    clear hK K
    refine nJ_q ?_
    refine pJ HT_ 3 23 rfl rfl ?_
    refine pV HT_ 4 24 rfl rfl ?_
    refine pV HT_ 5 25 rfl rfl ?_
    refine pV HT_ 6 26 rfl rfl ?_
    refine pV HT_ 7 27 rfl rfl ?_
    refine pV HT_ 8 28 rfl rfl ?_
    refine pV HT_ 9 29 rfl rfl ?_
    refine pV HT_ 10 30 rfl rfl ?_
    refine pV HT_ 11 31 rfl rfl ?_
    refine pV HT_ 12 32 rfl rfl ?_
    refine pV HT_ 13 33 rfl rfl ?_
    refine pV HT_ 14 34 rfl rfl ?_
    refine pJ HT_ 15 35 rfl rfl ?_
    refine done_ (done_of HT_.out m7_q) ?_
    try go_wp2
    go_roundg k1
    case measure => have := HK1.out; omega
    case rel => exact ⟨(wrap64 (x12_1 + 1)), m5_q, H', ⟨m74_q⟩, ⟨bup BK352.out⟩, ⟨m3_q⟩⟩
   subst c9
   have H1 : (if 0 ≤ (wrap64 ((l2.length : Int) + 1)) then (if (wrap64 ((l2.length : Int) + 1)) ≤ (l0.length : Int) then ((slices_Clone_int_int.f l2).bind fun t358 => ((some (([x12_1] : List Int) : List Int)).bind fun y361 => (if t358.length + y361.length < 17592186044416 then ((impl_planFits.f k1 (l0.take ((wrap64 ((l2.length : Int) + 1)) : Int).toNat) a1_0 l1_1 (t358 ++ y361)).bind fun t367 => (if t367 = true then (some x12_1) else (impl_placeO.l0 may k1 l0 l2 (l2.length : Int) (wrap64 (x12_1 + 1)) a1_0 l1_1))) else (none)))) else (none)) else (none)) = some r := by rw [if_pos rfl] at H; exact H
   clear H
   have H := H1
   clear H1
   obtain ⟨ji10, hji10⟩ : ∃ j_ : Int, (wrap64 ((l2.length : Int) + 1)) = j_ := ⟨_, rfl⟩
   replace H : (if 0 ≤ (ji10) then (if (ji10) ≤ (l0.length : Int) then ((slices_Clone_int_int.f l2).bind fun t358 => ((some (([x12_1] : List Int) : List Int)).bind fun y361 => (if t358.length + y361.length < 17592186044416 then ((impl_planFits.f k1 (l0.take ((ji10) : Int).toNat) a1_0 l1_1 (t358 ++ y361)).bind fun t367 => (if t367 = true then (some x12_1) else (impl_placeO.l0 may k1 l0 l2 (l2.length : Int) (wrap64 (x12_1 + 1)) a1_0 l1_1))) else (none)))) else (none)) else (none)) = some r := by first | (rw [hji10] at H; exact H) | (simp only [hji10] at H ⊢; exact H)
   (try rw [hji10] at A8)
   have hji10w : (IntKind.i64.wrap ((l2.length : Int) + 1)) = ji10 := (i64_w _).trans hji10
   by_cases c11 : 0 ≤ (ji10)
   rotate_left
   ·rw [if_neg c11] at H
    exact absurd H (by simp)
   rw [if_pos c11] at H
   have c11b0 := eq_true c11
   have c11b1 : decide (0 ≤ (ji10)) = true := dT_q c11
   clear c11
   by_cases c12 : (ji10) ≤ (l0.length : Int)
   rotate_left
   ·rw [if_neg c12] at H
    exact absurd H (by simp)
   rw [if_pos c12] at H
   have c12b0 := eq_true c12
   have c12b1 : decide ((ji10) ≤ (l0.length : Int)) = true := dT_q c12
   clear c12
   obtain ⟨y354, hy354⟩ : ∃ y_ : List (S63), y_ = (l0.take ((ji10) : Int).toNat) := ⟨_, rfl⟩
   replace H : ((slices_Clone_int_int.f l2).bind fun t358 => ((some (([x12_1] : List Int) : List Int)).bind fun y361 => (if t358.length + y361.length < 17592186044416 then ((impl_planFits.f k1 y354 a1_0 l1_1 (t358 ++ y361)).bind fun t367 => (if t367 = true then (some x12_1) else (impl_placeO.l0 may k1 l0 l2 (l2.length : Int) (wrap64 (x12_1 + 1)) a1_0 l1_1))) else (none)))) = some r := by first | (rw [hy354]; with_reducible exact H) | (have H2_ := (oS_q _ _).symm.trans H; rw [hy354]; with_reducible exact H2_) | (have H2_ := (oS_q _ _).symm.trans H; with_reducible exact H2_) | with_reducible exact H | (rw [hy354]; exact H) | exact H
   have Ny354 := Ae_q hy354
   clear hy354
   replace H := oB_q.mp H
   obtain ⟨t358, A130, H⟩ := H
   replace H : ((some (([x12_1] : List Int) : List Int)).bind fun y361 => (if t358.length + y361.length < 17592186044416 then ((impl_planFits.f k1 y354 a1_0 l1_1 (t358 ++ y361)).bind fun t367 => (if t367 = true then (some x12_1) else (impl_placeO.l0 may k1 l0 l2 (l2.length : Int) (wrap64 (x12_1 + 1)) a1_0 l1_1))) else (none))) = some r := H
   have A13 := Ae_q A130
   clear A130
   obtain ⟨y361, hy361⟩ : ∃ y_ : List Int, y_ = (([x12_1] : List Int)) := ⟨_, rfl⟩
   replace H : (if t358.length + y361.length < 17592186044416 then ((impl_planFits.f k1 y354 a1_0 l1_1 (t358 ++ y361)).bind fun t367 => (if t367 = true then (some x12_1) else (impl_placeO.l0 may k1 l0 l2 (l2.length : Int) (wrap64 (x12_1 + 1)) a1_0 l1_1))) else (none)) = some r := by first | (rw [hy361]; with_reducible exact H) | (have H2_ := (oS_q _ _).symm.trans H; rw [hy361]; with_reducible exact H2_) | (have H2_ := (oS_q _ _).symm.trans H; with_reducible exact H2_) | with_reducible exact H | (rw [hy361]; exact H) | exact H
   have Ny361 := Ae_q hy361
   clear hy361
   by_cases c14 : t358.length + y361.length < 17592186044416
   rotate_left
   ·rw [if_neg c14] at H
    exact absurd H (by simp)
   rw [if_pos c14] at H
   have LMc14 := Ae_q c14
   clear c14
   obtain ⟨y364, hy364⟩ : ∃ y_ : List Int, y_ = (t358 ++ y361) := ⟨_, rfl⟩
   replace H : ((impl_planFits.f k1 y354 a1_0 l1_1 y364).bind fun t367 => (if t367 = true then (some x12_1) else (impl_placeO.l0 may k1 l0 l2 (l2.length : Int) (wrap64 (x12_1 + 1)) a1_0 l1_1))) = some r := by first | (rw [hy364]; with_reducible exact H) | (have H2_ := (oS_q _ _).symm.trans H; rw [hy364]; with_reducible exact H2_) | (have H2_ := (oS_q _ _).symm.trans H; with_reducible exact H2_) | with_reducible exact H | (rw [hy364]; exact H) | exact H
   have Ny364 := Ae_q hy364
   clear hy364
   replace H := oB_q.mp H
   obtain ⟨t367, A150, H⟩ := H
   replace H : (if t367 = true then (some x12_1) else (impl_placeO.l0 may k1 l0 l2 (l2.length : Int) (wrap64 (x12_1 + 1)) a1_0 l1_1)) = some r := H
   have A15 := Ae_q A150
   clear A150
   by_cases c16 : t367 = true
   ·subst c16
    have H1 : (some x12_1) = some r := by rw [if_pos rfl] at H; exact H
    clear H
    have H := H1
    clear H1
    obtain rfl := oI_q H
    try go_wp2
    replace BK352 := Ae_q (bW_q BK352.out)
    replace HB := Ae_q (bD_q HB.out)
    refine start_ (n := 16) (S := fun w' => w'.cell? ⟨gb352, 0, none⟩ = some (.int .i64 a1_0) ∧ w'.cell? ⟨gb352, 1, none⟩ = some (.slice A1_1 l1_1.length c1_1)) (ds := []) #[false, false, false, false, false, false, false, false, false, false, false, false, false, false, false, false] m7_q rfl rfl ⟨(bC_q BK352.out 0).trans rfl, (bC_q BK352.out 1).trans rfl⟩ (fun hHeld => ?_); refine with_tabW impl_place.tab5 impl_place.bits5 (fun HT_ HW_ => ?_)
    generalize wr.drew = w17 at BK352 HB hHeld ⊢
    refine pJ HT_ 0 20 rfl rfl ?_
    refine pJ HT_ 1 21 rfl rfl ?_
    refine one_ (i := 2) (N := some 22) #[true, true, true, false, false, false, false, false, false, false, false, false, false, false, false, false] rfl rfl (one_of HT_.out m7_q) (by decide) (fun K hK => ?_)
    refine goesV_ (caps := #[.pointer (some ⟨Bo, 0, none⟩), .pointer (some ⟨Bs, 0, none⟩)]) (all_ := #[.int .i64 x12_1, .pointer (some ⟨Bo, 0, none⟩), .pointer (some ⟨Bs, 0, none⟩)]) Try.func55 m7_q rfl #[.int .i64 x12_1] (by rfl) rfl rfl rfl m1_q rfl ?_
    refine (HMAY.out _ x12_1 true m102_q A8.out).mono ?_
    rintro e w' ⟨rfl, hb⟩
    refine ⟨_, rfl, ?_⟩
    replace BK352 := Ae_q (bB_q (g := gb352) (o := .cells #[.int .i64 a1_0, .slice A1_1 l1_1.length c1_1] 43 (0, 0)) (bup BK352.out) hb)
    replace HB := Ae_q (bT_q m3_q hb)
    (try clear hb)
    (try clear hb2)
    (try clear hk)
    (try clear hi)
    have q19 : ((ji10) : Int) ≤ ((l0.length : Int) : Int) := oD_q (by assumption)
    obtain ⟨i019, hi019, _, hsz19, _⟩ := info_parts info63
    have hroom19 : l0.length ≤ c0 := HC0.out
    have hC19 : Kd.C k63 _ A0 l0.length l0 := HR0.out
    have hcut19 := cut_to (P := Try.prog) 28 63 .i64 Try.underlying28 hi019 A0 l0.length c0 (ji10) (oD_q (by assumption)) q19 hroom19
    have hr19 := Kd.C_take (m := ((ji10) : Int).toNat) hC19 (by omega)
    have hy19 : y354.length = ((ji10) : Int).toNat := (by rw [Ny354.out, lT_q]; omega)
    rw [← Ny354.out] at hr19
    rw [← hy19] at hcut19
    have HR357 := Ae_q hr19
    have HC357 := Ae_q (show y354.length ≤ c0 from by omega)
    clear hr19 hC19 hroom19 hi019 hsz19
    have KY19 := Ae_q hy19
    clear hy19
    replace q19 := eq_true q19
    refine hK.out _ _ ⟨(bC_q BK352.out 0).trans rfl, (bC_q BK352.out 1).trans rfl⟩ (fun hHeld => ?_)
    clear hK K
    refine nJ_q ?_
    refine pJ HT_ 3 23 rfl rfl ?_
    refine pJ HT_ 4 24 rfl rfl ?_
    refine pJ HT_ 5 25 rfl rfl ?_
    refine pJ HT_ 6 26 rfl rfl ?_
    refine pJ HT_ 7 27 rfl rfl ?_
    refine pJ HT_ 9 29 rfl rfl ?_
    refine pJ HT_ 11 31 rfl rfl ?_
    refine take_ (i := 8) (N := some 28) (v := ?_) (a' := ?_) #[true, true, true, true, true, true, true, true, true, true, false, true, false, false, false, false] rfl rfl (take_ofW HT_.out HW_.out m7_q) (fun _ _ _ h => h) (Or.inl ⟨by rfl, ?_⟩) hHeld ?_ ?_
    rotate_left
    ·rintro w' ⟨s0, s1⟩
     go_simp
     with_reducible rfl
    rotate_left
    ·simp only [pS_q]
     rfl
    refine join_ (σ := Value × Value) 3 #[true, true, true, true, true, true, true, true, true, true, true, true, true, false, false, false] (fun s_ => [(30, s_.1), (32, s_.2)]) (fun s_ w' => (w'.cell? ⟨gb352, 0, none⟩ = some (.int .i64 a1_0) ∧ w'.cell? ⟨gb352, 1, none⟩ = some (.slice A1_1 l1_1.length c1_1)) ∧ (Kd.R kI_q 3 w' w.heap.size (fun k_ => some k_ ≠ (s_.2 : Value).ownBlock) s_.1 t358) ∧ (Kd.R kI_q 3 w' w.heap.size (fun k_ => some k_ ≠ (s_.1 : Value).ownBlock) s_.2 y361) ∧ (w'.heap[gb352]? = some (.cells #[.int .i64 a1_0, .slice A1_1 l1_1.length c1_1] 43 (0, 0))) ∧ (Below w.heap.size w w')) ?_ ?_
    rotate_left
    ·intro hCont
     refine two_ (i := 10) (j := 12) (Ni := some 30) (Nj := some 32) #[true, true, true, true, true, true, true, true, true, true, true, true, false, false, false, false] #[true, true, true, true, true, true, true, true, true, true, false, true, true, false, false, false] rfl rfl rfl rfl (two_of HT_.out m7_q) (by decide) (by decide) (fun K hK => ?_) (fun K hK => ?_)
     ·skip
      refine goes_ Try.func66 m7_q rfl #[.slice A2 l2.length c2] (by rfl) rfl rfl m1_q ?_
      with_reducible refine (slices_Clone_int_int.calls _ _ l2 t358 _ ?side1 ?side2 A13.out).mono ?_
      (case side1 => exact m28_q)
      (case side2 => exact m63_q)
      rintro e w20 ⟨v359, rfl, ho0, hb⟩
      refine ⟨_, rfl, ?_⟩
      have HO360 := Ae_q (rL_q ho0 (bZ_q m3_q))
      replace BK352 := Ae_q (bB_q (g := gb352) (o := .cells #[.int .i64 a1_0, .slice A1_1 l1_1.length c1_1] 43 (0, 0)) (bup BK352.out) hb)
      replace HB := Ae_q (bT_q m3_q hb)
      (try clear hb)
      (try clear hb2)
      (try clear hk)
      (try clear hi)
      (try clear ho0)
      refine hK.out _ _ ⟨(bC_q BK352.out 0).trans rfl, (bC_q BK352.out 1).trans rfl⟩ (fun hHeld => ?_)
      clear hK K
      refine nJ_q ?_
      refine one_ (i := 12) (N := some 32) #[true, true, true, true, true, true, true, true, true, true, true, true, true, false, false, false] rfl rfl (one_of HT_.out m7_q) (by decide) (fun K hK => ?_)
      refine rI_q kI_q _ 3 ?hg (N := 32) ?hd (xs := ([x12_1] : List Int)) (inner := [.int .i64 x12_1]) (ok := fun _ => True) (okp := fun _ => True) ?hr ?hp (fun _ hk => hk) trivial (bR_q _ _) (nR_q _) (by simp) ?_; (case hd => rfl); (case hg => rfl); (case hr => exact m6_q); (case hp => exact m51_q)
      intro v362 w21 ho22 hb hg_ hnew_
      clear hg_ hnew_
      (first | rw [← Ny361.out] at ho22 | (simp only [Int.reduceToNat] at ho22; rw [← Ny361.out] at ho22))
      have HO363 := Ae_q (rL_q (rW_q ho22 (rT_q (rup HO360.out))) (bZ_q m3_q))
      replace HO360 := Ae_q (rE_q (rup HO360.out) (rB_q ho22) hb)
      replace BK352 := Ae_q (bB_q (g := gb352) (o := .cells #[.int .i64 a1_0, .slice A1_1 l1_1.length c1_1] 43 (0, 0)) (bup BK352.out) hb)
      replace HB := Ae_q (bT_q m3_q hb)
      clear hb ho22
      refine hK.out _ _ ⟨(bC_q BK352.out 0).trans rfl, (bC_q BK352.out 1).trans rfl⟩ (fun hHeld => ?_)
      clear hK K
      refine nJ_q ?_
      exact norm_ m47_q (hCont (v359, v362) _ ⟨hHeld, m39_q, m40_q, (bup BK352.out), m3_q⟩)
     skip
     refine rI_q kI_q _ 3 ?hg (N := 32) ?hd (xs := ([x12_1] : List Int)) (inner := [.int .i64 x12_1]) (ok := fun _ => True) (okp := fun _ => True) ?hr ?hp (fun _ hk => hk) trivial (bR_q _ _) (nR_q _) (by simp) ?_; (case hd => rfl); (case hg => rfl); (case hr => exact m6_q); (case hp => exact m51_q)
     intro v362 w20 ho21 hb hg_ hnew_
     clear hg_ hnew_
     (first | rw [← Ny361.out] at ho21 | (simp only [Int.reduceToNat] at ho21; rw [← Ny361.out] at ho21))
     have HO363 := Ae_q (rL_q ho21 (bZ_q m3_q))
     replace BK352 := Ae_q (bB_q (g := gb352) (o := .cells #[.int .i64 a1_0, .slice A1_1 l1_1.length c1_1] 43 (0, 0)) (bup BK352.out) hb)
     replace HB := Ae_q (bT_q m3_q hb)
     clear hb ho21
     refine hK.out _ _ ⟨(bC_q BK352.out 0).trans rfl, (bC_q BK352.out 1).trans rfl⟩ (fun hHeld => ?_)
     clear hK K
     refine nJ_q ?_
     refine one_ (i := 10) (N := some 30) #[true, true, true, true, true, true, true, true, true, true, true, true, true, false, false, false] rfl rfl (one_of HT_.out m7_q) (by decide) (fun K hK => ?_)
     refine goes_ Try.func66 m7_q rfl #[.slice A2 l2.length c2] (by rfl) rfl rfl m1_q ?_
     with_reducible refine (slices_Clone_int_int.calls _ _ l2 t358 _ ?side1 ?side2 A13.out).mono ?_
     (case side1 => exact m28_q)
     (case side2 => exact m63_q)
     rintro e w' ⟨v359, rfl, ho0, hb⟩
     refine ⟨_, rfl, ?_⟩
     have HO360 := Ae_q (rL_q (rW_q ho0 (rT_q (rup HO363.out))) (bZ_q m3_q))
     replace HO363 := Ae_q (rE_q (rup HO363.out) (rB_q ho0) hb)
     replace BK352 := Ae_q (bB_q (g := gb352) (o := .cells #[.int .i64 a1_0, .slice A1_1 l1_1.length c1_1] 43 (0, 0)) (bup BK352.out) hb)
     replace HB := Ae_q (bT_q m3_q hb)
     (try clear hb)
     (try clear hb2)
     (try clear hk)
     (try clear hi)
     (try clear ho0)
     refine hK.out _ _ ⟨(bC_q BK352.out 0).trans rfl, (bC_q BK352.out 1).trans rfl⟩ (fun hHeld => ?_)
     clear hK K
     refine nJ_q ?_
     exact norm_ m47_q (hCont (v359, v362) _ ⟨hHeld, m39_q, m40_q, (bup BK352.out), m3_q⟩)
    rintro ⟨v359, v362⟩ w23 ⟨hS_, h0_, h1_, h2_, h3_⟩
    have n0_ : Aside0 (Kd.R kI_q 3 w23 w.heap.size (fun k_ => some k_ ≠ (v362 : Value).ownBlock) v359 t358) := ⟨h0_⟩
    have n1_ : Aside0 (Kd.R kI_q 3 w23 w.heap.size (fun k_ => some k_ ≠ (v359 : Value).ownBlock) v362 y361) := ⟨h1_⟩
    have n2_ : Aside0 (w23.heap[gb352]? = some (.cells #[.int .i64 a1_0, .slice A1_1 l1_1.length c1_1] 43 (0, 0))) := ⟨h2_⟩
    have n3_ : Aside0 (Below w.heap.size w w23) := ⟨h3_⟩
    clear BK352
    clear HB
    clear h0_ h1_ h2_ h3_
    have HO360 := n0_
    have HO363 := n1_
    have BK352 := n2_
    have HB := n3_
    clear n0_ n1_ n2_ n3_
    have hHeld : w23.cell? ⟨gb352, 0, none⟩ = some (.int .i64 a1_0) ∧ w23.cell? ⟨gb352, 1, none⟩ = some (.slice A1_1 l1_1.length c1_1) := hS_
    obtain ⟨Ao25, co25, eo25⟩ := rS_q HO363.out
    (first | subst eo25 | (injection eo25 with f1_ f2_ f3_; have f4_ := f1_.symm; have f5_ := f3_.symm; clear f1_ f2_ f3_; subst f4_; subst f5_))
    refine norm_ (a' := ?_) ?_ ?_
    rotate_left
    ·simp only [putAll, Act.put, sA_q, sZ_q, sS_q]
     rfl
    refine one_ (i := 13) (N := some 33) #[true, true, true, true, true, true, true, true, true, true, true, true, true, true, false, false] rfl rfl (one_of HT_.out m7_q) (by decide) (fun K hK => ?_)
    refine rP_q kI_q (w0 := w) w.heap.size (by rfl) (.tmp 30) (.tmp 32) 23 3 (.int .i64 0) 8 rfl Try.underlying23 info3 rfl (by decide) (by omega) v359 t358 y361 _ _ _ (fun k_ => some k_ ≠ (.slice Ao25 y361.length co25 : Value).ownBlock) (fun _ => False) rfl rfl ?aO ?aR (fun _ _ h => h) (fun _ h => h.elim) ?aF ?aB ?aS ?aL ?_
    (case aR => exact m126_q)
    (case aB => exact m3_q)
    (case aF => exact m105_q)
    (case aO => exact (rup HO360.out))
    (case aS => exact (bZ_q m3_q))
    (case aL => have := LMc14.out; omega)
    intro v365 w24 ho hb hg hat
    rw [← Ny364.out] at ho
    replace BK352 := Ae_q (bG_q (g := gb352) (o := .cells #[.int .i64 a1_0, .slice A1_1 l1_1.length c1_1] 43 (0, 0)) (bup BK352.out) hg (Kd.R_ne HO360.out BK352.out (by decide)))
    replace HO363 := Ae_q (rF_q (ok := (fun _ => True)) m61_q hg hat)
    replace HB := Ae_q (hb)
    have HO366 := Ae_q (ho)
    clear HO360
    clear ho hb hg hat
    obtain ⟨Ao26, co26, eo26⟩ := rS_q HO366.out
    (first | subst eo26 | (injection eo26 with f1_ f2_ f3_; have f4_ := f1_.symm; have f5_ := f3_.symm; clear f1_ f2_ f3_; subst f4_; subst f5_))
    refine hK.out _ _ ⟨(bC_q BK352.out 0).trans rfl, (bC_q BK352.out 1).trans rfl⟩ (fun hHeld => ?_)
    clear hK K
    refine nJ_q ?_
    refine one_ (i := 14) (N := some 34) #[true, true, true, true, true, true, true, true, true, true, true, true, true, true, true, false] rfl rfl (one_of HT_.out m7_q) (by decide) (fun K hK => ?_)
    refine goes_ Try.func57 m7_q rfl #[.slice A0 y354.length c0, .agg #[.int .i64 a1_0, .slice A1_1 l1_1.length c1_1], .slice Ao26 y364.length co26] (by rfl) rfl rfl m1_q ?_
    with_reducible refine (impl_planFits.calls k1 _ _ y354 a1_0 _ _ l1_1 _ _ y364 true _ ?side1 ?side2 ?side3 ?side4 ?side5 ?side6 A15.out).mono ?_
    (case side1 => exact m121_q)
    (case side2 => exact HC357.out)
    (case side3 => exact m32_q)
    (case side4 => exact m64_q)
    (case side5 => exact m127_q)
    (case side6 => exact (rR_q HO366.out).2.1)
    rintro e w' ⟨rfl, hb⟩
    refine ⟨_, rfl, ?_⟩
    replace HO363 := Ae_q (rO_q (rup HO363.out) hb)
    replace HO366 := Ae_q (rO_q (rup HO366.out) hb)
    replace BK352 := Ae_q (bB_q (g := gb352) (o := .cells #[.int .i64 a1_0, .slice A1_1 l1_1.length c1_1] 43 (0, 0)) (bup BK352.out) hb)
    replace HB := Ae_q (bT_q m3_q hb)
    (try clear hb)
    (try clear hb2)
    (try clear hk)
    (try clear hi)
    refine hK.out _ _ ⟨(bC_q BK352.out 0).trans rfl, (bC_q BK352.out 1).trans rfl⟩ (fun hHeld => ?_)
    clear hK K
    refine nJ_q ?_
    refine pJ HT_ 15 35 rfl rfl ?_
    refine done_ (done_of HT_.out m7_q) ?_
    try go_wp2
    go_ret
    exact ⟨m91_q, m3_q⟩
   replace c16 := fM_q.mpr c16
   subst c16
   have H1 : (impl_placeO.l0 may k1 l0 l2 (l2.length : Int) (wrap64 (x12_1 + 1)) a1_0 l1_1) = some r := by rw [if_neg (show ¬ (false = true) by decide)] at H; exact H
   clear H
   have H := H1
   clear H1
   have H' := Ae_q H
   clear H
   try go_wp2
   replace BK352 := Ae_q (bW_q BK352.out)
   replace HB := Ae_q (bD_q HB.out)
   refine start_ (n := 16) (S := fun w' => w'.cell? ⟨gb352, 0, none⟩ = some (.int .i64 a1_0) ∧ w'.cell? ⟨gb352, 1, none⟩ = some (.slice A1_1 l1_1.length c1_1)) (ds := []) #[false, false, false, false, false, false, false, false, false, false, false, false, false, false, false, false] m7_q rfl rfl ⟨(bC_q BK352.out 0).trans rfl, (bC_q BK352.out 1).trans rfl⟩ (fun hHeld => ?_); refine with_tabW impl_place.tab5 impl_place.bits5 (fun HT_ HW_ => ?_)
   generalize wr.drew = w28 at BK352 HB hHeld ⊢
   refine pJ HT_ 0 20 rfl rfl ?_
   refine pJ HT_ 1 21 rfl rfl ?_
   refine one_ (i := 2) (N := some 22) #[true, true, true, false, false, false, false, false, false, false, false, false, false, false, false, false] rfl rfl (one_of HT_.out m7_q) (by decide) (fun K hK => ?_)
   refine goesV_ (caps := #[.pointer (some ⟨Bo, 0, none⟩), .pointer (some ⟨Bs, 0, none⟩)]) (all_ := #[.int .i64 x12_1, .pointer (some ⟨Bo, 0, none⟩), .pointer (some ⟨Bs, 0, none⟩)]) Try.func55 m7_q rfl #[.int .i64 x12_1] (by rfl) rfl rfl rfl m1_q rfl ?_
   refine (HMAY.out _ x12_1 true m102_q A8.out).mono ?_
   rintro e w' ⟨rfl, hb⟩
   refine ⟨_, rfl, ?_⟩
   replace BK352 := Ae_q (bB_q (g := gb352) (o := .cells #[.int .i64 a1_0, .slice A1_1 l1_1.length c1_1] 43 (0, 0)) (bup BK352.out) hb)
   replace HB := Ae_q (bT_q m3_q hb)
   (try clear hb)
   (try clear hb2)
   (try clear hk)
   (try clear hi)
   have q30 : ((ji10) : Int) ≤ ((l0.length : Int) : Int) := oD_q (by assumption)
   obtain ⟨i030, hi030, _, hsz30, _⟩ := info_parts info63
   have hroom30 : l0.length ≤ c0 := HC0.out
   have hC30 : Kd.C k63 _ A0 l0.length l0 := HR0.out
   have hcut30 := cut_to (P := Try.prog) 28 63 .i64 Try.underlying28 hi030 A0 l0.length c0 (ji10) (oD_q (by assumption)) q30 hroom30
   have hr30 := Kd.C_take (m := ((ji10) : Int).toNat) hC30 (by omega)
   have hy30 : y354.length = ((ji10) : Int).toNat := (by rw [Ny354.out, lT_q]; omega)
   rw [← Ny354.out] at hr30
   rw [← hy30] at hcut30
   have HR357 := Ae_q hr30
   have HC357 := Ae_q (show y354.length ≤ c0 from by omega)
   clear hr30 hC30 hroom30 hi030 hsz30
   have KY30 := Ae_q hy30
   clear hy30
   replace q30 := eq_true q30
   refine hK.out _ _ ⟨(bC_q BK352.out 0).trans rfl, (bC_q BK352.out 1).trans rfl⟩ (fun hHeld => ?_)
   clear hK K
   refine nJ_q ?_
   refine pJ HT_ 3 23 rfl rfl ?_
   refine pJ HT_ 4 24 rfl rfl ?_
   refine pJ HT_ 5 25 rfl rfl ?_
   refine pJ HT_ 6 26 rfl rfl ?_
   refine pJ HT_ 7 27 rfl rfl ?_
   refine pJ HT_ 9 29 rfl rfl ?_
   refine pJ HT_ 11 31 rfl rfl ?_
   refine take_ (i := 8) (N := some 28) (v := ?_) (a' := ?_) #[true, true, true, true, true, true, true, true, true, true, false, true, false, false, false, false] rfl rfl (take_ofW HT_.out HW_.out m7_q) (fun _ _ _ h => h) (Or.inl ⟨by rfl, ?_⟩) hHeld ?_ ?_
   rotate_left
   ·rintro w' ⟨s0, s1⟩
    go_simp
    with_reducible rfl
   rotate_left
   ·simp only [pS_q]
    rfl
   refine join_ (σ := Value × Value) 3 #[true, true, true, true, true, true, true, true, true, true, true, true, true, false, false, false] (fun s_ => [(30, s_.1), (32, s_.2)]) (fun s_ w' => (w'.cell? ⟨gb352, 0, none⟩ = some (.int .i64 a1_0) ∧ w'.cell? ⟨gb352, 1, none⟩ = some (.slice A1_1 l1_1.length c1_1)) ∧ (Kd.R kI_q 3 w' w.heap.size (fun k_ => some k_ ≠ (s_.2 : Value).ownBlock) s_.1 t358) ∧ (Kd.R kI_q 3 w' w.heap.size (fun k_ => some k_ ≠ (s_.1 : Value).ownBlock) s_.2 y361) ∧ (w'.heap[gb352]? = some (.cells #[.int .i64 a1_0, .slice A1_1 l1_1.length c1_1] 43 (0, 0))) ∧ (Below w.heap.size w w')) ?_ ?_
   rotate_left
   ·intro hCont
    refine two_ (i := 10) (j := 12) (Ni := some 30) (Nj := some 32) #[true, true, true, true, true, true, true, true, true, true, true, true, false, false, false, false] #[true, true, true, true, true, true, true, true, true, true, false, true, true, false, false, false] rfl rfl rfl rfl (two_of HT_.out m7_q) (by decide) (by decide) (fun K hK => ?_) (fun K hK => ?_)
    ·skip
     refine goes_ Try.func66 m7_q rfl #[.slice A2 l2.length c2] (by rfl) rfl rfl m1_q ?_
     with_reducible refine (slices_Clone_int_int.calls _ _ l2 t358 _ ?side1 ?side2 A13.out).mono ?_
     (case side1 => exact m28_q)
     (case side2 => exact m63_q)
     rintro e w31 ⟨v359, rfl, ho0, hb⟩
     refine ⟨_, rfl, ?_⟩
     have HO360 := Ae_q (rL_q ho0 (bZ_q m3_q))
     replace BK352 := Ae_q (bB_q (g := gb352) (o := .cells #[.int .i64 a1_0, .slice A1_1 l1_1.length c1_1] 43 (0, 0)) (bup BK352.out) hb)
     replace HB := Ae_q (bT_q m3_q hb)
     (try clear hb)
     (try clear hb2)
     (try clear hk)
     (try clear hi)
     (try clear ho0)
     refine hK.out _ _ ⟨(bC_q BK352.out 0).trans rfl, (bC_q BK352.out 1).trans rfl⟩ (fun hHeld => ?_)
     clear hK K
     refine nJ_q ?_
     refine one_ (i := 12) (N := some 32) #[true, true, true, true, true, true, true, true, true, true, true, true, true, false, false, false] rfl rfl (one_of HT_.out m7_q) (by decide) (fun K hK => ?_)
     refine rI_q kI_q _ 3 ?hg (N := 32) ?hd (xs := ([x12_1] : List Int)) (inner := [.int .i64 x12_1]) (ok := fun _ => True) (okp := fun _ => True) ?hr ?hp (fun _ hk => hk) trivial (bR_q _ _) (nR_q _) (by simp) ?_; (case hd => rfl); (case hg => rfl); (case hr => exact m6_q); (case hp => exact m51_q)
     intro v362 w32 ho33 hb hg_ hnew_
     clear hg_ hnew_
     (first | rw [← Ny361.out] at ho33 | (simp only [Int.reduceToNat] at ho33; rw [← Ny361.out] at ho33))
     have HO363 := Ae_q (rL_q (rW_q ho33 (rT_q (rup HO360.out))) (bZ_q m3_q))
     replace HO360 := Ae_q (rE_q (rup HO360.out) (rB_q ho33) hb)
     replace BK352 := Ae_q (bB_q (g := gb352) (o := .cells #[.int .i64 a1_0, .slice A1_1 l1_1.length c1_1] 43 (0, 0)) (bup BK352.out) hb)
     replace HB := Ae_q (bT_q m3_q hb)
     clear hb ho33
     refine hK.out _ _ ⟨(bC_q BK352.out 0).trans rfl, (bC_q BK352.out 1).trans rfl⟩ (fun hHeld => ?_)
     clear hK K
     refine nJ_q ?_
     exact norm_ m47_q (hCont (v359, v362) _ ⟨hHeld, m39_q, m40_q, (bup BK352.out), m3_q⟩)
    skip
    refine rI_q kI_q _ 3 ?hg (N := 32) ?hd (xs := ([x12_1] : List Int)) (inner := [.int .i64 x12_1]) (ok := fun _ => True) (okp := fun _ => True) ?hr ?hp (fun _ hk => hk) trivial (bR_q _ _) (nR_q _) (by simp) ?_; (case hd => rfl); (case hg => rfl); (case hr => exact m6_q); (case hp => exact m51_q)
    intro v362 w31 ho32 hb hg_ hnew_
    clear hg_ hnew_
    (first | rw [← Ny361.out] at ho32 | (simp only [Int.reduceToNat] at ho32; rw [← Ny361.out] at ho32))
    have HO363 := Ae_q (rL_q ho32 (bZ_q m3_q))
    replace BK352 := Ae_q (bB_q (g := gb352) (o := .cells #[.int .i64 a1_0, .slice A1_1 l1_1.length c1_1] 43 (0, 0)) (bup BK352.out) hb)
    replace HB := Ae_q (bT_q m3_q hb)
    clear hb ho32
    refine hK.out _ _ ⟨(bC_q BK352.out 0).trans rfl, (bC_q BK352.out 1).trans rfl⟩ (fun hHeld => ?_)
    clear hK K
    refine nJ_q ?_
    refine one_ (i := 10) (N := some 30) #[true, true, true, true, true, true, true, true, true, true, true, true, true, false, false, false] rfl rfl (one_of HT_.out m7_q) (by decide) (fun K hK => ?_)
    refine goes_ Try.func66 m7_q rfl #[.slice A2 l2.length c2] (by rfl) rfl rfl m1_q ?_
    with_reducible refine (slices_Clone_int_int.calls _ _ l2 t358 _ ?side1 ?side2 A13.out).mono ?_
    (case side1 => exact m28_q)
    (case side2 => exact m63_q)
    rintro e w' ⟨v359, rfl, ho0, hb⟩
    refine ⟨_, rfl, ?_⟩
    have HO360 := Ae_q (rL_q (rW_q ho0 (rT_q (rup HO363.out))) (bZ_q m3_q))
    replace HO363 := Ae_q (rE_q (rup HO363.out) (rB_q ho0) hb)
    replace BK352 := Ae_q (bB_q (g := gb352) (o := .cells #[.int .i64 a1_0, .slice A1_1 l1_1.length c1_1] 43 (0, 0)) (bup BK352.out) hb)
    replace HB := Ae_q (bT_q m3_q hb)
    (try clear hb)
    (try clear hb2)
    (try clear hk)
    (try clear hi)
    (try clear ho0)
    refine hK.out _ _ ⟨(bC_q BK352.out 0).trans rfl, (bC_q BK352.out 1).trans rfl⟩ (fun hHeld => ?_)
    clear hK K
    refine nJ_q ?_
    exact norm_ m47_q (hCont (v359, v362) _ ⟨hHeld, m39_q, m40_q, (bup BK352.out), m3_q⟩)
   rintro ⟨v359, v362⟩ w34 ⟨hS_, h0_, h1_, h2_, h3_⟩
   have n0_ : Aside0 (Kd.R kI_q 3 w34 w.heap.size (fun k_ => some k_ ≠ (v362 : Value).ownBlock) v359 t358) := ⟨h0_⟩
   have n1_ : Aside0 (Kd.R kI_q 3 w34 w.heap.size (fun k_ => some k_ ≠ (v359 : Value).ownBlock) v362 y361) := ⟨h1_⟩
   have n2_ : Aside0 (w34.heap[gb352]? = some (.cells #[.int .i64 a1_0, .slice A1_1 l1_1.length c1_1] 43 (0, 0))) := ⟨h2_⟩
   have n3_ : Aside0 (Below w.heap.size w w34) := ⟨h3_⟩
   clear BK352
   clear HB
   clear h0_ h1_ h2_ h3_
   have HO360 := n0_
   have HO363 := n1_
   have BK352 := n2_
   have HB := n3_
   clear n0_ n1_ n2_ n3_
   have hHeld : w34.cell? ⟨gb352, 0, none⟩ = some (.int .i64 a1_0) ∧ w34.cell? ⟨gb352, 1, none⟩ = some (.slice A1_1 l1_1.length c1_1) := hS_
   obtain ⟨Ao36, co36, eo36⟩ := rS_q HO363.out
   (first | subst eo36 | (injection eo36 with f1_ f2_ f3_; have f4_ := f1_.symm; have f5_ := f3_.symm; clear f1_ f2_ f3_; subst f4_; subst f5_))
   refine norm_ (a' := ?_) ?_ ?_
   rotate_left
   ·simp only [putAll, Act.put, sA_q, sZ_q, sS_q]
    rfl
   refine one_ (i := 13) (N := some 33) #[true, true, true, true, true, true, true, true, true, true, true, true, true, true, false, false] rfl rfl (one_of HT_.out m7_q) (by decide) (fun K hK => ?_)
   refine rP_q kI_q (w0 := w) w.heap.size (by rfl) (.tmp 30) (.tmp 32) 23 3 (.int .i64 0) 8 rfl Try.underlying23 info3 rfl (by decide) (by omega) v359 t358 y361 _ _ _ (fun k_ => some k_ ≠ (.slice Ao36 y361.length co36 : Value).ownBlock) (fun _ => False) rfl rfl ?aO ?aR (fun _ _ h => h) (fun _ h => h.elim) ?aF ?aB ?aS ?aL ?_
   (case aR => exact m126_q)
   (case aB => exact m3_q)
   (case aF => exact m105_q)
   (case aO => exact (rup HO360.out))
   (case aS => exact (bZ_q m3_q))
   (case aL => have := LMc14.out; omega)
   intro v365 w35 ho hb hg hat
   rw [← Ny364.out] at ho
   replace BK352 := Ae_q (bG_q (g := gb352) (o := .cells #[.int .i64 a1_0, .slice A1_1 l1_1.length c1_1] 43 (0, 0)) (bup BK352.out) hg (Kd.R_ne HO360.out BK352.out (by decide)))
   replace HO363 := Ae_q (rF_q (ok := (fun _ => True)) m61_q hg hat)
   replace HB := Ae_q (hb)
   have HO366 := Ae_q (ho)
   clear HO360
   clear ho hb hg hat
   obtain ⟨Ao37, co37, eo37⟩ := rS_q HO366.out
   (first | subst eo37 | (injection eo37 with f1_ f2_ f3_; have f4_ := f1_.symm; have f5_ := f3_.symm; clear f1_ f2_ f3_; subst f4_; subst f5_))
   refine hK.out _ _ ⟨(bC_q BK352.out 0).trans rfl, (bC_q BK352.out 1).trans rfl⟩ (fun hHeld => ?_)
   clear hK K
   refine nJ_q ?_
   refine one_ (i := 14) (N := some 34) #[true, true, true, true, true, true, true, true, true, true, true, true, true, true, true, false] rfl rfl (one_of HT_.out m7_q) (by decide) (fun K hK => ?_)
   refine goes_ Try.func57 m7_q rfl #[.slice A0 y354.length c0, .agg #[.int .i64 a1_0, .slice A1_1 l1_1.length c1_1], .slice Ao37 y364.length co37] (by rfl) rfl rfl m1_q ?_
   with_reducible refine (impl_planFits.calls k1 _ _ y354 a1_0 _ _ l1_1 _ _ y364 false _ ?side1 ?side2 ?side3 ?side4 ?side5 ?side6 A15.out).mono ?_
   (case side1 => exact m121_q)
   (case side2 => exact HC357.out)
   (case side3 => exact m32_q)
   (case side4 => exact m64_q)
   (case side5 => exact m127_q)
   (case side6 => exact (rR_q HO366.out).2.1)
   rintro e w' ⟨rfl, hb⟩
   refine ⟨_, rfl, ?_⟩
   replace HO363 := Ae_q (rO_q (rup HO363.out) hb)
   replace HO366 := Ae_q (rO_q (rup HO366.out) hb)
   replace BK352 := Ae_q (bB_q (g := gb352) (o := .cells #[.int .i64 a1_0, .slice A1_1 l1_1.length c1_1] 43 (0, 0)) (bup BK352.out) hb)
   replace HB := Ae_q (bT_q m3_q hb)
   (try clear hb)
   (try clear hb2)
   (try clear hk)
   (try clear hi)
   refine hK.out _ _ ⟨(bC_q BK352.out 0).trans rfl, (bC_q BK352.out 1).trans rfl⟩ (fun hHeld => ?_)
   clear hK K
   refine nJ_q ?_
   refine pJ HT_ 15 35 rfl rfl ?_
   refine done_ (done_of HT_.out m7_q) ?_
   try go_wp2
   go_roundg k1
   case measure => have := HK1.out; omega
   case rel => exact ⟨(wrap64 (x12_1 + 1)), m5_q, H', ⟨m74_q⟩, ⟨bup BK352.out⟩, ⟨m3_q⟩⟩

end Go.Proofs.Ytfnpiacmlahegaa.PRp
