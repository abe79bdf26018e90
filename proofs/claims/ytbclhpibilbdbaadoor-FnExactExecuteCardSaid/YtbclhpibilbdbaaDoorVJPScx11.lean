import Derived.Test.YtbclhpibilbdbaaDoorVJPScx0
import Derived.Test.YtbclhpibilbdbaaDoorVJPScx9
import Derived.Lib.SliceRun
namespace Go.Proofs.YtbclhpibilbdbaaDoor.PSc
open Go.RowKit Go.Proofs.YtbclhpibilbdbaaDoorW.PrintWords Go.Proofs.YtbclhpibilbdbaaDoorW.PrintLast Go.Proofs.YtbclhpibilbdbaaDoorW.PrintMore
attribute [local go_sem] max2_int min2_int max_two min_two max_three min_three max_four min_four
set_option linter.unusedVariables false
set_option linter.unusedSimpArgs false

-- HANDIMPORT Derived.Lib.SliceRun
def impl_Lot_47.f (l0 : List (S49)) : Option ((List (S49))) := (some (([] : List (S49)) : List (S49))).bind fun y163 => (if y163.length + l0.length < 5864062014805 then (some (y163 ++ l0)) else (none))
set_option maxHeartbeats 8000000 in
set_option maxRecDepth 100000 in
theorem impl_Lot_47.calls (A0 : Option Addr) (c0 : Nat) (l0 : List (S49)) (r : List (S49)) (w : World) (hr0 : Kd.C k49 w A0 l0.length l0) (hc0 : l0.length ≤ c0) (h : impl_Lot_47.f l0 = some r) :
    Calls Tryd.prog 47 #[.slice A0 l0.length c0] w fun e w' => ∃ v0_ : Value, e = .returned (v0_) ∧ Kd.R k49 49 w' w.heap.size (fun _ => True) v0_ r ∧ Below w.heap.size w w' := by
 cases A0 with
 | none =>
  have hl0 : l0 = [] := by
   obtain ⟨h1_, _, h3_⟩ := hr0
   by_cases hz_ : 0 < l0.length
   ·obtain ⟨ad_, e_, _⟩ := h3_ hz_; cases e_
   exact List.eq_nil_of_length_eq_zero (by omega)
  subst hl0
  clear hr0
  obtain rfl : r = [] := by simpa [impl_Lot_47.f] using h.symm
  have q32 : ∀ (w : World) (a : Option Addr) (n c n' c' : Nat), (Go.binOp .eql 32 (.slice a n c) (.slice none n' c')).run Tryd.prog w = .ok (.bool a.isNone) w := fun w a n c n' c' => Lib.run_eql_slice_nil w _ _ a n c n' c' Tryd.underlying32
  go_enter Tryd.func47, Tryd.ntmps47
  go_wp2
  go_ret
  exact ⟨_, rfl, Kd.R_nil _ _ _ _ _, bR_q _ _⟩
 | some ad0 =>
  have HR0 := Ae_q hr0
  have HC0 := Ae_q hc0
  clear hr0 hc0
  have HB := Ae_q (bR_q w.heap.size w)
  have H : ((some (([] : List (S49)) : List (S49))).bind fun y163 => (if y163.length + l0.length < 5864062014805 then (some (y163 ++ l0)) else (none))) = some r := h
  clear h
  obtain ⟨y163, hy163⟩ : ∃ y_ : List (S49), y_ = (([] : List (S49))) := ⟨_, rfl⟩
  replace H : (if y163.length + l0.length < 5864062014805 then (some (y163 ++ l0)) else (none)) = some r := by first | (rw [hy163]; with_reducible exact H) | (have H2_ := (oS_q _ _).symm.trans H; rw [hy163]; with_reducible exact H2_) | (have H2_ := (oS_q _ _).symm.trans H; with_reducible exact H2_) | with_reducible exact H | (rw [hy163]; exact H) | exact H
  have Ny163 := Ae_q hy163
  clear hy163
  by_cases c2 : y163.length + l0.length < 5864062014805
  rotate_left
  ·rw [if_neg c2] at H
   exact absurd H (by simp)
  rw [if_pos c2] at H
  have LMc2 := Ae_q c2
  clear c2
  obtain ⟨y166, hy166⟩ : ∃ y_ : List (S49), y_ = (y163 ++ l0) := ⟨_, rfl⟩
  replace H : (some y166) = some r := by first | (rw [hy166]; with_reducible exact H) | (have H2_ := (oS_q _ _).symm.trans H; rw [hy166]; with_reducible exact H2_) | (have H2_ := (oS_q _ _).symm.trans H; with_reducible exact H2_) | with_reducible exact H | (rw [hy166]; exact H) | exact H
  have Ny166 := Ae_q hy166
  clear hy166
  obtain rfl := oI_q H
  have q32 : ∀ (w : World) (a : Option Addr) (n c n' c' : Nat), (Go.binOp .eql 32 (.slice a n c) (.slice none n' c')).run Tryd.prog w = .ok (.bool a.isNone) w := fun w a n c n' c' => Lib.run_eql_slice_nil w _ _ a n c n' c' Tryd.underlying32
  go_enter Tryd.func47, Tryd.ntmps47
  go_wp2_with (first | ((with_reducible refine gD_q (N := 5) rfl ?_); refine Kd.R_lit k49 _ 49 ?hg (N := 5) ?hd (xs := ([] : List (S49))) (inner := []) (ok := fun _ => True) (okp := fun _ => True) ?hr ?hp (fun _ hk => hk) trivial (bR_q _ _) (nR_q _) (by simp) ?_; (case hd => rfl); (case hg => rfl); (case hr => exact m10_q); (case hp => exact m46_q); intro v164 w3 ho4 hb hg_ hnew_; clear hg_ hnew_; (first | rw [← Ny163.out] at ho4 | (simp only [Int.reduceToNat] at ho4; rw [← Ny163.out] at ho4)); have HO165 := Ae_q (rL_q ho4 (bZ_q (bel HB.out))); replace HB := Ae_q (bT_q (bel HB.out) hb); clear hb ho4) | ((with_reducible refine gate_builtin (b := .append) (xs := #[.tmp 5, .tmp 6]) rfl ?_); at_builtin; refine Kd.R_append_rows k49 (w0 := w) w.heap.size rfl (.tmp 5) (.tmp 6) 32 49 (.agg #[(.int .i64 0), (.int .i64 0), (.int .i64 0)]) 24 rfl Tryd.underlying32 info49 rfl (by decide) (by omega) v164 y163 l0 _ _ _ (fun _ => True) (fun _ => False) rfl rfl ?aO ?aR (fun _ _ h => h) (fun _ h => h.elim) ?aF ?aB ?aS ?aL ?_; (case aR => exact m37_q); (case aB => exact m98_q); (case aF => exact (fun _ _ => trivial)); (case aO => exact (rup HO165.out)); (case aS => exact m95_q); (case aL => have := LMc2.out; omega); intro v167 w5 ho hb hg hat; rw [← Ny166.out] at ho; replace HB := Ae_q (hb); have HO168 := Ae_q (ho); clear HO165; clear ho hb hg hat))
  go_ret
  exact ⟨_, m3_q, rup HO168.out, bel HB.out⟩
 
def impl_Lot_48.l0 : Nat → List (S49) → Int → Int → Int → Int → Int → Int → Option (Int × Bool)
 | 0, _, _, _, _, _, _, _ => none
 | k + 1, x0, x8, x9, x10, x170000, x170001, x170002 => if x9 < x10 then (if 0 ≤ (wrap64 ((IntKind.u64.wrap (wrap64 (x9 + x10))) / 2)) then (if (wrap64 ((IntKind.u64.wrap (wrap64 (x9 + x10))) / 2)) < (x0.length : Int) then ((impl_compareLots.f k ((rd_T49 x0 (wrap64 ((IntKind.u64.wrap (wrap64 (x9 + x10))) / 2))).f0) ((rd_T49 x0 (wrap64 ((IntKind.u64.wrap (wrap64 (x9 + x10))) / 2))).f1) ((rd_T49 x0 (wrap64 ((IntKind.u64.wrap (wrap64 (x9 + x10))) / 2))).f2) x170000 x170001 x170002).bind fun t171 => (if t171 < 0 then (impl_Lot_48.l0 k x0 x8 (wrap64 ((wrap64 ((IntKind.u64.wrap (wrap64 (x9 + x10))) / 2)) + 1)) x10 x170000 x170001 x170002) else (impl_Lot_48.l0 k x0 x8 x9 (wrap64 ((IntKind.u64.wrap (wrap64 (x9 + x10))) / 2)) x170000 x170001 x170002))) else (none)) else (none)) else (if x9 < x8 then (if 0 ≤ x9 then (if x9 < (x0.length : Int) then ((impl_compareLots.f k ((rd_T49 x0 x9).f0) ((rd_T49 x0 x9).f1) ((rd_T49 x0 x9).f2) x170000 x170001 x170002).bind fun t173 => (some (x9, (t173 == 0)))) else (none)) else (none)) else (some (x9, false)))
def impl_Lot_48.f (k : Nat) (l0 : List (S49)) (a1_0 : Int) (a1_1 : Int) (a1_2 : Int) (a2 : Int) : Option (Int × Bool) := impl_Lot_48.l0 k l0 (l0.length : Int) 0 (l0.length : Int) a1_0 a1_1 a1_2
def impl_Lot_48.T5 : Bool × List (List Nat × List Nat) := (true, [([], []), ([], []), ([], []), ([1, 2], [1, 2]), ([3], [3]), ([], []), ([0, 4, 5], [0, 4, 5]), ([6], [6])])
def impl_Lot_48.B5 : List Nat := [0, 0, 0, 6, 14, 0, 63, 127]
theorem impl_Lot_48.tab5 : rtab .any (opsOf Tryd.f48 5) = impl_Lot_48.T5 := by kernel_rfl
theorem impl_Lot_48.bits5 : waitsOk impl_Lot_48.T5.2 impl_Lot_48.B5 = true := by kernel_rfl
def impl_Lot_48.T8 : Bool × List (List Nat × List Nat) := (true, [([], []), ([], []), ([], []), ([1, 2], [1, 2]), ([3], [3]), ([4], [4]), ([4], [4]), ([4], [4]), ([6, 7, 4], [4, 6, 7]), ([8, 4], [4, 8]), ([4], [4]), ([5, 9, 10, 4, 4], [4, 5, 9, 10]), ([11, 4], [4, 11]), ([4, 12], [4, 12]), ([0, 11, 0], [0]), ([13, 14, 0, 1, 2, 3, 4, 5, 6, 7, 8, 9, 10, 11, 12, 13, 14], [13])])
def impl_Lot_48.B8 : List Nat := [0, 0, 0, 6, 14, 30, 30, 30, 222, 478, 30, 2046, 4094, 8190, 4095, 32767]
theorem impl_Lot_48.tab8 : rtab .any (opsOf Tryd.f48 8) = impl_Lot_48.T8 := by kernel_rfl
theorem impl_Lot_48.bits8 : waitsOk impl_Lot_48.T8.2 impl_Lot_48.B8 = true := by kernel_rfl
theorem goesV_ {P : Program} {ops : Array Oper} {Q : Exit → Act → World → Prop} {oi : Oper} {N : Option Tmp} {a : Act} {w : World} {K : Act → World → Prop} {c : Operand} {caps : Array Value} {f : FuncId} {fn : Func} {as_ : Array Operand} {ts : Array TypeId} (hf : P.funcs[f]? = some fn) (hname : (fn.name == "runtime.NumGoroutine") = false) (hb : fn.body.isSome = true) (args : Array Value)
    (hw : Region.wanted oi (yielded ops a.tmps) = true) (hN : oi.dst = N) (hop : oi.op = .call { callee := .value c, args := as_, argTypes := ts }) (hval : a.eval c = .func (.func f) #[] caps) (hargs : as_.map a.eval = args) {all_ : Array Value} (hall : args ++ caps = all_)
    (h : Calls P f all_ w fun e w' => ∃ v, e = .returned v ∧ K (a.put N v) w') : if Region.wanted oi (yielded ops a.tmps) = true then Oper.wp P oi a w K Q else K (a.put N undef) w := by
 subst hall
 refine call_ f (args ++ caps) hw hN ?_ h
 have he := enters_ hf hname hb (args ++ caps) w
 unfold execOp
 simp [hop, resolve, hval, Deferred.ofValue, invoke, hargs, he]
set_option maxHeartbeats 8000000 in
set_option maxRecDepth 100000 in
theorem impl_Lot_48.calls (k : Nat) (A0 : Option Addr) (c0 : Nat) (l0 : List (S49)) (a1_0 : Int) (a1_1 : Int) (a1_2 : Int) (a2 : Int) (r1 : Int) (r2 : Bool) (w : World) (hr0 : Kd.C k49 w A0 l0.length l0) (hc0 : l0.length ≤ c0) (h : impl_Lot_48.f k l0 a1_0 a1_1 a1_2 a2 = some (r1, r2)) :
    Calls Tryd.prog 48 #[.slice A0 l0.length c0, .agg #[.int .i64 a1_0, .int .i64 a1_1, .int .i64 a1_2], .func (.func 49) #[] #[]] w fun e w' => e = .returned (.tuple #[.int .i64 r1, .bool r2]) ∧ Below w.heap.size w w' := by
 have hu49 := Tryd.underlying49
 have HR0 := Ae_q hr0
 have HC0 := Ae_q hc0
 clear hr0 hc0
 have HB := Ae_q (bR_q w.heap.size w)
 have H : (impl_Lot_48.l0 k l0 (l0.length : Int) 0 (l0.length : Int) a1_0 a1_1 a1_2) = some (r1, r2) := h
 clear h
 have H' := Ae_q H
 clear H
 go_enter Tryd.func48, Tryd.ntmps48
 go_wp2_with (first | ((with_reducible refine gD_q (N := 4) rfl ?_); refine bE_q ?hg (N := 4) ?hd (cs := #[.int .i64 a1_0, .int .i64 a1_1, .int .i64 a1_2]) (t := 49) ?hr ?_; (case hd => rfl); (case hg => rfl); (case hr => exact m10_q); intro gb169 hg w' hbox hb; have BK169 := Ae_q (hbox); have GW169 := Ae_q ((by rw [hg]; exact (bZ_q (bel HB.out)) : w.heap.size ≤ gb169)); have GE169 := Ae_q ((by rw [hg]; exact (bZ_q (bel HB.out)) : w.heap.size ≤ gb169)); replace HB := Ae_q (bT_q (bel HB.out) hb); clear hb hbox hg))
 go_loopg [9, 10] k (fun kq v9 v10 w' => ∃ (x9_1 : Int) (x10_1 : Int), v9 = .int .i64 x9_1 ∧ v10 = .int .i64 x10_1 ∧ Aside0 (impl_Lot_48.l0 kq l0 (l0.length : Int) x9_1 x10_1 a1_0 a1_1 a1_2 = some (r1, r2)) ∧ Aside0 (kq ≤ k) ∧ Aside0 (w'.heap[gb169]? = some (.cells #[.int .i64 a1_0, .int .i64 a1_1, .int .i64 a1_2] 49 (0, 0))) ∧ Aside0 (Below w.heap.size w w'))
 case atStart => exact ⟨(0), ((l0.length : Int)), m2_q, m2_q, H', ⟨nR_q _⟩, ⟨bup BK169.out⟩, ⟨m28_q⟩⟩
 case round =>
  clear H'
  try clear p2
  try clear c4
  obtain ⟨x9_1, x10_1, rfl, rfl, HA, HK1, BK169, HB⟩ := hrel
  cases gk with
  | zero => exact absurd HA.out (by simp [impl_Lot_48.l0])
  | succ k1 =>
   have H := HA.out
   clear HA
   simp only [impl_Lot_48.l0] at H
   by_cases c5 : x9_1 < x10_1
   ·rw [if_pos c5] at H
    have c5b0 : decide (x9_1 < x10_1) = true := dT_q c5
    clear c5
    obtain ⟨ji6, hji6⟩ : ∃ j_ : Int, (wrap64 ((IntKind.u64.wrap (wrap64 (x9_1 + x10_1))) / 2)) = j_ := ⟨_, rfl⟩
    replace H : (if 0 ≤ (ji6) then (if (ji6) < (l0.length : Int) then ((impl_compareLots.f k1 ((rd_T49 l0 (ji6)).f0) ((rd_T49 l0 (ji6)).f1) ((rd_T49 l0 (ji6)).f2) a1_0 a1_1 a1_2).bind fun t171 => (if t171 < 0 then (impl_Lot_48.l0 k1 l0 (l0.length : Int) (wrap64 ((ji6) + 1)) x10_1 a1_0 a1_1 a1_2) else (impl_Lot_48.l0 k1 l0 (l0.length : Int) x9_1 ji6 a1_0 a1_1 a1_2))) else (none)) else (none)) = some (r1, r2) := by first | (rw [hji6] at H; exact H) | (simp only [hji6] at H ⊢; exact H)
    have hji6w : (IntKind.i64.wrap ((IntKind.u64.wrap (wrap64 (x9_1 + x10_1))) / 2)) = ji6 := (i64_w _).trans hji6
    by_cases c7 : 0 ≤ (ji6)
    rotate_left
    ·rw [if_neg c7] at H
     exact absurd H (by simp)
    rw [if_pos c7] at H
    have c7b0 : decide (0 ≤ (ji6)) = true := dT_q c7
    clear c7
    by_cases c8 : (ji6) < (l0.length : Int)
    rotate_left
    ·rw [if_neg c8] at H
     exact absurd H (by simp)
    rw [if_pos c8] at H
    have c8b0 : decide ((ji6) < (l0.length : Int)) = true := dT_q c8
    clear c8
    replace H := oB_q.mp H
    obtain ⟨t171, A90, H⟩ := H
    replace H : (if t171 < 0 then (impl_Lot_48.l0 k1 l0 (l0.length : Int) (wrap64 ((ji6) + 1)) x10_1 a1_0 a1_1 a1_2) else (impl_Lot_48.l0 k1 l0 (l0.length : Int) x9_1 ji6 a1_0 a1_1 a1_2)) = some (r1, r2) := H
    have A9 := Ae_q A90
    clear A90
    by_cases c10 : t171 < 0
    ·rw [if_pos c10] at H
     have c10b0 : decide (t171 < 0) = true := dT_q c10
     clear c10
     have H' := Ae_q H
     clear H
     try go_wp2
     replace BK169 := Ae_q (bW_q BK169.out)
     replace HB := Ae_q (bD_q HB.out)
     have p170 : 0 ≤ ((ji6) : Int) := oD_q (by assumption)
     have q170 : (ji6) < (l0.length : Int) := oD_q (by assumption)
     obtain ⟨ad170, e170, hx170_0, hx170_1, hx170_2⟩ := at_T49 HR0.out (ji6) p170 q170
     have hw170_2 := hx170_2
     have hw170_1 := hx170_1
     have hw170_0 := hx170_0
     cases e170
     replace hx170_0 := cel HB.out hx170_0
     replace hx170_1 := cel HB.out hx170_1
     replace hx170_2 := cel HB.out hx170_2
     replace p170 := eq_true p170
     replace q170 := eq_true q170
     refine start_ (n := 8) (S := fun w' => w'.cell? ⟨gb169, 0, none⟩ = some (.int .i64 a1_0) ∧ w'.cell? ⟨gb169, 1, none⟩ = some (.int .i64 a1_1) ∧ w'.cell? ⟨gb169, 2, none⟩ = some (.int .i64 a1_2) ∧ w'.cell? (ad170.add (((ji6)).toNat * 3)) = some (.int .i64 ((rd_T49 l0 (ji6)).f0)) ∧ w'.cell? ⟨(ad170.add (((ji6)).toNat * 3)).block, (ad170.add (((ji6)).toNat * 3)).off + 1, none⟩ = some (.int .i64 ((rd_T49 l0 (ji6)).f1)) ∧ w'.cell? ⟨(ad170.add (((ji6)).toNat * 3)).block, (ad170.add (((ji6)).toNat * 3)).off + 2, none⟩ = some (.int .i64 ((rd_T49 l0 (ji6)).f2))) (ds := []) #[false, false, false, false, false, false, false, false] m6_q rfl rfl ⟨(bC_q BK169.out 0).trans rfl, (bC_q BK169.out 1).trans rfl, (bC_q BK169.out 2).trans rfl, (cel HB.out hw170_0), (cel HB.out hw170_1), (cel HB.out hw170_2)⟩ (fun hHeld => ?_); refine with_tabW impl_Lot_48.tab5 impl_Lot_48.bits5 (fun HT_ HW_ => ?_)
     generalize wr.drew = w11 at BK169 HB hx170_0 hx170_1 hx170_2 hHeld ⊢
     refine pJ HT_ 0 24 rfl rfl ?_
     refine pJ HT_ 1 25 rfl rfl ?_
     refine pJ HT_ 2 26 rfl rfl ?_
     refine pJ HT_ 3 27 rfl rfl ?_
     refine take_ (i := 4) (N := some 28) (v := ?_) (a' := ?_) #[true, true, true, true, true, false, false, false] rfl rfl (take_ofW HT_.out HW_.out m6_q) (fun _ _ _ h => h) (Or.inl ⟨by rfl, ?_⟩) hHeld ?_ ?_
     rotate_left
     ·rintro w' ⟨s0, s1, s2, s3, s4, s5⟩
      go_simp
      with_reducible rfl
     rotate_left
     ·simp only [pS_q]
      rfl
     refine take_ (i := 5) (N := some 29) (v := ?_) (a' := ?_) #[true, true, true, true, true, true, false, false] rfl rfl (take_ofW HT_.out HW_.out m6_q) (fun _ _ _ h => h) (Or.inl ⟨by rfl, ?_⟩) hHeld ?_ ?_
     rotate_left
     ·rintro w' ⟨s0, s1, s2, s3, s4, s5⟩
      go_simp
      with_reducible rfl
     rotate_left
     ·simp only [pS_q]
      rfl
     refine one_ (i := 6) (N := some 30) #[true, true, true, true, true, true, true, false] rfl rfl (one_of HT_.out m6_q) (by decide) (fun K hK => ?_)
     refine goesV_ (caps := #[]) (all_ := #[.agg #[.int .i64 ((rd_T49 l0 (ji6)).f0), .int .i64 ((rd_T49 l0 (ji6)).f1), .int .i64 ((rd_T49 l0 (ji6)).f2)], .agg #[.int .i64 a1_0, .int .i64 a1_1, .int .i64 a1_2]]) Tryd.func49 m6_q rfl #[.agg #[.int .i64 ((rd_T49 l0 (ji6)).f0), .int .i64 ((rd_T49 l0 (ji6)).f1), .int .i64 ((rd_T49 l0 (ji6)).f2)], .agg #[.int .i64 a1_0, .int .i64 a1_1, .int .i64 a1_2]] (by rfl) rfl rfl rfl m68_q rfl ?_
     with_reducible refine (impl_compareLots.calls k1 ((rd_T49 l0 (ji6)).f0) ((rd_T49 l0 (ji6)).f1) ((rd_T49 l0 (ji6)).f2) a1_0 a1_1 a1_2 t171 _ A9.out).mono ?_
     rintro e w' ⟨rfl, hb⟩
     refine ⟨_, rfl, ?_⟩
     replace BK169 := Ae_q (bB_q (g := gb169) (o := .cells #[.int .i64 a1_0, .int .i64 a1_1, .int .i64 a1_2] 49 (0, 0)) (bup BK169.out) hb)
     replace HB := Ae_q (bT_q m28_q hb)
     (try clear hb)
     (try clear hb2)
     (try clear hk)
     (try clear hi)
     refine hK.out _ _ ⟨(bC_q BK169.out 0).trans rfl, (bC_q BK169.out 1).trans rfl, (bC_q BK169.out 2).trans rfl, (cel HB.out hw170_0), (cel HB.out hw170_1), (cel HB.out hw170_2)⟩ (fun hHeld => ?_)
     clear hK K
     refine nJ_q ?_
     refine pJ HT_ 7 31 rfl rfl ?_
     refine done_ (done_of HT_.out m6_q) ?_
     try go_wp2
     go_roundg k1
     case measure => have := HK1.out; omega
     case rel => exact ⟨(wrap64 ((ji6) + 1)), (x10_1), m84_q, m2_q, H', ⟨m38_q⟩, ⟨bup BK169.out⟩, ⟨m28_q⟩⟩
    rw [if_neg c10] at H
    have c10b0 : decide (t171 < 0) = false := dF_q c10
    clear c10
    have H' := Ae_q H
    clear H
    try go_wp2
    replace BK169 := Ae_q (bW_q BK169.out)
    replace HB := Ae_q (bD_q HB.out)
    have p170 : 0 ≤ ((ji6) : Int) := oD_q (by assumption)
    have q170 : (ji6) < (l0.length : Int) := oD_q (by assumption)
    obtain ⟨ad170, e170, hx170_0, hx170_1, hx170_2⟩ := at_T49 HR0.out (ji6) p170 q170
    have hw170_2 := hx170_2
    have hw170_1 := hx170_1
    have hw170_0 := hx170_0
    cases e170
    replace hx170_0 := cel HB.out hx170_0
    replace hx170_1 := cel HB.out hx170_1
    replace hx170_2 := cel HB.out hx170_2
    replace p170 := eq_true p170
    replace q170 := eq_true q170
    refine start_ (n := 8) (S := fun w' => w'.cell? ⟨gb169, 0, none⟩ = some (.int .i64 a1_0) ∧ w'.cell? ⟨gb169, 1, none⟩ = some (.int .i64 a1_1) ∧ w'.cell? ⟨gb169, 2, none⟩ = some (.int .i64 a1_2) ∧ w'.cell? (ad170.add (((ji6)).toNat * 3)) = some (.int .i64 ((rd_T49 l0 (ji6)).f0)) ∧ w'.cell? ⟨(ad170.add (((ji6)).toNat * 3)).block, (ad170.add (((ji6)).toNat * 3)).off + 1, none⟩ = some (.int .i64 ((rd_T49 l0 (ji6)).f1)) ∧ w'.cell? ⟨(ad170.add (((ji6)).toNat * 3)).block, (ad170.add (((ji6)).toNat * 3)).off + 2, none⟩ = some (.int .i64 ((rd_T49 l0 (ji6)).f2))) (ds := []) #[false, false, false, false, false, false, false, false] m6_q rfl rfl ⟨(bC_q BK169.out 0).trans rfl, (bC_q BK169.out 1).trans rfl, (bC_q BK169.out 2).trans rfl, (cel HB.out hw170_0), (cel HB.out hw170_1), (cel HB.out hw170_2)⟩ (fun hHeld => ?_); refine with_tabW impl_Lot_48.tab5 impl_Lot_48.bits5 (fun HT_ HW_ => ?_)
    generalize wr.drew = w13 at BK169 HB hx170_0 hx170_1 hx170_2 hHeld ⊢
    refine pJ HT_ 0 24 rfl rfl ?_
    refine pJ HT_ 1 25 rfl rfl ?_
    refine pJ HT_ 2 26 rfl rfl ?_
    refine pJ HT_ 3 27 rfl rfl ?_
    refine take_ (i := 4) (N := some 28) (v := ?_) (a' := ?_) #[true, true, true, true, true, false, false, false] rfl rfl (take_ofW HT_.out HW_.out m6_q) (fun _ _ _ h => h) (Or.inl ⟨by rfl, ?_⟩) hHeld ?_ ?_
    rotate_left
    ·rintro w' ⟨s0, s1, s2, s3, s4, s5⟩
     go_simp
     with_reducible rfl
    rotate_left
    ·simp only [pS_q]
     rfl
    refine take_ (i := 5) (N := some 29) (v := ?_) (a' := ?_) #[true, true, true, true, true, true, false, false] rfl rfl (take_ofW HT_.out HW_.out m6_q) (fun _ _ _ h => h) (Or.inl ⟨by rfl, ?_⟩) hHeld ?_ ?_
    rotate_left
    ·rintro w' ⟨s0, s1, s2, s3, s4, s5⟩
     go_simp
     with_reducible rfl
    rotate_left
    ·simp only [pS_q]
     rfl
    refine one_ (i := 6) (N := some 30) #[true, true, true, true, true, true, true, false] rfl rfl (one_of HT_.out m6_q) (by decide) (fun K hK => ?_)
    refine goesV_ (caps := #[]) (all_ := #[.agg #[.int .i64 ((rd_T49 l0 (ji6)).f0), .int .i64 ((rd_T49 l0 (ji6)).f1), .int .i64 ((rd_T49 l0 (ji6)).f2)], .agg #[.int .i64 a1_0, .int .i64 a1_1, .int .i64 a1_2]]) Tryd.func49 m6_q rfl #[.agg #[.int .i64 ((rd_T49 l0 (ji6)).f0), .int .i64 ((rd_T49 l0 (ji6)).f1), .int .i64 ((rd_T49 l0 (ji6)).f2)], .agg #[.int .i64 a1_0, .int .i64 a1_1, .int .i64 a1_2]] (by rfl) rfl rfl rfl m68_q rfl ?_
    with_reducible refine (impl_compareLots.calls k1 ((rd_T49 l0 (ji6)).f0) ((rd_T49 l0 (ji6)).f1) ((rd_T49 l0 (ji6)).f2) a1_0 a1_1 a1_2 t171 _ A9.out).mono ?_
    rintro e w' ⟨rfl, hb⟩
    refine ⟨_, rfl, ?_⟩
    replace BK169 := Ae_q (bB_q (g := gb169) (o := .cells #[.int .i64 a1_0, .int .i64 a1_1, .int .i64 a1_2] 49 (0, 0)) (bup BK169.out) hb)
    replace HB := Ae_q (bT_q m28_q hb)
    (try clear hb)
    (try clear hb2)
    (try clear hk)
    (try clear hi)
    refine hK.out _ _ ⟨(bC_q BK169.out 0).trans rfl, (bC_q BK169.out 1).trans rfl, (bC_q BK169.out 2).trans rfl, (cel HB.out hw170_0), (cel HB.out hw170_1), (cel HB.out hw170_2)⟩ (fun hHeld => ?_)
    clear hK K
    refine nJ_q ?_
    refine pJ HT_ 7 31 rfl rfl ?_
    refine done_ (done_of HT_.out m6_q) ?_
    try go_wp2
    go_roundg k1
    case measure => have := HK1.out; omega
    case rel => exact ⟨(x9_1), (ji6), m2_q, m84_q, H', ⟨m38_q⟩, ⟨bup BK169.out⟩, ⟨m28_q⟩⟩
   rw [if_neg c5] at H
   have c5b0 : decide (x9_1 < x10_1) = false := dF_q c5
   clear c5
   by_cases c15 : x9_1 < (l0.length : Int)
   rotate_left
   ·rw [if_neg c15] at H
    have c15b0 : decide (x9_1 < (l0.length : Int)) = false := dF_q c15
    clear c15
    simp only [oE_q, pE_q] at H
    obtain ⟨rfl, rfl⟩ := H
    try go_wp2
    replace BK169 := Ae_q (bW_q BK169.out)
    replace HB := Ae_q (bD_q HB.out)
    refine start_ (n := 16) (S := fun w' => True) (ds := []) #[false, false, false, false, false, false, false, false, false, false, false, false, false, false, false, false] m6_q rfl rfl trivial (fun hHeld => ?_); refine with_tabW impl_Lot_48.tab8 impl_Lot_48.bits8 (fun HT_ HW_ => ?_)
    generalize wr.drew = w21 at BK169 HB hHeld ⊢
    refine pJ HT_ 0 35 rfl rfl ?_
    refine pJ HT_ 1 36 rfl rfl ?_
    refine pJ HT_ 2 37 rfl rfl ?_
    refine pJ HT_ 3 38 rfl rfl ?_
    refine pJ HT_ 4 39 rfl rfl ?_
    refine pV HT_ 5 40 rfl rfl ?_
    refine pV HT_ 6 41 rfl rfl ?_
    refine pV HT_ 7 42 rfl rfl ?_
    refine pV HT_ 8 43 rfl rfl ?_
    refine pV HT_ 9 44 rfl rfl ?_
    refine pV HT_ 10 45 rfl rfl ?_
    refine pV HT_ 11 46 rfl rfl ?_
    refine pV HT_ 12 47 rfl rfl ?_
    refine pJ HT_ 13 48 rfl rfl ?_
    refine pJ HT_ 14 6 rfl rfl ?_
    refine pJ HT_ 15 7 rfl rfl ?_
    refine done_ (done_of HT_.out m6_q) ?_
    try go_wp2
    go_ret2
    exact ⟨m3_q, m28_q⟩
   rw [if_pos c15] at H
   have c15b0 : decide (x9_1 < (l0.length : Int)) = true := dT_q c15
   clear c15
   by_cases c16 : 0 ≤ x9_1
   rotate_left
   ·rw [if_neg c16] at H
    exact absurd H (by simp)
   rw [if_pos c16] at H
   have c16b0 : decide (0 ≤ x9_1) = true := dT_q c16
   clear c16
   by_cases c17 : x9_1 < (l0.length : Int)
   rotate_left
   ·rw [if_neg c17] at H
    exact absurd H (by simp)
   rw [if_pos c17] at H
   have c17b0 : decide (x9_1 < (l0.length : Int)) = true := dT_q c17
   clear c17
   replace H := oB_q.mp H
   obtain ⟨t173, A180, H⟩ := H
   replace H : (some (x9_1, (t173 == 0))) = some (r1, r2) := H
   have A18 := Ae_q A180
   clear A180
   simp only [oE_q, pE_q] at H
   obtain ⟨rfl, rfl⟩ := H
   try go_wp2
   replace BK169 := Ae_q (bW_q BK169.out)
   replace HB := Ae_q (bD_q HB.out)
   have p172 : 0 ≤ (x9_1 : Int) := oD_q (by assumption)
   have q172 : x9_1 < (l0.length : Int) := oD_q (by assumption)
   obtain ⟨ad172, e172, hx172_0, hx172_1, hx172_2⟩ := at_T49 HR0.out x9_1 p172 q172
   have hw172_2 := hx172_2
   have hw172_1 := hx172_1
   have hw172_0 := hx172_0
   cases e172
   replace hx172_0 := cel HB.out hx172_0
   replace hx172_1 := cel HB.out hx172_1
   replace hx172_2 := cel HB.out hx172_2
   replace p172 := eq_true p172
   replace q172 := eq_true q172
   refine start_ (n := 16) (S := fun w' => w'.cell? ⟨gb169, 0, none⟩ = some (.int .i64 a1_0) ∧ w'.cell? ⟨gb169, 1, none⟩ = some (.int .i64 a1_1) ∧ w'.cell? ⟨gb169, 2, none⟩ = some (.int .i64 a1_2) ∧ w'.cell? (ad172.add ((x9_1).toNat * 3)) = some (.int .i64 ((rd_T49 l0 x9_1).f0)) ∧ w'.cell? ⟨(ad172.add ((x9_1).toNat * 3)).block, (ad172.add ((x9_1).toNat * 3)).off + 1, none⟩ = some (.int .i64 ((rd_T49 l0 x9_1).f1)) ∧ w'.cell? ⟨(ad172.add ((x9_1).toNat * 3)).block, (ad172.add ((x9_1).toNat * 3)).off + 2, none⟩ = some (.int .i64 ((rd_T49 l0 x9_1).f2))) (ds := []) #[false, false, false, false, false, false, false, false, false, false, false, false, false, false, false, false] m6_q rfl rfl ⟨(bC_q BK169.out 0).trans rfl, (bC_q BK169.out 1).trans rfl, (bC_q BK169.out 2).trans rfl, (cel HB.out hw172_0), (cel HB.out hw172_1), (cel HB.out hw172_2)⟩ (fun hHeld => ?_); refine with_tabW impl_Lot_48.tab8 impl_Lot_48.bits8 (fun HT_ HW_ => ?_)
   generalize wr.drew = w19 at BK169 HB hx172_0 hx172_1 hx172_2 hHeld ⊢
   refine pJ HT_ 0 35 rfl rfl ?_
   refine pJ HT_ 1 36 rfl rfl ?_
   refine pJ HT_ 2 37 rfl rfl ?_
   refine pJ HT_ 3 38 rfl rfl ?_
   refine pJ HT_ 4 39 rfl rfl ?_
   refine pJ HT_ 5 40 rfl rfl ?_
   refine pJ HT_ 6 41 rfl rfl ?_
   refine pJ HT_ 7 42 rfl rfl ?_
   refine pJ HT_ 8 43 rfl rfl ?_
   refine take_ (i := 9) (N := some 44) (v := ?_) (a' := ?_) #[true, true, true, true, true, true, true, true, true, true, false, false, false, false, false, false] rfl rfl (take_ofW HT_.out HW_.out m6_q) (fun _ _ _ h => h) (Or.inl ⟨by rfl, ?_⟩) hHeld ?_ ?_
   rotate_left
   ·rintro w' ⟨s0, s1, s2, s3, s4, s5⟩
    go_simp
    with_reducible rfl
   rotate_left
   ·simp only [pS_q]
    rfl
   refine take_ (i := 10) (N := some 45) (v := ?_) (a' := ?_) #[true, true, true, true, true, true, true, true, true, true, true, false, false, false, false, false] rfl rfl (take_ofW HT_.out HW_.out m6_q) (fun _ _ _ h => h) (Or.inl ⟨by rfl, ?_⟩) hHeld ?_ ?_
   rotate_left
   ·rintro w' ⟨s0, s1, s2, s3, s4, s5⟩
    go_simp
    with_reducible rfl
   rotate_left
   ·simp only [pS_q]
    rfl
   refine one_ (i := 11) (N := some 46) #[true, true, true, true, true, true, true, true, true, true, true, true, false, false, false, false] rfl rfl (one_of HT_.out m6_q) (by decide) (fun K hK => ?_)
   refine goesV_ (caps := #[]) (all_ := #[.agg #[.int .i64 ((rd_T49 l0 x9_1).f0), .int .i64 ((rd_T49 l0 x9_1).f1), .int .i64 ((rd_T49 l0 x9_1).f2)], .agg #[.int .i64 a1_0, .int .i64 a1_1, .int .i64 a1_2]]) Tryd.func49 m6_q rfl #[.agg #[.int .i64 ((rd_T49 l0 x9_1).f0), .int .i64 ((rd_T49 l0 x9_1).f1), .int .i64 ((rd_T49 l0 x9_1).f2)], .agg #[.int .i64 a1_0, .int .i64 a1_1, .int .i64 a1_2]] (by rfl) rfl rfl rfl m0_q rfl ?_
   with_reducible refine (impl_compareLots.calls k1 ((rd_T49 l0 x9_1).f0) ((rd_T49 l0 x9_1).f1) ((rd_T49 l0 x9_1).f2) a1_0 a1_1 a1_2 t173 _ A18.out).mono ?_
   rintro e w' ⟨rfl, hb⟩
   refine ⟨_, rfl, ?_⟩
   replace BK169 := Ae_q (bB_q (g := gb169) (o := .cells #[.int .i64 a1_0, .int .i64 a1_1, .int .i64 a1_2] 49 (0, 0)) (bup BK169.out) hb)
   replace HB := Ae_q (bT_q m28_q hb)
   (try clear hb)
   (try clear hb2)
   (try clear hk)
   (try clear hi)
   refine hK.out _ _ ⟨(bC_q BK169.out 0).trans rfl, (bC_q BK169.out 1).trans rfl, (bC_q BK169.out 2).trans rfl, (cel HB.out hw172_0), (cel HB.out hw172_1), (cel HB.out hw172_2)⟩ (fun hHeld => ?_)
   clear hK K
   refine nJ_q ?_
   refine pJ HT_ 12 47 rfl rfl ?_
   refine pJ HT_ 13 48 rfl rfl ?_
   refine pJ HT_ 14 6 rfl rfl ?_
   refine pJ HT_ 15 7 rfl rfl ?_
   refine done_ (done_of HT_.out m6_q) ?_
   try go_wp2
   go_ret2
   exact ⟨m3_q, m28_q⟩

-- NOT PRINTED: function 66 (impl_Lot_66)

end Go.Proofs.YtbclhpibilbdbaaDoor.PSc
