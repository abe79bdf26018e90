import Derived.Test.YtfnpiacmlahegaaVSPRpx0
import Derived.Lib.SliceRun
namespace Go.Proofs.Ytfnpiacmlahegaa.PRp
open Go.RowKit Go.Proofs.YtfnpiacmlahegaaW.PrintWords Go.Proofs.YtfnpiacmlahegaaW.PrintLast Go.Proofs.YtfnpiacmlahegaaW.PrintMore
attribute [local go_sem] max2_int min2_int max_two min_two max_three min_three max_four min_four
set_option linter.unusedVariables false
set_option linter.unusedSimpArgs false

-- HAND rounds=0 making=1
-- HANDIMPORT Derived.Lib.SliceRun
def slices_Clone_int_int.f (l0 : List Int) : Option (List Int) := (some (([] : List Int) : List Int)).bind fun y241 => (if y241.length + l0.length < 17592186044416 then (some (y241 ++ l0)) else (none))
set_option maxHeartbeats 8000000 in
set_option maxRecDepth 100000 in
theorem slices_Clone_int_int.calls (A0 : Option Addr) (c0 : Nat) (l0 : List Int) (r : List Int) (w : World) (hr0 : Kd.C kI_q w A0 l0.length l0) (hc0 : l0.length ≤ c0) (h : slices_Clone_int_int.f l0 = some r) :
    Calls Try.prog 66 #[.slice A0 l0.length c0] w fun e w' => ∃ v0_ : Value, e = .returned (v0_) ∧ Kd.R kI_q 3 w' w.heap.size (fun _ => True) v0_ r ∧ Below w.heap.size w w' := by
 cases A0 with
 | none =>
  have hl0 : l0 = [] := by
   obtain ⟨h1_, _, h3_⟩ := hr0
   by_cases hz_ : 0 < l0.length
   ·obtain ⟨ad_, e_, _⟩ := h3_ hz_; cases e_
   exact List.eq_nil_of_length_eq_zero (by omega)
  subst hl0
  clear hr0
  obtain rfl : r = [] := by simpa [slices_Clone_int_int.f] using h.symm
  have q24 : ∀ (w : World) (a : Option Addr) (n c n' c' : Nat), (Go.binOp .eql 23 (.slice a n c) (.slice none n' c')).run Try.prog w = .ok (.bool a.isNone) w := fun w a n c n' c' => Lib.run_eql_slice_nil w _ _ a n c n' c' Try.underlying23
  go_enter Try.func66, Try.ntmps66
  go_wp2
  go_ret
  exact ⟨_, rfl, Kd.R_nil _ _ _ _ _, bR_q _ _⟩
 | some ad0 =>
  have HR0 := Ae_q hr0
  have HC0 := Ae_q hc0
  clear hr0 hc0
  have HB := Ae_q (bR_q w.heap.size w)
  have H : ((some (([] : List Int) : List Int)).bind fun y241 => (if y241.length + l0.length < 17592186044416 then (some (y241 ++ l0)) else (none))) = some r := h
  clear h
  obtain ⟨y241, hy241⟩ : ∃ y_ : List Int, y_ = (([] : List Int)) := ⟨_, rfl⟩
  replace H : (if y241.length + l0.length < 17592186044416 then (some (y241 ++ l0)) else (none)) = some r := by first | (rw [hy241]; with_reducible exact H) | (have H2_ := (oS_q _ _).symm.trans H; rw [hy241]; with_reducible exact H2_) | (have H2_ := (oS_q _ _).symm.trans H; with_reducible exact H2_) | with_reducible exact H | (rw [hy241]; exact H) | exact H
  have Ny241 := Ae_q hy241
  clear hy241
  by_cases c2 : y241.length + l0.length < 17592186044416
  rotate_left
  ·rw [if_neg c2] at H
   exact absurd H (by simp)
  rw [if_pos c2] at H
  have LMc2 := Ae_q c2
  clear c2
  obtain ⟨y244, hy244⟩ : ∃ y_ : List Int, y_ = (y241 ++ l0) := ⟨_, rfl⟩
  replace H : (some y244) = some r := by first | (rw [hy244]; with_reducible exact H) | (have H2_ := (oS_q _ _).symm.trans H; rw [hy244]; with_reducible exact H2_) | (have H2_ := (oS_q _ _).symm.trans H; with_reducible exact H2_) | with_reducible exact H | (rw [hy244]; exact H) | exact H
  have Ny244 := Ae_q hy244
  clear hy244
  obtain rfl := oI_q H
  have q24 : ∀ (w : World) (a : Option Addr) (n c n' c' : Nat), (Go.binOp .eql 23 (.slice a n c) (.slice none n' c')).run Try.prog w = .ok (.bool a.isNone) w := fun w a n c n' c' => Lib.run_eql_slice_nil w _ _ a n c n' c' Try.underlying23
  go_enter Try.func66, Try.ntmps66
  go_wp2_with (first | ((with_reducible refine gD_q (N := 5) rfl ?_); refine Kd.R_lit kI_q _ 3 ?hg (N := 5) ?hd (xs := ([] : List Int)) (inner := []) (ok := fun _ => True) (okp := fun _ => True) ?hr ?hp (fun _ hk => hk) trivial (bR_q _ _) (nR_q _) (by simp) ?_; (case hd => rfl); (case hg => rfl); (case hr => exact m6_q); (case hp => exact m111_q); intro v242 w3 ho4 hb hg_ hnew_; clear hg_ hnew_; (first | rw [← Ny241.out] at ho4 | (simp only [Int.reduceToNat] at ho4; rw [← Ny241.out] at ho4)); have HO243 := Ae_q (rL_q ho4 (bZ_q (bel HB.out))); replace HB := Ae_q (bT_q (bel HB.out) hb); clear hb ho4) | ((with_reducible refine gate_builtin (b := .append) (xs := #[.tmp 5, .tmp 6]) rfl ?_); at_builtin; refine Kd.R_append_rows kI_q (w0 := w) w.heap.size rfl (.tmp 5) (.tmp 6) 23 3 (.int .i64 0) 8 rfl Try.underlying23 info3 rfl (by decide) (by omega) v242 y241 l0 _ _ _ (fun _ => True) (fun _ => False) rfl rfl ?aO ?aR (fun _ _ h => h) (fun _ h => h.elim) ?aF ?aB ?aS ?aL ?_; (case aR => exact m20_q); (case aB => exact (bel HB.out)); (case aF => exact (fun _ _ => trivial)); (case aO => exact (rup HO243.out)); (case aS => exact (bZ_q (bel HB.out))); (case aL => have := LMc2.out; omega); intro v245 w5 ho hb hg hat; rw [← Ny244.out] at ho; replace HB := Ae_q (hb); have HO246 := Ae_q (ho); clear HO243; clear ho hb hg hat))
  go_ret
  exact ⟨_, m4_q, rup HO246.out, bel HB.out⟩

end Go.Proofs.Ytfnpiacmlahegaa.PRp
