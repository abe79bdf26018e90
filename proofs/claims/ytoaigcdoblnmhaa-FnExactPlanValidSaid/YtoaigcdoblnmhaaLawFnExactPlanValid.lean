import Derived.Test.YtoaigcdoblnmhaaRows
import Derived.Test.YtoaigcdoblnmhaaVaPPnx25
import Derived.Test.YtoaigcdoblnmhaaVaT
import Derived.WalkKit
import Derived.ProofKit
import Derived.OpenShut
import Derived.ShutString
import Derived.ChangeOld
import Derived.Below
import Derived.SizedLaws
/- Written by the session's own driver (wip/tools/gprint.sh) over the kit's printing program: the machine side of a group of laws. Not trusted: the kernel checks it. -/
namespace Go.Proofs.Ytoaigcdoblnmhaa.fnExactPlanValid
open Go.ChangeShapes Go.WideShapes Go.ChangeAt Go.RowKit Go.Proofs.Ytoaigcdoblnmhaa.Op Go.Proofs.Ytoaigcdoblnmhaa.PPn Go.Proofs.YtoaigcdoblnmhaaW.PrintWords
open Go.ChangeMaps (open_string shut_string)
set_option linter.unusedVariables false
theorem own : ownKnob Try.prog.godebug = none := by kernel_rfl
theorem laidOut : laidOutB Try.prog = true := by kernel_rfl
theorem opens63 : Opens Try.prog k63 63 :=
 opens_struct (g := fun a => ⟨a.1, a.2.1, a.2.2.1, a.2.2.2⟩) (ts := [3, 3, 3, 24]) (fun _ => rfl) Try.underlying63 (by kernel_rfl) (by kernel_rfl) (by rfl) (opensL_cons (opens_int Try.underlying3) (opensL_cons (opens_int Try.underlying3) (opensL_cons (opens_int Try.underlying3) (opensL_one (opens_slice Try.underlying24 (by kernel_rfl) (opens_int Try.underlying3))))))
theorem opens36 : Opens Try.prog k36 36 :=
 opens_struct (g := fun a => ⟨a.1, a.2⟩) (ts := [3, 24]) (fun _ => rfl) Try.underlying36 (by kernel_rfl) (by kernel_rfl) (by rfl) (opensL_cons (opens_int Try.underlying3) (opensL_one (opens_slice Try.underlying24 (by kernel_rfl) (opens_int Try.underlying3))))
set_option maxRecDepth 100000 in
theorem lifted (os : Os) (started : os.Started) (H : Type) (enc : TypeId × Value → H) :
    ReturnsInHanded {} Try.checked os 4 .any (Rows.fnExactPlanValidSpec.pre6 enc Try.prog Try.f4 Rows.fnExactPlanValidRow.domain false) (Rows.fnExactPlanValidSpec.post enc Try.prog Try.f4 false true false false) := by
 refine returnsInHanded_of_change_sized (C := Try.checked) own started (by kernel_rfl) Try.func4
  (ChangeSpec.witness6 (enc := enc) (C := Try.checked) false ⟨#[], #[.slice none 0 0, (.agg #[(.int .i64 0), (.slice none 0 0)]), .slice none 0 0], []⟩ 8 (by kernel_rfl) (by kernel_rfl) (by kernel_rfl) (by kernel_rfl)) ?_
 intro W base args ds gs before hval0 hW hcnd hsz0 _
 have hsz : (DataW.weightsEach Try.prog (Try.f4.params.toList ++ Rows.fnExactPlanValidSpec.plain.varTypes Try.prog) (ds ++ gs)).all (· ≤ reachBytes) = true := hsz0
 have hval : ∀ (j : Nat) t v, Try.f4.params[j]? = some t → args[j]? = some v → Value.okWide Try.prog W .any base t v := hval0
 have hW' := hW
 obtain ⟨p, q, hA0, hV, rfl, hfz, hnd⟩ := hW
 have hA : DataW.TrodAll enc Try.prog W 0 (fun _ => true) true Try.f4.params.toList args.toList ds p := hA0
 rw [Try.params4] at hA hval hsz
 obtain ⟨v0, vs0, d0, ds0, p0, q0, hargs, rfl, rfl, h0, r0⟩ := trodAll_cons hA
 obtain ⟨v1, vs1, d1, ds1, p1, q1, rfl, rfl, rfl, h1, r1⟩ := trodAll_cons r0
 obtain ⟨v2, vs2, d2, ds2, p2, q2, rfl, rfl, rfl, h2, r2⟩ := trodAll_cons r1
 obtain ⟨rfl, rfl, rfl⟩ := trodAll_nil r2
 obtain rfl : args = #[v0, v1, v2] := by cases args; simp_all
 obtain ⟨rfl, rfl⟩ := trodVars_none hV
 obtain ⟨b0, len0, cap0, rfl⟩ := okWide_slice Try.underlying34 (hval 0 34 v0 rfl rfl)
 have k0 := h0
 have lt0 : ∀ x ∈ p0, x.block < W.heap.size := by obtain ⟨m, hm⟩ := k0; exact DataW.trod_lt m _ _ _ hm
 obtain ⟨fuel0, hf0⟩ := h0
 obtain ⟨A0, l0, c0, hcs0, hc0, hm0, hr0⟩ := opens_row Try.underlying34 (by kernel_rfl) opens63 hf0
 simp [Value.cells] at hcs0
 obtain ⟨rfl, rfl, rfl⟩ := hcs0
 have hin0_3 : ∀ x ∈ l0, x.f3.length ≤ maxLen := C_all hr0 (fun x cs hK => by obtain ⟨A3, c3, _, _, g3⟩ := k63_open hK; exact g3.2.1)
 obtain ⟨cs1, rfl, hs1⟩ := okWide_struct Try.underlying36 (hval 1 36 v1 rfl rfl)
 have k1 := h1
 have lt1 : ∀ x ∈ p1, x.block < W.heap.size := by obtain ⟨m, hm⟩ := k1; exact DataW.trod_lt m _ _ _ hm
 obtain ⟨fuel1, hf1⟩ := h1
 obtain ⟨x1, hx1⟩ := opens36 _ _ _ _ _ _ _ _ _ hf1
 obtain ⟨A1_1, c1_1, hx1', hc1_1, hr1_1⟩ := k36_open hx1
 obtain rfl : cs1 = #[.int .i64 x1.f0, .slice A1_1 x1.f1.length c1_1] := by cases cs1; simp [Value.cells] at hx1'; simp [hx1']
 obtain ⟨b2, len2, cap2, rfl⟩ := okWide_slice Try.underlying24 (hval 2 24 v2 rfl rfl)
 have k2 := h2
 have lt2 : ∀ x ∈ p2, x.block < W.heap.size := by obtain ⟨m, hm⟩ := k2; exact DataW.trod_lt m _ _ _ hm
 obtain ⟨fuel2, hf2⟩ := h2
 obtain ⟨l2, e2, hr2, hc2, hm2, hw2⟩ : ∃ l : List Int, len2 = l.length ∧ Kd.C (Kd.int .i64) W b2 l.length l ∧ l.length ≤ cap2 ∧ l.length ≤ maxLen ∧ ∀ x ∈ l, (Lit.int .i64 x).wf = true := opens_ints Try.underlying24 Try.underlying3 (by kernel_rfl) hf2
 subst e2
 clear hA0 hval0 hsz0 hsz
 obtain ⟨k, h⟩ := Pure.FnExactPlanValid l0 x1.f0 x1.f1 l2 hm0 hin0_3 (by have := hr1_1.2.1; unfold maxLen; exact this) hm2 hw2
 refine (laws_FnExactPlanValid.calls k _ _ l0 x1.f0 _ _ x1.f1 _ _ l2 true W hr0 hc0 hr1_1 hc1_1 hr2 hc2 h).mono fun e W' ⟨he, hd⟩ => ?_
 have bel : Below W.heap.size W W' := hd
 subst he
 exact ⟨_, rfl, _, _, _, [], _, [], hW', trodAll_mk1 (shut_bool Try.underlying4 _), (trodAll_cons_mk (Below.trod laidOut (by kernel_rfl) (of_decide_eq_true (by kernel_rfl)) k0 bel lt0) (trodAll_cons_mk (Below.trod laidOut (by kernel_rfl) (of_decide_eq_true (by kernel_rfl)) k1 bel lt1) (trodAll_cons_mk (Below.trod laidOut (by kernel_rfl) (of_decide_eq_true (by kernel_rfl)) k2 bel lt2) trodAll_mk0))), rfl, bel.frame _, fun h => by cases h⟩
theorem over : Rows.fnExactPlanValidRow.holds Try.pinned (OpenSpec.ofChange Rows.fnExactPlanValidSpec) :=
 OpenClaim.holds_of_wide 4 Try.f4 rfl rfl rfl rfl rfl rfl rfl ⟨rfl, rfl, rfl, rfl, rfl⟩ rfl rfl rfl rfl rfl (by kernel_rfl) Try.func4 (by kernel_rfl)
  (of_decide_eq_true (by kernel_rfl)) (by unfold Func.isWrapper; first | (rw [if_pos (by decide +kernel)]; kernel_rfl) | (rw [if_neg (by decide +kernel)]; exact ⟨rfl, rfl⟩))
  (fun os started H enc _ => lifted os started H enc)
theorem proved : Rows.FnExactPlanValidSaid := over
#print axioms proved
end Go.Proofs.Ytoaigcdoblnmhaa.fnExactPlanValid
namespace Go.Proofs.Ytoaigcdoblnmhaa
/-- The row, under a short name, for the claim. -/
theorem fnExactPlanValid_holds : Rows.FnExactPlanValidSaid := fnExactPlanValid.proved
end Go.Proofs.Ytoaigcdoblnmhaa
