import Derived.Test.YtfnpiacmlahegaaRows
import Derived.Test.YtfnpiacmlahegaaVQPRpx22
import Derived.Test.YtfnpiacmlahegaaVQT
import Derived.WalkKit
import Derived.ProofKit
import Derived.OpenShut
import Derived.ShutString
import Derived.ChangeOld
import Derived.Below
import Derived.SizedLaws
/- Written by the session's own driver (wip/tools/gprint.sh) over the kit's printing program: the machine side of a group of laws. Not trusted: the kernel checks it. -/
namespace Go.Proofs.Ytfnpiacmlahegaa.fnExactPlanMake
open Go.ChangeShapes Go.WideShapes Go.ChangeAt Go.RowKit Go.Proofs.Ytfnpiacmlahegaa.Op Go.Proofs.Ytfnpiacmlahegaa.PRp Go.Proofs.YtfnpiacmlahegaaW.PrintWords
open Go.ChangeMaps (open_string shut_string)
set_option linter.unusedVariables false
theorem own : ownKnob Try.prog.godebug = none := by kernel_rfl
theorem laidOut : laidOutB Try.prog = true := by kernel_rfl
theorem opens59 : Opens Try.prog k59 59 :=
 opens_struct (g := fun a => ⟨a.1, a.2.1, a.2.2.1, a.2.2.2⟩) (ts := [3, 3, 3, 23]) (fun _ => rfl) Try.underlying59 (by kernel_rfl) (by kernel_rfl) (by rfl) (opensL_cons (opens_int Try.underlying3) (opensL_cons (opens_int Try.underlying3) (opensL_cons (opens_int Try.underlying3) (opensL_one (opens_slice Try.underlying23 (by kernel_rfl) (opens_int Try.underlying3))))))
theorem opens39 : Opens Try.prog k39 39 :=
 opens_struct (g := fun a => ⟨a.1, a.2⟩) (ts := [3, 23]) (fun _ => rfl) Try.underlying39 (by kernel_rfl) (by kernel_rfl) (by rfl) (opensL_cons (opens_int Try.underlying3) (opensL_one (opens_slice Try.underlying23 (by kernel_rfl) (opens_int Try.underlying3))))
set_option maxRecDepth 100000 in
theorem lifted (os : Os) (started : os.Started) (H : Type) (enc : TypeId × Value → H) :
    ReturnsInHanded {} Try.checked os 4 .any (Rows.fnExactPlanMakeSpec.pre6 enc Try.prog Try.f4 Rows.fnExactPlanMakeRow.domain false) (Rows.fnExactPlanMakeSpec.post enc Try.prog Try.f4 false true false false) := by
 refine returnsInHanded_of_change_sized (C := Try.checked) own started (by kernel_rfl) Try.func4
  (ChangeSpec.witness6 (enc := enc) (C := Try.checked) false ⟨#[], #[.slice none 0 0, (.agg #[(.int .i64 0), (.slice none 0 0)])], []⟩ 8 (by kernel_rfl) (by kernel_rfl) (by kernel_rfl) (by kernel_rfl)) ?_
 intro W base args ds gs before hval0 hW hcnd hsz0 _
 have hsz : (DataW.weightsEach Try.prog (Try.f4.params.toList ++ Rows.fnExactPlanMakeSpec.plain.varTypes Try.prog) (ds ++ gs)).all (· ≤ reachBytes) = true := hsz0
 have hval : ∀ (j : Nat) t v, Try.f4.params[j]? = some t → args[j]? = some v → Value.okWide Try.prog W .any base t v := hval0
 have hW' := hW
 obtain ⟨p, q, hA0, hV, rfl, hfz, hnd⟩ := hW
 have hA : DataW.TrodAll enc Try.prog W 0 (fun _ => true) true Try.f4.params.toList args.toList ds p := hA0
 rw [Try.params4] at hA hval hsz
 obtain ⟨v0, vs0, d0, ds0, p0, q0, hargs, rfl, rfl, h0, r0⟩ := trodAll_cons hA
 obtain ⟨v1, vs1, d1, ds1, p1, q1, rfl, rfl, rfl, h1, r1⟩ := trodAll_cons r0
 obtain ⟨rfl, rfl, rfl⟩ := trodAll_nil r1
 obtain rfl : args = #[v0, v1] := by cases args; simp_all
 obtain ⟨rfl, rfl⟩ := trodVars_none hV
 obtain ⟨b0, len0, cap0, rfl⟩ := okWide_slice Try.underlying22 (hval 0 22 v0 rfl rfl)
 have k0 := h0
 have lt0 : ∀ x ∈ p0, x.block < W.heap.size := by obtain ⟨m, hm⟩ := k0; exact DataW.trod_lt m _ _ _ hm
 obtain ⟨fuel0, hf0⟩ := h0
 obtain ⟨A0, l0, c0, hcs0, hc0, hm0, hr0⟩ := opens_row Try.underlying22 (by kernel_rfl) opens59 hf0
 simp [Value.cells] at hcs0
 obtain ⟨rfl, rfl, rfl⟩ := hcs0
 have hin0_3 : ∀ x ∈ l0, x.f3.length ≤ maxLen := C_all hr0 (fun x cs hK => by obtain ⟨A3, c3, _, _, g3⟩ := k59_open hK; exact g3.2.1)
 obtain ⟨cs1, rfl, hs1⟩ := okWide_struct Try.underlying39 (hval 1 39 v1 rfl rfl)
 have k1 := h1
 have lt1 : ∀ x ∈ p1, x.block < W.heap.size := by obtain ⟨m, hm⟩ := k1; exact DataW.trod_lt m _ _ _ hm
 obtain ⟨fuel1, hf1⟩ := h1
 obtain ⟨x1, hx1⟩ := opens39 _ _ _ _ _ _ _ _ _ hf1
 obtain ⟨A1_1, c1_1, hx1', hc1_1, hr1_1⟩ := k39_open hx1
 obtain rfl : cs1 = #[.int .i64 x1.f0, .slice A1_1 x1.f1.length c1_1] := by cases cs1; simp [Value.cells] at hx1'; simp [hx1']
 clear hA0 hval0 hsz0 hsz
 obtain ⟨k, h⟩ := Pure.FnExactPlanMake l0 x1.f0 x1.f1 hm0 hin0_3 (by have := hr1_1.2.1; unfold maxLen; exact this)
 refine (laws_FnExactPlanMake.calls k _ _ l0 x1.f0 _ _ x1.f1 true W hr0 hc0 hr1_1 hc1_1 h).mono fun e W' ⟨he, hd⟩ => ?_
 have bel : Below W.heap.size W W' := hd
 subst he
 exact ⟨_, rfl, _, _, _, [], _, [], hW', trodAll_mk1 (shut_bool Try.underlying4 _), (trodAll_cons_mk (Below.trod laidOut (by kernel_rfl) (of_decide_eq_true (by kernel_rfl)) k0 bel lt0) (trodAll_cons_mk (Below.trod laidOut (by kernel_rfl) (of_decide_eq_true (by kernel_rfl)) k1 bel lt1) trodAll_mk0)), rfl, bel.frame _, fun h => by cases h⟩
theorem over : Rows.fnExactPlanMakeRow.holds Try.pinned (OpenSpec.ofChange Rows.fnExactPlanMakeSpec) :=
 OpenClaim.holds_of_wide 4 Try.f4 rfl rfl rfl rfl rfl rfl rfl ⟨rfl, rfl, rfl, rfl, rfl⟩ rfl rfl rfl rfl rfl (by kernel_rfl) Try.func4 (by kernel_rfl)
  (of_decide_eq_true (by kernel_rfl)) (by unfold Func.isWrapper; first | (rw [if_pos (by decide +kernel)]; kernel_rfl) | (rw [if_neg (by decide +kernel)]; exact ⟨rfl, rfl⟩))
  (fun os started H enc _ => lifted os started H enc)
theorem proved : Rows.FnExactPlanMakeSaid := over
#print axioms proved
end Go.Proofs.Ytfnpiacmlahegaa.fnExactPlanMake
namespace Go.Proofs.Ytfnpiacmlahegaa
/-- The row, under a short name, for the claim. -/
theorem fnExactPlanMake_holds : Rows.FnExactPlanMakeSaid := fnExactPlanMake.proved
end Go.Proofs.Ytfnpiacmlahegaa
