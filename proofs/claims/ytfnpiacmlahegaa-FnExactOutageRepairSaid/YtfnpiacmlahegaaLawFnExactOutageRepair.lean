import Derived.Test.YtfnpiacmlahegaaRows
import Derived.Test.YtfnpiacmlahegaaVSPRpx26
import Derived.Test.YtfnpiacmlahegaaVST
import Derived.WalkKit
import Derived.ProofKit
import Derived.OpenShut
import Derived.ShutString
import Derived.ChangeOld
import Derived.Below
import Derived.SizedLaws
/- Written by the session's own driver (wip/tools/gprint.sh) over the kit's printing program: the machine side of a group of laws. Not trusted: the kernel checks it. -/
namespace Go.Proofs.Ytfnpiacmlahegaa.fnExactOutageRepair
open Go.ChangeShapes Go.WideShapes Go.ChangeAt Go.RowKit Go.Proofs.Ytfnpiacmlahegaa.Op Go.Proofs.Ytfnpiacmlahegaa.PRp Go.Proofs.YtfnpiacmlahegaaW.PrintWords
open Go.ChangeMaps (open_string shut_string)
set_option linter.unusedVariables false
theorem own : ownKnob Try.prog.godebug = none := by kernel_rfl
theorem laidOut : laidOutB Try.prog = true := by kernel_rfl
theorem opens59 : Opens Try.prog k59 59 :=
 opens_struct (g := fun a => ⟨a.1, a.2.1, a.2.2.1, a.2.2.2⟩) (ts := [3, 3, 3, 23]) (fun _ => rfl) Try.underlying59 (by kernel_rfl) (by kernel_rfl) (by rfl) (opensL_cons (opens_int Try.underlying3) (opensL_cons (opens_int Try.underlying3) (opensL_cons (opens_int Try.underlying3) (opensL_one (opens_slice Try.underlying23 (by kernel_rfl) (opens_int Try.underlying3))))))
theorem opens39 : Opens Try.prog k39 39 :=
 opens_struct (g := fun a => ⟨a.1, a.2⟩) (ts := [3, 23]) (fun _ => rfl) Try.underlying39 (by kernel_rfl) (by kernel_rfl) (by rfl) (opensL_cons (opens_int Try.underlying3) (opensL_one (opens_slice Try.underlying23 (by kernel_rfl) (opens_int Try.underlying3))))
theorem opens25 : Opens Try.prog k25 25 :=
 opens_struct (g := fun a => ⟨a.1, a.2.1, a.2.2⟩) (ts := [3, 3, 3]) (fun _ => rfl) Try.underlying25 (by kernel_rfl) (by kernel_rfl) (by rfl) (opensL_cons (opens_int Try.underlying3) (opensL_cons (opens_int Try.underlying3) (opensL_one (opens_int Try.underlying3))))
set_option maxRecDepth 100000 in
theorem lifted (os : Os) (started : os.Started) (H : Type) (enc : TypeId × Value → H) :
    ReturnsInHanded {} Try.checked os 8 .any (Rows.fnExactOutageRepairSpec.pre6 enc Try.prog Try.f8 Rows.fnExactOutageRepairRow.domain false) (Rows.fnExactOutageRepairSpec.post enc Try.prog Try.f8 false true false false) := by
 refine returnsInHanded_of_change_sized (C := Try.checked) own started (by kernel_rfl) Try.func8
  (ChangeSpec.witness6 (enc := enc) (C := Try.checked) false ⟨#[], #[.slice none 0 0, (.agg #[(.int .i64 0), (.slice none 0 0)]), .slice none 0 0, (.agg #[(.int .i64 0), (.int .i64 0), (.int .i64 0)])], []⟩ 8 (by kernel_rfl) (by kernel_rfl) (by kernel_rfl) (by kernel_rfl)) ?_
 intro W base args ds gs before hval0 hW hcnd hsz0 _
 have hsz : (DataW.weightsEach Try.prog (Try.f8.params.toList ++ Rows.fnExactOutageRepairSpec.plain.varTypes Try.prog) (ds ++ gs)).all (· ≤ reachBytes) = true := hsz0
 have hval : ∀ (j : Nat) t v, Try.f8.params[j]? = some t → args[j]? = some v → Value.okWide Try.prog W .any base t v := hval0
 have hW' := hW
 obtain ⟨p, q, hA0, hV, rfl, hfz, hnd⟩ := hW
 have hA : DataW.TrodAll enc Try.prog W 0 (fun _ => true) true Try.f8.params.toList args.toList ds p := hA0
 rw [Try.params8] at hA hval hsz
 obtain ⟨v0, vs0, d0, ds0, p0, q0, hargs, rfl, rfl, h0, r0⟩ := trodAll_cons hA
 obtain ⟨v1, vs1, d1, ds1, p1, q1, rfl, rfl, rfl, h1, r1⟩ := trodAll_cons r0
 obtain ⟨v2, vs2, d2, ds2, p2, q2, rfl, rfl, rfl, h2, r2⟩ := trodAll_cons r1
 obtain ⟨v3, vs3, d3, ds3, p3, q3, rfl, rfl, rfl, h3, r3⟩ := trodAll_cons r2
 obtain ⟨rfl, rfl, rfl⟩ := trodAll_nil r3
 obtain rfl : args = #[v0, v1, v2, v3] := by cases args; simp_all
 obtain ⟨rfl, rfl⟩ := trodVars_none hV
 obtain ⟨b0, len0, cap0, rfl⟩ := okWide_slice Try.underlying22 (hval 0 22 v0 rfl rfl)
 have k0 := h0
 have lt0 : ∀ x ∈ p0, x.block < W.heap.size := by obtain ⟨m, hm⟩ := k0; exact DataW.trod_lt m _ _ _ hm
 obtain ⟨fuel0, hf0⟩ := h0
 obtain ⟨A0, l0, c0, hcs0, hc0, hm0, hr0⟩ := opens_row Try.underlying22 (by kernel_rfl) opens59 hf0
 simp [Value.cells] at hcs0
 obtain ⟨rfl, rfl, rfl⟩ := hcs0
 have hin0_3 : ∀ x ∈ l0, x.f3.length ≤ maxLen := C_all hr0 (fun x cs hK => by obtain ⟨A3, c3, _, _, g3⟩ := k59_open hK; exact g3.2.1)
 obtain ⟨cs1, rfl, hs1⟩ := okWide_struct Try.underlying39 (hval 1 39 v1 rfl rfl)
 have k1 := h1
 have lt1 : ∀ x ∈ p1, x.block < W.heap.size := by obtain ⟨m, hm⟩ := k1; exact DataW.trod_lt m _ _ _ hm
 obtain ⟨fuel1, hf1⟩ := h1
 obtain ⟨x1, hx1⟩ := opens39 _ _ _ _ _ _ _ _ _ hf1
 obtain ⟨A1_1, c1_1, hx1', hc1_1, hr1_1⟩ := k39_open hx1
 obtain rfl : cs1 = #[.int .i64 x1.f0, .slice A1_1 x1.f1.length c1_1] := by cases cs1; simp [Value.cells] at hx1'; simp [hx1']
 obtain ⟨b2, len2, cap2, rfl⟩ := okWide_slice Try.underlying23 (hval 2 23 v2 rfl rfl)
 have k2 := h2
 have lt2 : ∀ x ∈ p2, x.block < W.heap.size := by obtain ⟨m, hm⟩ := k2; exact DataW.trod_lt m _ _ _ hm
 obtain ⟨fuel2, hf2⟩ := h2
 obtain ⟨l2, e2, hr2, hc2, hm2, hw2⟩ : ∃ l : List Int, len2 = l.length ∧ Kd.C (Kd.int .i64) W b2 l.length l ∧ l.length ≤ cap2 ∧ l.length ≤ maxLen ∧ ∀ x ∈ l, (Lit.int .i64 x).wf = true := opens_ints Try.underlying23 Try.underlying3 (by kernel_rfl) hf2
 subst e2
 obtain ⟨cs3, rfl, hs3⟩ := okWide_struct Try.underlying25 (hval 3 25 v3 rfl rfl)
 have k3 := h3
 have lt3 : ∀ x ∈ p3, x.block < W.heap.size := by obtain ⟨m, hm⟩ := k3; exact DataW.trod_lt m _ _ _ hm
 obtain ⟨fuel3, hf3⟩ := h3
 obtain ⟨x3, hx3⟩ := opens25 _ _ _ _ _ _ _ _ _ hf3
 have hx3' := k25_open hx3
 obtain rfl : cs3 = #[.int .i64 x3.f0, .int .i64 x3.f1, .int .i64 x3.f2] := by cases cs3; simp [Value.cells] at hx3'; simp [hx3']
 clear hA0 hval0 hsz0 hsz
 obtain ⟨k, h⟩ := Pure.FnExactOutageRepair l0 x1.f0 x1.f1 l2 x3.f0 x3.f1 x3.f2 hm0 hin0_3 (by have := hr1_1.2.1; unfold maxLen; exact this) hm2 hw2
 refine (laws_FnExactOutageRepair.calls k _ _ l0 x1.f0 _ _ x1.f1 _ _ l2 x3.f0 x3.f1 x3.f2 true W hr0 hc0 hr1_1 hc1_1 hr2 hc2 h).mono fun e W' ⟨he, hd⟩ => ?_
 have bel : Below W.heap.size W W' := hd
 subst he
 exact ⟨_, rfl, _, _, _, [], _, [], hW', trodAll_mk1 (shut_bool Try.underlying4 _), (trodAll_cons_mk (Below.trod laidOut (by kernel_rfl) (of_decide_eq_true (by kernel_rfl)) k0 bel lt0) (trodAll_cons_mk (Below.trod laidOut (by kernel_rfl) (of_decide_eq_true (by kernel_rfl)) k1 bel lt1) (trodAll_cons_mk (Below.trod laidOut (by kernel_rfl) (of_decide_eq_true (by kernel_rfl)) k2 bel lt2) (trodAll_cons_mk (Below.trod laidOut (by kernel_rfl) (of_decide_eq_true (by kernel_rfl)) k3 bel lt3) trodAll_mk0)))), rfl, bel.frame _, fun h => by cases h⟩
theorem over : Rows.fnExactOutageRepairRow.holds Try.pinned (OpenSpec.ofChange Rows.fnExactOutageRepairSpec) :=
 OpenClaim.holds_of_wide 8 Try.f8 rfl rfl rfl rfl rfl rfl rfl ⟨rfl, rfl, rfl, rfl, rfl⟩ rfl rfl rfl rfl rfl (by kernel_rfl) Try.func8 (by kernel_rfl)
  (of_decide_eq_true (by kernel_rfl)) (by unfold Func.isWrapper; first | (rw [if_pos (by decide +kernel)]; kernel_rfl) | (rw [if_neg (by decide +kernel)]; exact ⟨rfl, rfl⟩))
  (fun os started H enc _ => lifted os started H enc)
theorem proved : Rows.FnExactOutageRepairSaid := over
#print axioms proved
end Go.Proofs.Ytfnpiacmlahegaa.fnExactOutageRepair
namespace Go.Proofs.Ytfnpiacmlahegaa
/-- The row, under a short name, for the claim. -/
theorem fnExactOutageRepair_holds : Rows.FnExactOutageRepairSaid := fnExactOutageRepair.proved
end Go.Proofs.Ytfnpiacmlahegaa
