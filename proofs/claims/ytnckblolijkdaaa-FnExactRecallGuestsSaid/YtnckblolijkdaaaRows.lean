/-
  No cell of these rows narrows 'for every input' (looked for: loops, veiled, ifaces, maps, wideKeys, modest, calm, conditions, laid).
  DERIVED. THE GIVEN ROWS OF THIS SEAT. 11 by the template 'for every input the law returns true; each argument reads behind the call as it read before'; 0 by the template 'total and deterministic' (their statements: YtnckblolijkdaaaTotals.lean).
  GIVEN WITH THE SEED: the statements are not yours to turn. If you find one false, say at which input.
  Laid BY PROGRAM, IN A SANDBOX (cutbox-rows.mjs): the forced cells as the released guide's own fill.sh prints them over the translation a6c11fef205af3f8… (all of the seat's roots in one cut). By AI agents, Wed Nov 11 2026. No macro, syntax, notation, axiom, sorry.
-/
import Derived.Test.YtnckblolijkdaaaChecked
import GoSem.Claim
import GoSem.ClaimJoined
import GoSem.ClaimMapViews
import Derived.JoinedTies
import Derived.KernelRfl
namespace Go.Proofs.Ytnckblolijkdaaa
/- THE CELL 'sum', in the pinned program and in every row, IS THE sha256 OF THE DUMP (.gsa) THAT YtnckblolijkdaaaProg.lean LOADS. Nothing in Lean hashes anything: it is a label: what it is worth is what the hold of that sum in a sandbox is worth. -/
noncomputable def Try.pinned : Pinned := { name := "ytnckblolijkdaaa", sum := "a6c11fef205af3f80c60ab2549e2a387b3a6c7ccd06f619075ffdb95c6b596ec", checked := Try.checked }
namespace Rows
def none {H : Type} : Left H := { results := [], args := [] }

/-- 'laws.FnBatchesPart': WHATEVER THE INPUT: true; the input reads as it did. -/
def fnBatchesPartSpec : ChangeSpec := { name := "fnBatchesPart", fn := fun _ => fun
  | [d1, d2] => { results := [.lit (.bool true)], args := [d1, d2] }
  | _ => none }
def fnBatchesPartRow : OpenClaim := { program := "ytnckblolijkdaaa", sum := "a6c11fef205af3f80c60ab2549e2a387b3a6c7ccd06f619075ffdb95c6b596ec", func := "loop.example/messkitchen/laws.FnBatchesPart", spec := "fnBatchesPart", apart := false }
def FnBatchesPartSaid : Prop := fnBatchesPartRow.holds Try.pinned (OpenSpec.ofChange fnBatchesPartSpec)

/-- ITS FALSE NEIGHBOUR: 'it returns false'. Refute it at one input. -/
def fnBatchesPartWrong : ChangeSpec := { name := "fnBatchesPart", fn := fun _ => fun
  | [d1, d2] => { results := [.lit (.bool false)], args := [d1, d2] }
  | _ => none }
def FnBatchesPartWrongFalsely : Prop := fnBatchesPartRow.holds Try.pinned (OpenSpec.ofChange fnBatchesPartWrong)

/-- 'laws.FnExactBatchesValid': WHATEVER THE INPUT: true; the input reads as it did. -/
def fnExactBatchesValidSpec : ChangeSpec := { name := "fnExactBatchesValid", fn := fun _ => fun
  | [d] => { results := [.lit (.bool true)], args := [d] }
  | _ => none }
def fnExactBatchesValidRow : OpenClaim := { program := "ytnckblolijkdaaa", sum := "a6c11fef205af3f80c60ab2549e2a387b3a6c7ccd06f619075ffdb95c6b596ec", func := "loop.example/messkitchen/laws.FnExactBatchesValid", spec := "fnExactBatchesValid", apart := false }
def FnExactBatchesValidSaid : Prop := fnExactBatchesValidRow.holds Try.pinned (OpenSpec.ofChange fnExactBatchesValidSpec)

/-- ITS FALSE NEIGHBOUR: 'it returns false'. Refute it at one input. -/
def fnExactBatchesValidWrong : ChangeSpec := { name := "fnExactBatchesValid", fn := fun _ => fun
  | [d] => { results := [.lit (.bool false)], args := [d] }
  | _ => none }
def FnExactBatchesValidWrongFalsely : Prop := fnExactBatchesValidRow.holds Try.pinned (OpenSpec.ofChange fnExactBatchesValidWrong)

/-- 'laws.FnRecallBatches': WHATEVER THE INPUT: true; the input reads as it did. -/
def fnRecallBatchesSpec : ChangeSpec := { name := "fnRecallBatches", fn := fun _ => fun
  | [d] => { results := [.lit (.bool true)], args := [d] }
  | _ => none }
def fnRecallBatchesRow : OpenClaim := { program := "ytnckblolijkdaaa", sum := "a6c11fef205af3f80c60ab2549e2a387b3a6c7ccd06f619075ffdb95c6b596ec", func := "loop.example/messkitchen/laws.FnRecallBatches", spec := "fnRecallBatches", apart := false }
def FnRecallBatchesSaid : Prop := fnRecallBatchesRow.holds Try.pinned (OpenSpec.ofChange fnRecallBatchesSpec)

/-- ITS FALSE NEIGHBOUR: 'it returns false'. Refute it at one input. -/
def fnRecallBatchesWrong : ChangeSpec := { name := "fnRecallBatches", fn := fun _ => fun
  | [d] => { results := [.lit (.bool false)], args := [d] }
  | _ => none }
def FnRecallBatchesWrongFalsely : Prop := fnRecallBatchesRow.holds Try.pinned (OpenSpec.ofChange fnRecallBatchesWrong)

/-- 'laws.FnExactRecallBatches': WHATEVER THE INPUT: true; the input reads as it did. -/
def fnExactRecallBatchesSpec : ChangeSpec := { name := "fnExactRecallBatches", fn := fun _ => fun
  | [d1, d2] => { results := [.lit (.bool true)], args := [d1, d2] }
  | _ => none }
def fnExactRecallBatchesRow : OpenClaim := { program := "ytnckblolijkdaaa", sum := "a6c11fef205af3f80c60ab2549e2a387b3a6c7ccd06f619075ffdb95c6b596ec", func := "loop.example/messkitchen/laws.FnExactRecallBatches", spec := "fnExactRecallBatches", apart := false }
def FnExactRecallBatchesSaid : Prop := fnExactRecallBatchesRow.holds Try.pinned (OpenSpec.ofChange fnExactRecallBatchesSpec)

/-- ITS FALSE NEIGHBOUR: 'it returns false'. Refute it at one input. -/
def fnExactRecallBatchesWrong : ChangeSpec := { name := "fnExactRecallBatches", fn := fun _ => fun
  | [d1, d2] => { results := [.lit (.bool false)], args := [d1, d2] }
  | _ => none }
def FnExactRecallBatchesWrongFalsely : Prop := fnExactRecallBatchesRow.holds Try.pinned (OpenSpec.ofChange fnExactRecallBatchesWrong)

/-- 'laws.FnPlatesPart': WHATEVER THE INPUT: true; the input reads as it did. -/
def fnPlatesPartSpec : ChangeSpec := { name := "fnPlatesPart", fn := fun _ => fun
  | [d1, d2] => { results := [.lit (.bool true)], args := [d1, d2] }
  | _ => none }
def fnPlatesPartRow : OpenClaim := { program := "ytnckblolijkdaaa", sum := "a6c11fef205af3f80c60ab2549e2a387b3a6c7ccd06f619075ffdb95c6b596ec", func := "loop.example/messkitchen/laws.FnPlatesPart", spec := "fnPlatesPart", unfollowed := true, recurses := true, apart := false }
def FnPlatesPartSaid : Prop := fnPlatesPartRow.holds Try.pinned (OpenSpec.ofChange fnPlatesPartSpec)

/-- ITS FALSE NEIGHBOUR: 'it returns false'. Refute it at one input. -/
def fnPlatesPartWrong : ChangeSpec := { name := "fnPlatesPart", fn := fun _ => fun
  | [d1, d2] => { results := [.lit (.bool false)], args := [d1, d2] }
  | _ => none }
def FnPlatesPartWrongFalsely : Prop := fnPlatesPartRow.holds Try.pinned (OpenSpec.ofChange fnPlatesPartWrong)

/-- 'laws.FnPlatesWrong': WHATEVER THE INPUT: true; the input reads as it did. -/
def fnPlatesWrongSpec : ChangeSpec := { name := "fnPlatesWrong", fn := fun _ => fun
  | [d] => { results := [.lit (.bool true)], args := [d] }
  | _ => none }
def fnPlatesWrongRow : OpenClaim := { program := "ytnckblolijkdaaa", sum := "a6c11fef205af3f80c60ab2549e2a387b3a6c7ccd06f619075ffdb95c6b596ec", func := "loop.example/messkitchen/laws.FnPlatesWrong", spec := "fnPlatesWrong", unfollowed := true, recurses := true, apart := false }
def FnPlatesWrongSaid : Prop := fnPlatesWrongRow.holds Try.pinned (OpenSpec.ofChange fnPlatesWrongSpec)

/-- ITS FALSE NEIGHBOUR: 'it returns false'. Refute it at one input. -/
def fnPlatesWrongWrong : ChangeSpec := { name := "fnPlatesWrong", fn := fun _ => fun
  | [d] => { results := [.lit (.bool false)], args := [d] }
  | _ => none }
def FnPlatesWrongWrongFalsely : Prop := fnPlatesWrongRow.holds Try.pinned (OpenSpec.ofChange fnPlatesWrongWrong)

/-- 'laws.FnExactPlatesValid': WHATEVER THE INPUT: true; the input reads as it did. -/
def fnExactPlatesValidSpec : ChangeSpec := { name := "fnExactPlatesValid", fn := fun _ => fun
  | [d1, d2] => { results := [.lit (.bool true)], args := [d1, d2] }
  | _ => none }
def fnExactPlatesValidRow : OpenClaim := { program := "ytnckblolijkdaaa", sum := "a6c11fef205af3f80c60ab2549e2a387b3a6c7ccd06f619075ffdb95c6b596ec", func := "loop.example/messkitchen/laws.FnExactPlatesValid", spec := "fnExactPlatesValid", unfollowed := true, recurses := true, apart := false }
def FnExactPlatesValidSaid : Prop := fnExactPlatesValidRow.holds Try.pinned (OpenSpec.ofChange fnExactPlatesValidSpec)

/-- ITS FALSE NEIGHBOUR: 'it returns false'. Refute it at one input. -/
def fnExactPlatesValidWrong : ChangeSpec := { name := "fnExactPlatesValid", fn := fun _ => fun
  | [d1, d2] => { results := [.lit (.bool false)], args := [d1, d2] }
  | _ => none }
def FnExactPlatesValidWrongFalsely : Prop := fnExactPlatesValidRow.holds Try.pinned (OpenSpec.ofChange fnExactPlatesValidWrong)

/-- 'laws.FnExactPlatesWrong': WHATEVER THE INPUT: true; the input reads as it did. -/
def fnExactPlatesWrongSpec : ChangeSpec := { name := "fnExactPlatesWrong", fn := fun _ => fun
  | [d1, d2] => { results := [.lit (.bool true)], args := [d1, d2] }
  | _ => none }
def fnExactPlatesWrongRow : OpenClaim := { program := "ytnckblolijkdaaa", sum := "a6c11fef205af3f80c60ab2549e2a387b3a6c7ccd06f619075ffdb95c6b596ec", func := "loop.example/messkitchen/laws.FnExactPlatesWrong", spec := "fnExactPlatesWrong", unfollowed := true, recurses := true, apart := false }
def FnExactPlatesWrongSaid : Prop := fnExactPlatesWrongRow.holds Try.pinned (OpenSpec.ofChange fnExactPlatesWrongSpec)

/-- ITS FALSE NEIGHBOUR: 'it returns false'. Refute it at one input. -/
def fnExactPlatesWrongWrong : ChangeSpec := { name := "fnExactPlatesWrong", fn := fun _ => fun
  | [d1, d2] => { results := [.lit (.bool false)], args := [d1, d2] }
  | _ => none }
def FnExactPlatesWrongWrongFalsely : Prop := fnExactPlatesWrongRow.holds Try.pinned (OpenSpec.ofChange fnExactPlatesWrongWrong)

/-- 'laws.FnRecallGuests': WHATEVER THE INPUT: true; the input reads as it did. -/
def fnRecallGuestsSpec : ChangeSpec := { name := "fnRecallGuests", fn := fun _ => fun
  | [d] => { results := [.lit (.bool true)], args := [d] }
  | _ => none }
def fnRecallGuestsRow : OpenClaim := { program := "ytnckblolijkdaaa", sum := "a6c11fef205af3f80c60ab2549e2a387b3a6c7ccd06f619075ffdb95c6b596ec", func := "loop.example/messkitchen/laws.FnRecallGuests", spec := "fnRecallGuests", unfollowed := true, recurses := true, apart := false }
def FnRecallGuestsSaid : Prop := fnRecallGuestsRow.holds Try.pinned (OpenSpec.ofChange fnRecallGuestsSpec)

/-- ITS FALSE NEIGHBOUR: 'it returns false'. Refute it at one input. -/
def fnRecallGuestsWrong : ChangeSpec := { name := "fnRecallGuests", fn := fun _ => fun
  | [d] => { results := [.lit (.bool false)], args := [d] }
  | _ => none }
def FnRecallGuestsWrongFalsely : Prop := fnRecallGuestsRow.holds Try.pinned (OpenSpec.ofChange fnRecallGuestsWrong)

/-- 'laws.FnRecallMore': WHATEVER THE INPUT: true; the input reads as it did. -/
def fnRecallMoreSpec : ChangeSpec := { name := "fnRecallMore", fn := fun _ => fun
  | [d1, d2] => { results := [.lit (.bool true)], args := [d1, d2] }
  | _ => none }
def fnRecallMoreRow : OpenClaim := { program := "ytnckblolijkdaaa", sum := "a6c11fef205af3f80c60ab2549e2a387b3a6c7ccd06f619075ffdb95c6b596ec", func := "loop.example/messkitchen/laws.FnRecallMore", spec := "fnRecallMore", unfollowed := true, recurses := true, apart := false }
def FnRecallMoreSaid : Prop := fnRecallMoreRow.holds Try.pinned (OpenSpec.ofChange fnRecallMoreSpec)

/-- ITS FALSE NEIGHBOUR: 'it returns false'. Refute it at one input. -/
def fnRecallMoreWrong : ChangeSpec := { name := "fnRecallMore", fn := fun _ => fun
  | [d1, d2] => { results := [.lit (.bool false)], args := [d1, d2] }
  | _ => none }
def FnRecallMoreWrongFalsely : Prop := fnRecallMoreRow.holds Try.pinned (OpenSpec.ofChange fnRecallMoreWrong)

/-- 'laws.FnExactRecallGuests': WHATEVER THE INPUT: true; the input reads as it did. -/
def fnExactRecallGuestsSpec : ChangeSpec := { name := "fnExactRecallGuests", fn := fun _ => fun
  | [d1, d2, d3] => { results := [.lit (.bool true)], args := [d1, d2, d3] }
  | _ => none }
def fnExactRecallGuestsRow : OpenClaim := { program := "ytnckblolijkdaaa", sum := "a6c11fef205af3f80c60ab2549e2a387b3a6c7ccd06f619075ffdb95c6b596ec", func := "loop.example/messkitchen/laws.FnExactRecallGuests", spec := "fnExactRecallGuests", unfollowed := true, recurses := true, apart := false }
def FnExactRecallGuestsSaid : Prop := fnExactRecallGuestsRow.holds Try.pinned (OpenSpec.ofChange fnExactRecallGuestsSpec)

/-- ITS FALSE NEIGHBOUR: 'it returns false'. Refute it at one input. -/
def fnExactRecallGuestsWrong : ChangeSpec := { name := "fnExactRecallGuests", fn := fun _ => fun
  | [d1, d2, d3] => { results := [.lit (.bool false)], args := [d1, d2, d3] }
  | _ => none }
def FnExactRecallGuestsWrongFalsely : Prop := fnExactRecallGuestsRow.holds Try.pinned (OpenSpec.ofChange fnExactRecallGuestsWrong)

/- THE SECOND FORM. 'bulk': how many values and letters a reading holds, each counted each time it is reached (what is shared counts as often as it is met; a slice's spare places count too). A statement '..UptoSaid' is the law's where the arguments, and the package variables that the reading takes, are together of bulk at most 1048576: NARROWER than '..Said'. Prove '..Said' where nothing that the law and all that it calls make is longer than what came in: it says more and counts as full. Else prove '..UptoSaid'. A law counts once. -/
mutual
def uptoBulk {H : Type} : DataW H → Nat
  | .lit (.string bytes) => bytes.length + 1
  | .lit _ => 1
  | .nil => 1
  | .ptr d => uptoBulk d + 1
  | .slice elems spare => uptoBulkAll elems + uptoBulkAll spare + 1
  | .agg parts => uptoBulkAll parts + 1
  | .iface _ d => uptoBulk d + 1
  | .map entries => uptoBulkEntries entries + 1
  | .held _ => 1
def uptoBulkAll {H : Type} : List (DataW H) → Nat
  | [] => 0
  | d :: r => uptoBulk d + uptoBulkAll r
def uptoBulkEntries {H : Type} : List (Lit × DataW H) → Nat
  | [] => 0
  | x :: r => uptoBulkEntry x + uptoBulkEntries r
def uptoBulkEntry {H : Type} : Lit × DataW H → Nat
  | (.string bytes, d) => bytes.length + uptoBulk d + 1
  | (_, d) => uptoBulk d + 1
 end
def uptoSmall : (H : Type) → List (DataW H) → Bool := fun _ ds => decide (uptoBulkAll ds ≤ 1048576)
def OpenSpec.upto (s : _root_.Go.ChangeSpec) : _root_.Go.OpenSpec := { _root_.Go.OpenSpec.ofChange s with cond := some uptoSmall }

/-- 'laws.FnBatchesPart', WHERE WHAT IT READS IS OF BULK AT MOST 1048576: true; the input reads as it did. -/
def fnBatchesPartUptoRow : OpenClaim := { program := "ytnckblolijkdaaa", sum := "a6c11fef205af3f80c60ab2549e2a387b3a6c7ccd06f619075ffdb95c6b596ec", func := "loop.example/messkitchen/laws.FnBatchesPart", spec := "fnBatchesPart", apart := false, narrowed := true }
def FnBatchesPartUptoSaid : Prop := fnBatchesPartUptoRow.holds Try.pinned (OpenSpec.upto fnBatchesPartSpec)

/-- 'laws.FnExactBatchesValid', WHERE WHAT IT READS IS OF BULK AT MOST 1048576: true; the input reads as it did. -/
def fnExactBatchesValidUptoRow : OpenClaim := { program := "ytnckblolijkdaaa", sum := "a6c11fef205af3f80c60ab2549e2a387b3a6c7ccd06f619075ffdb95c6b596ec", func := "loop.example/messkitchen/laws.FnExactBatchesValid", spec := "fnExactBatchesValid", apart := false, narrowed := true }
def FnExactBatchesValidUptoSaid : Prop := fnExactBatchesValidUptoRow.holds Try.pinned (OpenSpec.upto fnExactBatchesValidSpec)

/-- 'laws.FnRecallBatches', WHERE WHAT IT READS IS OF BULK AT MOST 1048576: true; the input reads as it did. -/
def fnRecallBatchesUptoRow : OpenClaim := { program := "ytnckblolijkdaaa", sum := "a6c11fef205af3f80c60ab2549e2a387b3a6c7ccd06f619075ffdb95c6b596ec", func := "loop.example/messkitchen/laws.FnRecallBatches", spec := "fnRecallBatches", apart := false, narrowed := true }
def FnRecallBatchesUptoSaid : Prop := fnRecallBatchesUptoRow.holds Try.pinned (OpenSpec.upto fnRecallBatchesSpec)

/-- 'laws.FnExactRecallBatches', WHERE WHAT IT READS IS OF BULK AT MOST 1048576: true; the input reads as it did. -/
def fnExactRecallBatchesUptoRow : OpenClaim := { program := "ytnckblolijkdaaa", sum := "a6c11fef205af3f80c60ab2549e2a387b3a6c7ccd06f619075ffdb95c6b596ec", func := "loop.example/messkitchen/laws.FnExactRecallBatches", spec := "fnExactRecallBatches", apart := false, narrowed := true }
def FnExactRecallBatchesUptoSaid : Prop := fnExactRecallBatchesUptoRow.holds Try.pinned (OpenSpec.upto fnExactRecallBatchesSpec)

/-- 'laws.FnPlatesPart', WHERE WHAT IT READS IS OF BULK AT MOST 1048576: true; the input reads as it did. -/
def fnPlatesPartUptoRow : OpenClaim := { program := "ytnckblolijkdaaa", sum := "a6c11fef205af3f80c60ab2549e2a387b3a6c7ccd06f619075ffdb95c6b596ec", func := "loop.example/messkitchen/laws.FnPlatesPart", spec := "fnPlatesPart", unfollowed := true, recurses := true, apart := false, narrowed := true }
def FnPlatesPartUptoSaid : Prop := fnPlatesPartUptoRow.holds Try.pinned (OpenSpec.upto fnPlatesPartSpec)

/-- 'laws.FnPlatesWrong', WHERE WHAT IT READS IS OF BULK AT MOST 1048576: true; the input reads as it did. -/
def fnPlatesWrongUptoRow : OpenClaim := { program := "ytnckblolijkdaaa", sum := "a6c11fef205af3f80c60ab2549e2a387b3a6c7ccd06f619075ffdb95c6b596ec", func := "loop.example/messkitchen/laws.FnPlatesWrong", spec := "fnPlatesWrong", unfollowed := true, recurses := true, apart := false, narrowed := true }
def FnPlatesWrongUptoSaid : Prop := fnPlatesWrongUptoRow.holds Try.pinned (OpenSpec.upto fnPlatesWrongSpec)

/-- 'laws.FnExactPlatesValid', WHERE WHAT IT READS IS OF BULK AT MOST 1048576: true; the input reads as it did. -/
def fnExactPlatesValidUptoRow : OpenClaim := { program := "ytnckblolijkdaaa", sum := "a6c11fef205af3f80c60ab2549e2a387b3a6c7ccd06f619075ffdb95c6b596ec", func := "loop.example/messkitchen/laws.FnExactPlatesValid", spec := "fnExactPlatesValid", unfollowed := true, recurses := true, apart := false, narrowed := true }
def FnExactPlatesValidUptoSaid : Prop := fnExactPlatesValidUptoRow.holds Try.pinned (OpenSpec.upto fnExactPlatesValidSpec)

/-- 'laws.FnExactPlatesWrong', WHERE WHAT IT READS IS OF BULK AT MOST 1048576: true; the input reads as it did. -/
def fnExactPlatesWrongUptoRow : OpenClaim := { program := "ytnckblolijkdaaa", sum := "a6c11fef205af3f80c60ab2549e2a387b3a6c7ccd06f619075ffdb95c6b596ec", func := "loop.example/messkitchen/laws.FnExactPlatesWrong", spec := "fnExactPlatesWrong", unfollowed := true, recurses := true, apart := false, narrowed := true }
def FnExactPlatesWrongUptoSaid : Prop := fnExactPlatesWrongUptoRow.holds Try.pinned (OpenSpec.upto fnExactPlatesWrongSpec)

/-- 'laws.FnRecallGuests', WHERE WHAT IT READS IS OF BULK AT MOST 1048576: true; the input reads as it did. -/
def fnRecallGuestsUptoRow : OpenClaim := { program := "ytnckblolijkdaaa", sum := "a6c11fef205af3f80c60ab2549e2a387b3a6c7ccd06f619075ffdb95c6b596ec", func := "loop.example/messkitchen/laws.FnRecallGuests", spec := "fnRecallGuests", unfollowed := true, recurses := true, apart := false, narrowed := true }
def FnRecallGuestsUptoSaid : Prop := fnRecallGuestsUptoRow.holds Try.pinned (OpenSpec.upto fnRecallGuestsSpec)

/-- 'laws.FnRecallMore', WHERE WHAT IT READS IS OF BULK AT MOST 1048576: true; the input reads as it did. -/
def fnRecallMoreUptoRow : OpenClaim := { program := "ytnckblolijkdaaa", sum := "a6c11fef205af3f80c60ab2549e2a387b3a6c7ccd06f619075ffdb95c6b596ec", func := "loop.example/messkitchen/laws.FnRecallMore", spec := "fnRecallMore", unfollowed := true, recurses := true, apart := false, narrowed := true }
def FnRecallMoreUptoSaid : Prop := fnRecallMoreUptoRow.holds Try.pinned (OpenSpec.upto fnRecallMoreSpec)

/-- 'laws.FnExactRecallGuests', WHERE WHAT IT READS IS OF BULK AT MOST 1048576: true; the input reads as it did. -/
def fnExactRecallGuestsUptoRow : OpenClaim := { program := "ytnckblolijkdaaa", sum := "a6c11fef205af3f80c60ab2549e2a387b3a6c7ccd06f619075ffdb95c6b596ec", func := "loop.example/messkitchen/laws.FnExactRecallGuests", spec := "fnExactRecallGuests", unfollowed := true, recurses := true, apart := false, narrowed := true }
def FnExactRecallGuestsUptoSaid : Prop := fnExactRecallGuestsUptoRow.holds Try.pinned (OpenSpec.upto fnExactRecallGuestsSpec)

end Rows
end Go.Proofs.Ytnckblolijkdaaa
